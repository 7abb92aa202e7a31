import PyProof.Rows.All
import Wide.All
import OpenK.AllK
import Wide.FinOn
import KE.KStateDown
import Lean
import HandS.ForMost
import HandS.Defaults
import HandS.Head0
import HandS.Head1
import HandS.Head2
import HandS.HeadEnd
import HandS.HeadHook1
import HandS.HeadHook2
import PySem.Challenge.RW_stillsaid_k84_whole_fronts_and_rests
import HandS.Walk
import HandS.EndBits
import HandS.WideBits
import HandS.Conv
import HandS.TupAny
import HandS.Deep
import HandS.IsInst
import HandS.TupLe
import HandS.TupLen
import HandS.Zip
import PyProof.P3In
import KE.SortData
import PyProof.ReprRoads
import HandS.SortInts
import HandS.TupSets
import PyProof.SumAny
import KE.KIndexOf
import KE.GoesEnum
import HandS.DictComp
import PyProof.Rows.ReprOcc
set_option Elab.async false
set_option linter.all false
set_option maxRecDepth 100000
set_option maxHeartbeats 0
namespace Hd
open PySem PySem.Spec PyProof.Rows L2
def top (i : Nat) : Stmt := PySem.Challenge.pw_stillsaid_k84_whole_fronts_and_rests.main.body.getD i (.Pass ⟨0, 0, 0, 0⟩)
def d1 : He.DefD := ⟨("is_integer", none), "is_integer", "is_integer", defArgs (top 1), defBody (top 1), defScope (top 1), [], []⟩
def d2 : He.DefD := ⟨("is_within", none), "is_within", "is_within", defArgs (top 2), defBody (top 2), defScope (top 2), [], []⟩
def d3 : He.DefD := ⟨("is_tuple", none), "is_tuple", "is_tuple", defArgs (top 3), defBody (top 3), defScope (top 3), [], []⟩
def d4 : He.DefD := ⟨("are_rising", none), "are_rising", "are_rising", defArgs (top 4), defBody (top 4), defScope (top 4), [], []⟩
def d5 : He.DefD := ⟨("is_lot", none), "is_lot", "is_lot", defArgs (top 5), defBody (top 5), defScope (top 5), [], []⟩
def d15 : He.DefD := ⟨("is_strike_among", none), "is_strike_among", "is_strike_among", defArgs (top 15), defBody (top 15), defScope (top 15), [], []⟩
def d16 : He.DefD := ⟨("is_dispute_any", none), "is_dispute_any", "is_dispute_any", defArgs (top 16), defBody (top 16), defScope (top 16), [], []⟩
def d17 : He.DefD := ⟨("is_lot_of", none), "is_lot_of", "is_lot_of", defArgs (top 17), defBody (top 17), defScope (top 17), [], []⟩
def d18 : He.DefD := ⟨("want_dispute", none), "want_dispute", "want_dispute", defArgs (top 18), defBody (top 18), defScope (top 18), [], []⟩
def d19 : He.DefD := ⟨("want_more", none), "want_more", "want_more", defArgs (top 19), defBody (top 19), defScope (top 19), [], []⟩
def d21 : He.DefD := ⟨("struck_by", none), "struck_by", "struck_by", defArgs (top 21), defBody (top 21), defScope (top 21), [], []⟩
def d23 : He.DefD := ⟨("is_ahead_of", none), "is_ahead_of", "is_ahead_of", defArgs (top 23), defBody (top 23), defScope (top 23), [], []⟩
def d24 : He.DefD := ⟨("want_ahead", none), "want_ahead", "want_ahead", defArgs (top 24), defBody (top 24), defScope (top 24), [], []⟩
def d26 : He.DefD := ⟨("alone", none), "alone", "alone", defArgs (top 26), defBody (top 26), defScope (top 26), [], []⟩
def d27 : He.DefD := ⟨("rest_of", none), "rest_of", "rest_of", defArgs (top 27), defBody (top 27), defScope (top 27), [], []⟩
def d28 : He.DefD := ⟨("want_within", none), "want_within", "want_within", defArgs (top 28), defBody (top 28), defScope (top 28), [], []⟩
def d29 : He.DefD := ⟨("front", none), "front", "front", defArgs (top 29), defBody (top 29), defScope (top 29), [], []⟩
def d30 : He.DefD := ⟨("rest", none), "rest", "rest", defArgs (top 30), defBody (top 30), defScope (top 30), [], []⟩
def d31 : He.DefD := ⟨("is_behind", none), "is_behind", "is_behind", defArgs (top 31), defBody (top 31), defScope (top 31), [], []⟩
def d33 : He.DefD := ⟨("_law_pot", none), "_law_pot", "_law_pot", defArgs (top 33), defBody (top 33), defScope (top 33), [], []⟩
def d34 : He.DefD := ⟨("_law_draw", none), "_law_draw", "_law_draw", defArgs (top 34), defBody (top 34), defScope (top 34), [], []⟩
def d35 : He.DefD := ⟨("_law_dispute", none), "_law_dispute", "_law_dispute", defArgs (top 35), defBody (top 35), defScope (top 35), [], []⟩
def d36 : He.DefD := ⟨("_law_base", none), "_law_base", "_law_base", defArgs (top 36), defBody (top 36), defScope (top 36), [], []⟩
def d37 : He.DefD := ⟨("_law_alone", none), "_law_alone", "_law_alone", defArgs (top 37), defBody (top 37), defScope (top 37), [], []⟩
def d38 : He.DefD := ⟨("_law_rest", none), "_law_rest", "_law_rest", defArgs (top 38), defBody (top 38), defScope (top 38), [], []⟩
def d39 : He.DefD := ⟨("_law_right", none), "_law_right", "_law_right", defArgs (top 39), defBody (top 39), defScope (top 39), [], []⟩
def d40 : He.DefD := ⟨("law", none), "law", "law", defArgs (top 40), defBody (top 40), defScope (top 40), [], []⟩
def fn : List He.DefD := ([d1, d2, d3, d4, d5, d15, d16, d17, d18, d19, d21, d23, d24, d26, d27, d28] : List He.DefD) ++ ([d29, d30, d31, d33, d34, d35, d36, d37, d38, d39, d40] : List He.DefD)
def fa : List He.Fa := ([.glo "is_integer", .glo "is_within", .glo "is_tuple", .glo "are_rising", .glo "is_lot", .glo "is_strike_among", .glo "is_dispute_any", .glo "is_lot_of", .glo "want_dispute", .glo "want_more", .glo "struck_by", .glo "is_ahead_of", .glo "want_ahead", .glo "alone", .glo "rest_of", .glo "want_within"] : List He.Fa) ++ ([.glo "front", .glo "rest", .glo "is_behind", .glo "_law_pot", .glo "_law_draw", .glo "_law_dispute", .glo "_law_base", .glo "_law_alone", .glo "_law_rest", .glo "_law_right", .glo "law", .free "len", .free "isinstance", .free "all", .free "any", .free "sorted"] : List He.Fa) ++ ([.free "set", .free "list", .free "tuple", .free "range", .free "sum", .free "repr", .free "abs", .free "max", .free "min", .free "int", .free "divmod", .free "zip", .free "enumerate", .free "bool", .free "str", .str "DISPUTE" "dispute"] : List He.Fa) ++ ([.int "MOST_CLAIMS" 10] : List He.Fa)
abbrev R : PySem.W.OpenRow := PySem.W.OpenLaw.row PySem.Challenge.rw_stillsaid_k84_whole_fronts_and_rests
abbrev hk : PySem.W.Hook := He.hookD 4 fa fn
def ob (s : PySem.W.SharedT) : He.AlD := He.obsDG 4 fa fn (HandSHeadRun.getT s)
theorem ob_eq (s : PySem.W.SharedT) : ob s = hk.obs s.abs := He.obsDG_eq (HandSHeadRun.getT_eq s)
def loose : List PySem.Str := (["is_integer", "is_within", "is_tuple", "are_rising", "is_lot", "DisputeError", "InvalidDispute", "InvalidMore", "InvalidLot", "InvalidAhead", "DISPUTE", "MOST_CLAIMS", "is_strike_among", "is_dispute_any", "is_lot_of", "want_dispute"] : List PySem.Str) ++ (["want_more", "struck_by", "is_ahead_of", "want_ahead", "alone", "rest_of", "want_within", "front", "rest", "is_behind", "_law_pot", "_law_draw", "_law_dispute", "_law_base", "_law_alone", "_law_rest"] : List PySem.Str) ++ (["_law_right"] : List PySem.Str)
theorem run (w : World) : HandSHeadRun.RunEq R (PySem.W.view R.prog [40]) hk ob 3000 loose w := by
  intro os
  kernel_rfl
end Hd
/-! data, what represents it, readings over data -/
namespace Sd
open PySem PySem.Spec PyProof.Rows L2
abbrev D := PyData
mutual
def imm : D → Bool
  | .list _ => false
  | .dict _ => false
  | .tuple ds => immL ds
  | _ => true
def immL : List D → Bool
  | [] => true
  | d :: r => imm d && immL r
end
def keyD : Key → D
  | .inl i => .int i
  | .inr x => .str x
def tkeyD (ks : List Key) : D := .tuple (ks.map keyD)
def hide (H : Hp) (B : List Addr) : Hp := fun a => if a ∈ B then none else H a
theorem hide_some {H : Hp} {B : List Addr} {a : Addr} {o : HO} (h : hide H B a = some o) : a ∉ B ∧ H a = some o := by
  unfold hide at h
  split at h
  · cases h
  · exact ⟨by assumption, h⟩
theorem hide_of {H : Hp} {B : List Addr} {a : Addr} {o : HO} (hb : a ∉ B) (h : H a = some o) : hide H B a = some o := by
  unfold hide; rw [if_neg hb]; exact h
theorem hide_le (H : Hp) (B : List Addr) : Same (hide H B) H := fun _ _ h => (hide_some h).2
theorem hide_mono {H H' : Hp} {B B' : List Addr} (h : ∀ a o, a ∉ B → H a = some o → a ∉ B' ∧ H' a = some o) : Same (hide H B) (hide H' B') := fun a o e => by
  obtain ⟨h1, h2⟩ := hide_some e
  obtain ⟨h3, h4⟩ := h a o h1 h2
  exact hide_of h3 h4
/-- the pot's mark among dicts -/
def isPot : List (D × D) → Bool
  | [(.none, .none)] => true
  | _ => false
def potD : D := .dict [(.none, .none)]
def DcAt (H : Hp) (a : Addr) (keys : List D) (vs : List V) : Prop :=
  (∃ ks : List Key, ks.length = vs.length ∧ keys = ks.map keyD ∧ H a = some (.dK (ks.zip vs))) ∨
  (∃ ks : List (List Key), ks.length = vs.length ∧ keys = ks.map tkeyD ∧ H a = some (.dT (ks.zip vs)))
/-- how tuples are held: as the very objects that they are, or by their items alone -/
def frzOk : Bool := true
def TupO (vs : List V) (o : HO) : Prop := (frzOk = false ∧ o = .tup vs) ∨ (frzOk = true ∧ ∃ ob, o = .frz ob (.tup vs) ∧ ob.dict = none)
def TupAt (H : Hp) (a : Addr) (vs : List V) : Prop := ∃ o, TupO vs o ∧ H a = some o
theorem TupAt.two {H : Hp} {a : Addr} {vs : List V} (h : TupAt H a vs) : H a = some (.tup vs) ∨ ∃ o, H a = some (.frz o (.tup vs)) := by
  obtain ⟨o, ⟨_, rfl⟩ | ⟨_, ob, rfl, _⟩, e⟩ := h
  · exact .inl e
  · exact .inr ⟨ob, e⟩
theorem TupAt.sq {K : PySem.W.Frag} {H : Hp} {a : Addr} {vs : List V} (h : TupAt H a vs) : SqT K H a vs := by
  rcases h.two with h | ⟨o, h⟩
  · exact .inl (.inl h)
  · exact .inl (.inr ⟨o, h⟩)
theorem TupAt.mono {H H' : Hp} {a : Addr} {vs : List V} (s : Same H H') (h : TupAt H a vs) : TupAt H' a vs := by
  obtain ⟨o, z, e⟩ := h
  exact ⟨o, z, s _ _ e⟩
mutual
def Rep (K : PySem.W.Frag) (p : Addr) : D → Hp → V → Prop
  | .none, _, v => v = .non
  | .bool b, _, v => v = .bl b
  | .int i, _, v => v = .int i
  | .str x, _, v => v = .str x
  | .list ds, H, v => ∃ a vs, v = .ref a ∧ H a = some (.lst vs) ∧ RepL K p ds (hide H [a]) vs
  | .tuple ds, H, v => ∃ a vs, v = .ref a ∧ TupAt H a vs ∧ RepL K p ds H vs
  | .dict kvs, H, v => (isPot kvs = true ∧ v = .ref p) ∨ (isPot kvs = false ∧ ∃ a vs, v = .ref a ∧ DcAt H a (kvs.map (·.1)) vs ∧ RepKV K p kvs (hide H [a]) vs)
def RepL (K : PySem.W.Frag) (p : Addr) : List D → Hp → List V → Prop
  | [], _, vs => vs = []
  | d :: ds, H, vs => ∃ v r, vs = v :: r ∧ Rep K p d H v ∧ RepL K p ds H r
def RepKV (K : PySem.W.Frag) (p : Addr) : List (D × D) → Hp → List V → Prop
  | [], _, vs => vs = []
  | (_, d) :: ds, H, vs => ∃ v r, vs = v :: r ∧ Rep K p d H v ∧ RepKV K p ds H r
end
theorem Rd_mono {H H' : Hp} {a : Addr} {u : HO} (s : Same H H') (h : Rd H a u) : Rd H' a u := by
  rcases h with h | ⟨o, h⟩
  · exact .inl (s _ _ h)
  · exact .inr ⟨o, s _ _ h⟩
theorem SqT_mono {K : PySem.W.Frag} {H H' : Hp} {a : Addr} {xs : List V} (s : Same H H') (h : SqT K H a xs) : SqT K H' a xs := by
  rcases h with h | h
  · exact .inl (Rd_mono s h)
  · exact .inr h
theorem DcAt_mono {H H' : Hp} {a : Addr} {ks : List D} {vs : List V} (s : Same H H') (h : DcAt H a ks vs) : DcAt H' a ks vs := by
  rcases h with ⟨k, h1, h2, h3⟩ | ⟨k, h1, h2, h3⟩
  · exact .inl ⟨k, h1, h2, s _ _ h3⟩
  · exact .inr ⟨k, h1, h2, s _ _ h3⟩
theorem hide_same {H H' : Hp} (B : List Addr) (s : Same H H') : Same (hide H B) (hide H' B) := hide_mono fun a o h e => ⟨h, s a o e⟩
section
variable {K : PySem.W.Frag} {p : Addr}
mutual
theorem Rep.mono : ∀ {d : D} {H H' : Hp} {v : V}, Same H H' → Rep K p d H v → Rep K p d H' v
  | .none, _, _, _, _, h => h
  | .bool _, _, _, _, _, h => h
  | .int _, _, _, _, _, h => h
  | .str _, _, _, _, _, h => h
  | .list ds, _, _, _, s, h => by
    obtain ⟨a, vs, e, h1, h2⟩ := h
    exact ⟨a, vs, e, s _ _ h1, RepL.mono (hide_same _ s) h2⟩
  | .tuple ds, _, _, _, s, h => by
    obtain ⟨a, vs, e, h1, h2⟩ := h
    exact ⟨a, vs, e, h1.mono s, RepL.mono s h2⟩
  | .dict kvs, _, _, _, s, h => by
    rcases h with h | ⟨h0, a, vs, e, h1, h2⟩
    · exact .inl h
    · exact .inr ⟨h0, a, vs, e, DcAt_mono s h1, RepKV.mono (hide_same _ s) h2⟩
theorem RepL.mono : ∀ {ds : List D} {H H' : Hp} {vs : List V}, Same H H' → RepL K p ds H vs → RepL K p ds H' vs
  | [], _, _, _, _, h => h
  | d :: ds, _, _, _, s, h => by
    obtain ⟨v, r, e, h1, h2⟩ := h
    exact ⟨v, r, e, Rep.mono s h1, RepL.mono s h2⟩
theorem RepKV.mono : ∀ {ds : List (D × D)} {H H' : Hp} {vs : List V}, Same H H' → RepKV K p ds H vs → RepKV K p ds H' vs
  | [], _, _, _, _, h => h
  | (_, d) :: ds, _, _, _, s, h => by
    obtain ⟨v, r, e, h1, h2⟩ := h
    exact ⟨v, r, e, Rep.mono s h1, RepKV.mono s h2⟩
end
/-- tuples stay -/
def TupS (K : PySem.W.Frag) (H H' : Hp) : Prop := ∀ a xs, TupAt H a xs → TupAt H' a xs
mutual
theorem Rep.imm : ∀ {d : D} {H H' : Hp} {v : V}, imm d = true → TupS K H H' → Rep K p d H v → Rep K p d H' v
  | .none, _, _, _, _, _, h => h
  | .bool _, _, _, _, _, _, h => h
  | .int _, _, _, _, _, _, h => h
  | .str _, _, _, _, _, _, h => h
  | .list ds, _, _, _, i, _, _ => by simp [Sd.imm] at i
  | .tuple ds, _, _, _, i, s, h => by
    obtain ⟨a, vs, e, h1, h2⟩ := h
    exact ⟨a, vs, e, s _ _ h1, RepL.imm (by simpa [Sd.imm] using i) s h2⟩
  | .dict kvs, _, _, _, i, _, _ => by simp [Sd.imm] at i
theorem RepL.imm : ∀ {ds : List D} {H H' : Hp} {vs : List V}, immL ds = true → TupS K H H' → RepL K p ds H vs → RepL K p ds H' vs
  | [], _, _, _, _, _, h => h
  | d :: ds, _, _, _, i, s, h => by
    obtain ⟨v, r, e, h1, h2⟩ := h
    simp only [immL, Bool.and_eq_true] at i
    exact ⟨v, r, e, Rep.imm i.1 s h1, RepL.imm i.2 s h2⟩
end
theorem RepL.length : ∀ {ds : List D} {H : Hp} {vs : List V}, RepL K p ds H vs → vs.length = ds.length
  | [], _, _, h => by rw [show _ = [] from h]; rfl
  | d :: ds, _, _, h => by
    obtain ⟨v, r, e, _, h2⟩ := h
    rw [e, List.length_cons, List.length_cons, RepL.length h2]
theorem RepL.get : ∀ {ds : List D} {H : Hp} {vs : List V} {i : Nat} {d : D}, RepL K p ds H vs → ds[i]? = some d → ∃ v, vs[i]? = some v ∧ Rep K p d H v
  | [], _, _, _, _, _, e => by simp at e
  | d :: ds, _, _, 0, _, h, e => by
    obtain ⟨v, r, rfl, h1, _⟩ := h
    simp at e; subst e
    exact ⟨v, rfl, h1⟩
  | d :: ds, _, _, i + 1, _, h, e => by
    obtain ⟨v, r, rfl, _, h2⟩ := h
    obtain ⟨w, e1, e2⟩ := RepL.get (i := i) h2 (by simpa using e)
    exact ⟨w, by simpa using e1, e2⟩
theorem RepL.app : ∀ {ds es : List D} {H : Hp} {vs ws : List V}, RepL K p ds H vs → RepL K p es H ws → RepL K p (ds ++ es) H (vs ++ ws)
  | [], _, _, _, _, h, g => by rw [show _ = [] from h]; exact g
  | d :: ds, _, _, _, _, h, g => by
    obtain ⟨v, r, rfl, h1, h2⟩ := h
    exact ⟨v, _, rfl, h1, RepL.app h2 g⟩
theorem RepL.one {d : D} {H : Hp} {v : V} (h : Rep K p d H v) : RepL K p [d] H [v] := ⟨v, [], rfl, h, rfl⟩
theorem RepL.drop : ∀ {ds : List D} {H : Hp} {vs : List V} (n : Nat), RepL K p ds H vs → RepL K p (ds.drop n) H (vs.drop n)
  | _, _, _, 0, h => h
  | [], _, _, n + 1, h => by rw [show _ = [] from h]; rfl
  | d :: ds, _, _, n + 1, h => by
    obtain ⟨v, r, rfl, _, h2⟩ := h
    exact RepL.drop n h2
theorem RepL.take : ∀ {ds : List D} {H : Hp} {vs : List V} (n : Nat), RepL K p ds H vs → RepL K p (ds.take n) H (vs.take n)
  | _, _, _, 0, h => rfl
  | [], _, _, n + 1, h => by rw [show _ = [] from h]; rfl
  | d :: ds, _, _, n + 1, h => by
    obtain ⟨v, r, rfl, h1, h2⟩ := h
    exact ⟨v, _, rfl, h1, RepL.take n h2⟩
theorem RepL.rev : ∀ {ds : List D} {H : Hp} {vs : List V}, RepL K p ds H vs → RepL K p ds.reverse H vs.reverse
  | [], _, _, h => by rw [show _ = [] from h]; rfl
  | d :: ds, _, _, h => by
    obtain ⟨v, r, rfl, h1, h2⟩ := h
    rw [List.reverse_cons, List.reverse_cons]
    exact RepL.app (RepL.rev h2) (RepL.one h1)
theorem RepL.eraseIdx : ∀ {ds : List D} {H : Hp} {vs : List V} (n : Nat), RepL K p ds H vs → RepL K p (ds.eraseIdx n) H (vs.eraseIdx n)
  | [], _, _, n, h => by rw [show _ = [] from h]; rfl
  | d :: ds, _, _, 0, h => by
    obtain ⟨v, r, rfl, _, h2⟩ := h
    exact h2
  | d :: ds, _, _, n + 1, h => by
    obtain ⟨v, r, rfl, h1, h2⟩ := h
    exact ⟨v, _, rfl, h1, RepL.eraseIdx n h2⟩
theorem RepL.of_get : ∀ {ds : List D} {H : Hp} {vs : List V}, vs.length = ds.length → (∀ (i : Nat) (d : D) (v : V), ds[i]? = some d → vs[i]? = some v → Rep K p d H v) → RepL K p ds H vs
  | [], _, [], _, _ => rfl
  | [], _, _ :: _, h, _ => by simp at h
  | _ :: _, _, [], h, _ => by simp at h
  | d :: ds, _, v :: vs, h, f => ⟨v, vs, rfl, f 0 d v rfl rfl, RepL.of_get (by simpa using h) fun i d' v' e1 e2 => f (i + 1) d' v' (by simpa using e1) (by simpa using e2)⟩
end

/-! ### the pot, what runs over it -/
abbrev Pot := Int × Int
def M (α : Type) : Type := Pot → Option (α × Pot)
def M.pure {α : Type} (a : α) : M α := fun q => some (a, q)
def M.bind {α β : Type} (m : M α) (f : α → M β) : M β := fun q => match m q with
  | none => none
  | some (a, q') => f a q'
def M.fail {α : Type} : M α := fun _ => none
def M.of {α : Type} (o : Option α) : M α := match o with
  | some a => M.pure a
  | none => M.fail
theorem M.bind_some {α β : Type} {m : M α} {f : α → M β} {q : Pot} {r : β × Pot} (h : M.bind m f q = some r) : ∃ a q', m q = some (a, q') ∧ f a q' = some r := by
  unfold M.bind at h
  split at h
  · cases h
  · exact ⟨_, _, by assumption, h⟩
theorem M.of_some {α : Type} {o : Option α} {q : Pot} {a : α} {q' : Pot} (h : M.of o q = some (a, q')) : o = some a ∧ q' = q := by
  unfold M.of at h
  split at h
  · have e : (_, q) = (a, q') := Option.some.inj h
    cases e
    exact ⟨rfl, rfl⟩
  · cases h
theorem M.pure_some {α : Type} {a b : α} {q q' : Pot} (h : M.pure a q = some (b, q')) : b = a ∧ q' = q := by
  have e : (a, q) = (b, q') := Option.some.inj h
  cases e
  exact ⟨rfl, rfl⟩
instance : Monad M where
  pure := M.pure
  bind := M.bind
abbrev Env := List (Option (Bool × D))
def nontup : HO → Bool
  | .tup _ => false
  | .frz _ (.tup _) => false
  | _ => true
def potV (q : Pot) : HO := .lst [.int q.1, .int q.2]
/-- all tracked lists, tuples within the line -/
def HL (H : Hp) : Prop := ∀ a xs, (Rd H a (.lst xs) ∨ Rd H a (.tup xs)) → xs.length ≤ sizeLine
theorem HL_of {P : Program} {w : World} {H : Hp} {h : Heap} (x : HOk P w H h) : HL H := fun a xs r => by
  rcases r with r | r
  · exact (r.ok x).1
  · exact (r.ok x).1
section
variable (K : PySem.W.Frag) (p : Addr)
/-- a list, a dict that may be changed: known to its one name -/
def Bld (F : Addr → Prop) (H : Hp) (B : List Addr) (d : D) (v : V) : Prop := ∃ a, v = .ref a ∧ a ∈ B ∧ a ≠ p ∧ F a ∧
  ((∃ ds vs, d = .list ds ∧ H a = some (.lst vs) ∧ RepL K p ds (hide H B) vs) ∨
   (∃ kvs vs, d = .dict kvs ∧ isPot kvs = false ∧ DcAt H a (kvs.map (·.1)) vs ∧ RepKV K p kvs (hide H B) vs))
/-- a value that is consumed at once -/
def RepC (F : Addr → Prop) (H : Hp) (B : List Addr) (d : D) (v : V) : Prop := Rep K p d (hide H B) v ∨ Bld K p F H B d v
structure Pre (F : Addr → Prop) (H : Hp) (B : List Addr) (σ : L2.St) (ρ : Env) (q : Pot) : Prop where
  pot : H p = some (potV q)
  pB : p ∈ B
  nt : ∀ a ∈ B, ∃ o, H a = some o ∧ nontup o = true
  env : ∀ (i : Nat) (b : Bool) (d : D), ρ[i]? = some (some (b, d)) → ∃ v, σ[i]? = some (some v) ∧ (b = false → Rep K p d (hide H B) v) ∧ (b = true → Bld K p F H B d v)
  len : σ.length = ρ.length
def Stp (H H' : Hp) : Prop := ∀ a o, H a = some o → a ≠ p → H' a = some o
end
section
variable {K : PySem.W.Frag} {p : Addr} {F : Addr → Prop} {H H' H1 H2 : Hp} {B : List Addr} {σ : L2.St} {ρ : Env} {q q' : Pot} {d : D} {v : V}
theorem Stp.refl : Stp p H H := fun _ _ h _ => h
theorem Stp.trans (a : Stp p H H1) (b : Stp p H1 H2) : Stp p H H2 := fun c o h n => b c o (a c o h n) n
theorem Stp.of (s : Same H H') : Stp p H H' := fun a o h _ => s a o h
theorem Stp.hid (s : Stp p H H') (hp : p ∈ B) : Same (hide H B) (hide H' B) := hide_mono fun a o h e => ⟨h, s a o e fun z => h (z ▸ hp)⟩
theorem Stp.free (s : Stp p H H') {a : Addr} (ha : a ≠ p) (h : H' a = none) : H a = none := by
  cases e : H a with
  | none => rfl
  | some o => rw [s a o e ha] at h; cases h
theorem DcAt_stp {a : Addr} {ks : List D} {vs : List V} (s : Stp p H H') (ha : a ≠ p) (h : DcAt H a ks vs) : DcAt H' a ks vs := by
  have rd : ∀ {u}, H a = some u → H' a = some u := fun {u} h => s _ _ h ha
  rcases h with ⟨k, h1, h2, h3⟩ | ⟨k, h1, h2, h3⟩
  · exact .inl ⟨k, h1, h2, rd h3⟩
  · exact .inr ⟨k, h1, h2, rd h3⟩
theorem Bld.stp (s : Stp p H H') (hp : p ∈ B) (h : Bld K p F H B d v) : Bld K p F H' B d v := by
  obtain ⟨a, e, hB, hne, hF, h⟩ := h
  refine ⟨a, e, hB, hne, hF, ?_⟩
  rcases h with ⟨ds, vs, e1, h1, h2⟩ | ⟨kvs, vs, e1, h0, h1, h2⟩
  · exact .inl ⟨ds, vs, e1, s _ _ h1 hne, RepL.mono (s.hid hp) h2⟩
  · exact .inr ⟨kvs, vs, e1, h0, DcAt_stp s hne h1, RepKV.mono (s.hid hp) h2⟩
theorem RepC.stp (s : Stp p H H') (hp : p ∈ B) (h : RepC K p F H B d v) : RepC K p F H' B d v := by
  rcases h with h | h
  · exact .inl (Rep.mono (s.hid hp) h)
  · exact .inr (h.stp s hp)
theorem Pre.stp (h : Pre K p F H B σ ρ q) (s : Stp p H H') (hq : H' p = some (potV q')) : Pre K p F H' B σ ρ q' := by
  refine ⟨hq, h.pB, fun a ha => ?_, fun i b d e => ?_, h.len⟩
  · by_cases ne : a = p
    · subst ne; exact ⟨_, hq, rfl⟩
    · obtain ⟨o, h1, h2⟩ := h.nt a ha
      exact ⟨o, s _ _ h1 ne, h2⟩
  · obtain ⟨v, h1, h2, h3⟩ := h.env i b d e
    exact ⟨v, h1, fun z => Rep.mono (s.hid h.pB) (h2 z), fun z => (h3 z).stp s h.pB⟩
theorem tupO_nt {vs : List V} {o : HO} (h : TupO vs o) : nontup o = false := by
  rcases h with ⟨_, rfl⟩ | ⟨_, ob, rfl, _⟩ <;> rfl
theorem hide_tup (nt : ∀ a ∈ B, ∃ o, H a = some o ∧ nontup o = true) : TupS K H (hide H B) := fun a xs h => by
  obtain ⟨o, z, e⟩ := h
  refine ⟨o, z, hide_of (fun y => ?_) e⟩
  obtain ⟨o', e1, e2⟩ := nt a y
  rw [e] at e1; cases e1
  rw [tupO_nt z] at e2; cases e2
/-- as it lies in the whole heap -/
theorem Rep.out (h : Rep K p d (hide H B) v) : Rep K p d H v := Rep.mono (hide_le H B) h
theorem RepL.out {ds : List D} {vs : List V} (h : RepL K p ds (hide H B) vs) : RepL K p ds H vs := RepL.mono (hide_le H B) h
theorem RepC.lst {ds : List D} (hp : p ∈ B) (h : RepC K p F H B (.list ds) v) : ∃ a vs, v = .ref a ∧ a ≠ p ∧ H a = some (.lst vs) ∧ RepL K p ds (hide H B) vs := by
  rcases h with h | ⟨a, e, hB, hne, hF, h⟩
  · obtain ⟨a, vs, e, h1, h2⟩ := h
    refine ⟨a, vs, e, fun z => ?_, (hide_some h1).2, RepL.mono (hide_le _ _) h2⟩
    subst z
    exact (hide_some h1).1 hp
  · rcases h with ⟨ds', vs, e1, h1, h2⟩ | ⟨_, _, e1, _⟩
    · cases e1
      exact ⟨a, vs, e, hne, h1, h2⟩
    · cases e1
theorem RepC.tup {ds : List D} (h : RepC K p F H B (.tuple ds) v) : ∃ a vs, v = .ref a ∧ TupAt H a vs ∧ RepL K p ds (hide H B) vs := by
  rcases h with h | ⟨a, e, hB, hne, hF, h⟩
  · obtain ⟨a, vs, e, h1, h2⟩ := h
    exact ⟨a, vs, e, h1.mono (hide_le H B), h2⟩
  · rcases h with ⟨_, _, e1, _⟩ | ⟨_, _, e1, _⟩ <;> cases e1
theorem RepC.dic {kvs : List (D × D)} (h0 : isPot kvs = false) (h : RepC K p F H B (.dict kvs) v) : ∃ a vs, v = .ref a ∧ DcAt H a (kvs.map (·.1)) vs ∧ RepKV K p kvs (hide H B) vs := by
  rcases h with h | ⟨a, e, hB, hne, hF, h⟩
  · rcases h with h | ⟨_, a, vs, e, h1, h2⟩
    · rw [h0] at h; cases h.1
    · exact ⟨a, vs, e, DcAt_mono (hide_le H B) h1, RepKV.mono (hide_le _ _) h2⟩
  · rcases h with ⟨_, _, e1, _⟩ | ⟨kvs', vs, e1, h0', h1, h2⟩
    · cases e1
    · cases e1
      exact ⟨a, vs, e, h1, h2⟩
/-- what is neither a list nor a dict -/
theorem RepC.imm1 (hi : ∀ ds, d ≠ .list ds) (hk : ∀ kvs, d ≠ .dict kvs) (h : RepC K p F H B d v) : Rep K p d (hide H B) v := by
  rcases h with h | ⟨a, e, hB, hne, hF, h⟩
  · exact h
  · rcases h with ⟨_, _, e1, _⟩ | ⟨_, _, e1, _⟩
    · exact absurd e1 (hi _)
    · exact absurd e1 (hk _)
theorem RepC.int {i : Int} (h : RepC K p F H B (.int i) v) : v = .int i := h.imm1 (fun _ z => by cases z) (fun _ z => by cases z)
theorem RepC.bool {b : Bool} (h : RepC K p F H B (.bool b) v) : v = .bl b := h.imm1 (fun _ z => by cases z) (fun _ z => by cases z)
theorem RepC.str {x : Str} (h : RepC K p F H B (.str x) v) : v = .str x := h.imm1 (fun _ z => by cases z) (fun _ z => by cases z)
theorem RepC.none (h : RepC K p F H B .none v) : v = .non := h.imm1 (fun _ z => by cases z) (fun _ z => by cases z)
end
mutual
/-- no dict within -/
def nod : D → Bool
  | .list ds => nodL ds
  | .tuple ds => nodL ds
  | .dict _ => false
  | _ => true
def nodL : List D → Bool
  | [] => true
  | d :: r => nod d && nodL r
end
section
variable {K : PySem.W.Frag} {p : Addr}
mutual
theorem Rep.dp : ∀ {d : D} {H : Hp} {v : V}, nod d = true → Rep K p d H v → Dp K H v d
  | .none, _, _, _, h => by rw [show _ = V.non from h]; exact .non
  | .bool b, _, _, _, h => by rw [show _ = V.bl b from h]; exact .bl b
  | .int b, _, _, _, h => by rw [show _ = V.int b from h]; exact .int b
  | .str b, _, _, _, h => by rw [show _ = V.str b from h]; exact .str b
  | .list ds, _, _, n, h => by
    obtain ⟨a, vs, e, h1, h2⟩ := h
    subst e
    exact .lst (.inl (.inl h1)) (RepL.dp (by simpa [nod] using n) (RepL.out h2))
  | .tuple ds, _, _, n, h => by
    obtain ⟨a, vs, e, h1, h2⟩ := h
    subst e
    exact .tup h1.sq (RepL.dp (by simpa [nod] using n) h2)
  | .dict _, _, _, n, _ => by simp [nod] at n
theorem RepL.dp : ∀ {ds : List D} {H : Hp} {vs : List V}, nodL ds = true → RepL K p ds H vs → DpAll K H vs ds
  | [], _, _, _, h => by rw [show _ = [] from h]; exact .nil
  | d :: ds, _, _, n, h => by
    obtain ⟨v, r, e, h1, h2⟩ := h
    subst e
    simp only [nodL, Bool.and_eq_true] at n
    exact .cons (Rep.dp n.1 h1) (RepL.dp n.2 h2)
end
theorem RepC.dp {H : Hp} {B : List Addr} {d : D} {v : V} (hp : p ∈ B) (n : nod d = true) (h : RepC K p F H B d v) : Dp K H v d := by
  cases d with
  | list ds =>
    obtain ⟨a, vs, e, _, h1, h2⟩ := h.lst hp
    subst e
    exact .lst (.inl (.inl h1)) (RepL.dp (by simpa [nod] using n) h2.out)
  | dict kvs => simp [nod] at n
  | none => exact Rep.dp n (Rep.out (h.imm1 (fun _ z => by cases z) (fun _ z => by cases z)))
  | bool b => exact Rep.dp n (Rep.out (h.imm1 (fun _ z => by cases z) (fun _ z => by cases z)))
  | int b => exact Rep.dp n (Rep.out (h.imm1 (fun _ z => by cases z) (fun _ z => by cases z)))
  | str b => exact Rep.dp n (Rep.out (h.imm1 (fun _ z => by cases z) (fun _ z => by cases z)))
  | tuple ds => exact Rep.dp n (Rep.out (h.imm1 (fun _ z => by cases z) (fun _ z => by cases z)))
end
end Sd
/-! new tuples -/
namespace Sd
open PySem PySem.Spec PyProof.Rows L2
section
variable {X : Cx} {e : Expr} {es : List Expr} {t : TA} {te : TE} {pos : Pos} {pins : List (Addr × Obj)} {σ : L2.St} {H : Hp} {s : Shared}
/-- a new tuple, held as it is to be held -/
theorem tup_new {xs : List V} {its : List Value} {h : Heap} {tk : Nat} {s : Shared} (I : Inv X pins σ H { s with heap := h, toks := tk }) (r : Vals xs its) (z : xs.length ≤ sizeLine) :
    ∃ o, TupO xs o ∧ Inv X pins σ (upd H h.objs.size o) { s with heap := h.push { cls := .type "tuple", data := .seq its.toArray }, toks := tk } := by
  have it : ∀ {H : Hp}, ObjOk X.prog X.w H (h.push { cls := .type "tuple", data := .seq its.toArray }) h.objs.size (.tup xs) := ⟨z, its, r, IsTup.new _ _⟩
  cases f : frzOk with
  | false => exact ⟨.tup xs, .inl ⟨f, rfl⟩, I.laid (t' := tk) (fun _ _ q => Heap.get?_push_of_some _ q) (Nat.le_refl _) it⟩
  | true => exact ⟨.frz { cls := .type "tuple", data := .seq its.toArray } (.tup xs), .inr ⟨f, _, rfl, rfl⟩, I.laid (t' := tk) (fun _ _ q => Heap.get?_push_of_some _ q) (Nat.le_refl _) (show ObjOk X.prog X.w _ _ _ (.frz _ _) from ⟨Heap.get?_push_size _ rfl, it⟩)⟩
theorem tup_fin {xs : List V} {its : List Value} {h : Heap} {tk : Nat} {Q : VK} (I : Inv X pins σ H { s with heap := h, toks := tk }) (r : Vals xs its) (z : xs.length ≤ sizeLine) (q : ∀ p o, H p = none → TupO xs o → Q (.ref p) (upd H p o)) :
    EP X pins σ Q (.ref h.objs.size) { s with heap := h.push { cls := .type "tuple", data := .seq its.toArray }, toks := tk } := by
  obtain ⟨o, ho, J⟩ := tup_new I r z
  exact ⟨.ref _, _, J, rfl, q _ o (I.hok.fresh (Nat.le_refl _)) ho⟩
def tTupO (t : TA) : TE := fun σ H Q => t σ H fun xs H1 => xs.length ≤ sizeLine ∧ ∀ p o, H1 p = none → TupO xs o → Q (.ref p) (upd H1 p o)
theorem pe_tupO {k : Nat} (h : PA X es t) : PE X (.Tuple es k pos) (tTupO t) :=
  ⟨fun pins s σ H Q I hq => wpAny_Tuple_spliced (thn (h.run pos pins s σ H _ I hq) fun us s1 ⟨xs, H1, I1, r, z, q⟩ => ⟨by rw [← r.length]; exact z, tup_fin (h := s1.heap) (tk := s1.toks) I1 r z q⟩)⟩
/-- t[lo:hi] -/
def rSlO (K : PySem.W.Frag) : V → Option Int → Option Int → Hp → VK → Prop := fun x lo hi H Q => ∃ a xs, x = .ref a ∧ SqT K H a xs ∧
  (HT.sIx xs.length 0 lo = 0 ∧ HT.sIx xs.length xs.length hi = xs.length → Q (.ref a) H) ∧ (¬ (HT.sIx xs.length 0 lo = 0 ∧ HT.sIx xs.length xs.length hi = xs.length) → ∀ p o, H p = none → TupO (cutV xs lo hi) o → Q (.ref p) (upd H p o))
theorem sl_tupO : SlR X (rSlO X.K) := by
  intro pins s σ H x v vl vu lo hi sl Q I rx hs pl pu h
  obtain ⟨a, xs, rfl, hx, q1, q2⟩ := h
  by_cases whole : HT.sIx xs.length 0 lo = 0 ∧ HT.sIx xs.length xs.length hi = xs.length
  · exact sl_tupA pins s σ H _ v vl vu lo hi sl Q I rx hs pl pu ⟨a, xs, rfl, hx, q1, fun c => absurd whole c⟩
  · cases rx
    obtain ⟨its, r, ht, hz⟩ := I.tuple hx
    have size : its.toArray.size = xs.length := by rw [List.size_toArray, r.length]
    refine ⟨"tuple", _, PyProof.Rows.slot_tuple_getitem.lookup, ht.typeIs, HT.getItem_tuple_cut ht hs pl pu (by rw [size]; exact whole) ?_ (by rw [size]; exact hz)⟩
    rw [size]
    exact tup_fin (h := s.heap) (tk := s.toks) I ((r.drop (HT.sIx xs.length 0 lo)).take (HT.sIx xs.length xs.length hi - HT.sIx xs.length 0 lo)) (Nat.le_trans (cutV_length xs lo hi) hz) (q2 whole)
/-- t + u -/
def rCatO (K : PySem.W.Frag) : R2 := fun x y H Q => ∃ a b xs ys, x = .ref a ∧ y = .ref b ∧ SqT K H a xs ∧ SqT K H b ys ∧ xs.length + ys.length ≤ sizeLine ∧
  (xs = [] → Q (.ref b) H) ∧ (xs ≠ [] → ys = [] → Q (.ref a) H) ∧ (xs ≠ [] → ys ≠ [] → ∀ p o, H p = none → TupO (xs ++ ys) o → Q (.ref p) (upd H p o))
theorem op_catO : OpR X (binaryOp .Add) (rCatO X.K) := by
  intro pins s σ H x y v u Q I rx ry h
  obtain ⟨a, b, xs, ys, rfl, rfl, ha, hb, hz, q0, q1, q2⟩ := h
  by_cases nx : xs = []
  · exact op_catA pins s σ H _ _ v u Q I rx ry ⟨a, b, xs, ys, rfl, rfl, ha, hb, hz, q0, q1, fun c => absurd nx c⟩
  · cases rx
    cases ry
    obtain ⟨its, r1, p1, _⟩ := I.tuple ha
    obtain ⟨its2, r2, p2, _⟩ := I.tuple hb
    refine HT.cat_tup p1 p2 (fun z => nx (r1.nil_iff.mp z)) (fun z => ⟨.ref a, H, I, rfl, q1 nx (r2.nil_iff.mp z)⟩) (fun z => ?_) (by rw [← r1.length, ← r2.length]; exact hz)
    exact tup_fin (h := s.heap) (tk := s.toks) I (r1.append r2) (by rw [List.length_append]; exact hz) (q2 nx fun w => z (r2.nil_iff.mpr w))
/-- tuple(xs) -/
theorem call_tupleO : CallR X (.type "tuple") (fun xs H Q => ∃ a ys, xs = [.ref a] ∧ ((SqL X.K H a ys ∧ ∀ p o, H p = none → TupO ys o → Q (.ref p) (upd H p o)) ∨ (SqT X.K H a ys ∧ Q (.ref a) H))) := by
  intro pins s σ H xs us Q I r h
  obtain ⟨a, ys, rfl, ⟨hq, q⟩ | ⟨hq, q⟩⟩ := h
  · rw [Vals.ref1 r]
    obtain ⟨its, rv, pl, hz⟩ := I.list hq
    have len := rv.length
    exact call_tuple_list pl.isList (fun h' kp => tup_fin (s := s) (h := h') (tk := s.toks) (I.kept kp) rv hz q) (by rw [List.size_toArray, ← len]; exact hz)
  · exact call_tuple_of pins s σ H _ us Q I r ⟨a, ys, rfl, .inr ⟨hq, q⟩⟩
/-- tuple(range(..)) -/
def tTupRgO (te : L2.St → Hp → (Int → Int → Hp → Prop) → Prop) : TE := fun σ H Q => te σ H fun a b H1 => RgOk a b ∧ ∀ p o, H1 p = none → TupO (rgV a b) o → Q (.ref p) (upd H1 p o)
theorem pe_tupRgO {te : L2.St → Hp → (Int → Int → Hp → Prop) → Prop} {np : Pos} (hc : X.calm = true) (hg : Gl X "tuple") (hm : X.mg "tuple" = none) (he : PRg X e te) (na : starEach [e] X.env = (false, eval e X.env) :: starEach [] X.env := by rfl) : PE X (.Call (.Name "tuple" np) [e] [] pos) (tTupRgO te) := by
  constructor
  intro pins s σ H Q I h
  refine Call_ (ld_blt I hg hm boot_tuple (PyProof.Rows.callWith_type1 (args_cons (thn (he pins s σ H _ I h) fun x s1 ⟨r, a, b, t, u, v, H1, ex, hr, I1, ok, q⟩ => args_nil ?_) na) na))
  subst ex
  obtain ⟨b1, b2, b3, b4, b5⟩ := ok
  refine call_tuple_range (n := (b - a).toNat) (I1.ok.hd hc) hr (small_one b1 b2 b3 b4) (rangeSize_nat a b) b5 fun h' tk acc hk hi => ?_
  have z := tup_fin (s := s1) (h := h') (tk := tk) (its := acc.toList) (I1.kept hk) (vals_rg hi) (by rw [rgV_length, sizeLine_eq]; omega) q
  rwa [Array.toArray_toList] at z
end
end Sd
/-! judgements over data: expressions, tests, arguments -/
namespace Sd
open PySem PySem.Spec PyProof.Rows L2
def isLD : D → Bool
  | .list _ => true
  | .dict _ => true
  | _ => false
def New (H : Hp) (v : V) (d : D) : Prop := isLD d = true → ∃ a, v = .ref a ∧ H a = none
section
variable (K : PySem.W.Frag) (p : Addr)
def Res (F : Addr → Prop) (c : Bool) (H : Hp) (B : List Addr) (d : D) (v : V) : Prop := if c = true then RepC K p F H B d v else Rep K p d (hide H B) v
def ResL (F : Addr → Prop) (c : Bool) (H : Hp) (B : List Addr) : List D → List V → Prop
  | [], vs => vs = []
  | d :: ds, vs => ∃ v r, vs = v :: r ∧ Res K p F c H B d v ∧ ResL F c H B ds r
def tE (f : Env → M D) (c fr : Bool) : TE := fun σ H Q => HL H → ∃ (F : Addr → Prop) (ρ : Env) (B : List Addr) (q : Pot) (d : D) (q' : Pot), Pre K p F H B σ ρ q ∧ f ρ q = some (d, q') ∧
  ∀ v H', HL H' → Stp p H H' → H' p = some (potV q') → Res K p F c H' B d v → (fr = true → New H v d) → Q v H'
def tT (f : Env → M D) : TT := fun σ H Q => HL H → ∃ (F : Addr → Prop) (ρ : Env) (B : List Addr) (q : Pot) (b : Bool) (q' : Pot), Pre K p F H B σ ρ q ∧ f ρ q = some (.bool b, q') ∧
  ∀ H', HL H' → Stp p H H' → H' p = some (potV q') → Q b H'
def seqE : List (Env → M D) → Env → M (List D)
  | [], _ => M.pure []
  | f :: fs, ρ => M.bind (f ρ) fun d => M.bind (seqE fs ρ) fun ds => M.pure (d :: ds)
def tA (fs : List (Env → M D)) (c : Bool) : TA := fun σ H Q => HL H → ∃ (F : Addr → Prop) (ρ : Env) (B : List Addr) (q : Pot) (ds : List D) (q' : Pot), Pre K p F H B σ ρ q ∧ seqE fs ρ q = some (ds, q') ∧
  ∀ vs H', HL H' → Stp p H H' → H' p = some (potV q') → ResL K p F c H' B ds vs → Q vs H'
end
structure DE (X : Cx) (p : Addr) (e : Expr) (f : Env → M D) (c fr : Bool) : Prop where
  pe : PE X e (tE X.K p f c fr)
structure DT (X : Cx) (p : Addr) (e : Expr) (f : Env → M D) : Prop where
  pt : PT X e (tT X.K p f)
structure DW (X : Cx) (p : Addr) (e : Expr) (f : Env → M D) : Prop where
  pw : PW X e (tT X.K p f)
structure DA (X : Cx) (p : Addr) (es : List Expr) (fs : List (Env → M D)) (c : Bool) : Prop where
  pa : PA X es (tA X.K p fs c)
section
variable {K : PySem.W.Frag} {p : Addr} {F : Addr → Prop} {c fr : Bool} {H H' H1 H2 : Hp} {B : List Addr} {d : D} {v : V} {ds : List D} {vs : List V}
theorem Res.cons (h : Res K p F c H B d v) : RepC K p F H B d v := by
  unfold Res at h
  split at h
  · exact h
  · exact .inl h
theorem Res.of (h : Rep K p d (hide H B) v) : Res K p F c H B d v := by
  unfold Res
  split
  · exact .inl h
  · exact h
theorem Res.stp (s : Stp p H H') (hp : p ∈ B) (h : Res K p F c H B d v) : Res K p F c H' B d v := by
  unfold Res at h ⊢
  split
  · rename_i e; rw [if_pos e] at h; exact RepC.stp s hp h
  · rename_i e; rw [if_neg e] at h; exact Rep.mono (s.hid hp) h
theorem ResL.stp (s : Stp p H H') (hp : p ∈ B) : ∀ {ds : List D} {vs : List V}, ResL K p F c H B ds vs → ResL K p F c H' B ds vs
  | [], _, h => h
  | d :: ds, _, h => by
    obtain ⟨v, r, e, h1, h2⟩ := h
    exact ⟨v, r, e, h1.stp s hp, ResL.stp s hp h2⟩
theorem ResL.cons : ∀ {ds : List D} {vs : List V}, ResL K p F c H B ds vs → ResL K p F true H B ds vs
  | [], _, h => h
  | d :: ds, _, h => by
    obtain ⟨v, r, e, h1, h2⟩ := h
    exact ⟨v, r, e, by unfold Res; rw [if_pos rfl]; exact h1.cons, ResL.cons h2⟩
theorem ResL.rep : ∀ {ds : List D} {vs : List V}, ResL K p F false H B ds vs → RepL K p ds (hide H B) vs
  | [], _, h => h
  | d :: ds, _, h => by
    obtain ⟨v, r, e, h1, h2⟩ := h
    exact ⟨v, r, e, h1, ResL.rep h2⟩
theorem ResL.len : ∀ {ds : List D} {vs : List V}, ResL K p F c H B ds vs → vs.length = ds.length
  | [], _, h => by rw [show _ = [] from h]; rfl
  | d :: ds, _, h => by
    obtain ⟨v, r, e, _, h2⟩ := h
    rw [e, List.length_cons, List.length_cons, ResL.len h2]
end
section
variable {X : Cx} {p : Addr} {e : Expr} {f g : Env → M D} {c fr : Bool}
/-- the line is known ahead and behind -/
theorem peHL {t t' : TE} (h : PE X e t) (imp : ∀ σ H Q, HL H → t' σ H Q → t σ H (fun v H' => HL H' → Q v H')) : PE X e t' :=
  ⟨fun pins s σ H Q I hw => thn (h.run pins s σ H _ I (imp σ H Q (HL_of I.hok) hw)) fun _ _ ⟨v, H', I', r, q⟩ => ⟨v, H', I', r, q (HL_of I'.hok)⟩⟩
theorem ptHL {t t' : TT} (h : PT X e t) (imp : ∀ σ H Q, HL H → t' σ H Q → t σ H (fun v H' => HL H' → Q v H')) : PT X e t' :=
  ⟨fun pins s σ H Q I hw => thn (h.run pins s σ H _ I (imp σ H Q (HL_of I.hok) hw)) fun _ _ ⟨H', I', q⟩ => ⟨H', I', q (HL_of I'.hok)⟩⟩
theorem pwHL {t t' : TT} (h : PW X e t) (imp : ∀ σ H Q, HL H → t' σ H Q → t σ H (fun v H' => HL H' → Q v H')) : PW X e t' :=
  ⟨fun wh pins s σ H Q I hw => thn (h.run wh pins s σ H _ I (imp σ H Q (HL_of I.hok) hw)) fun _ _ ⟨H', I', q⟩ => ⟨H', I', q (HL_of I'.hok)⟩⟩
theorem paHL {es : List Expr} {t t' : TA} (h : PA X es t) (imp : ∀ σ H Q, HL H → t' σ H Q → t σ H (fun v H' => HL H' → Q v H')) : PA X es t' :=
  ⟨fun pos pins s σ H Q I hw => thn (h.run pos pins s σ H _ I (imp σ H Q (HL_of I.hok) hw)) fun _ _ ⟨v, H', I', r, q⟩ => ⟨v, H', I', r, q (HL_of I'.hok)⟩⟩
theorem DE.weak (h : DE X p e f c fr) : DE X p e f true false := ⟨peHL h.pe fun σ H Q hl t => by
  obtain ⟨F, ρ, B, q, d, q', h1, h2, h3⟩ := t hl
  exact fun _ => ⟨F, ρ, B, q, d, q', h1, h2, fun v H' l s hq r n l' => h3 v H' l s hq (by unfold Res; rw [if_pos rfl]; exact r.cons) (fun z => by cases z)⟩⟩
theorem DE.nofr (h : DE X p e f c fr) : DE X p e f c false := ⟨peHL h.pe fun σ H Q hl t => by
  obtain ⟨F, ρ, B, q, d, q', h1, h2, h3⟩ := t hl
  exact fun _ => ⟨F, ρ, B, q, d, q', h1, h2, fun v H' l s hq r n l' => h3 v H' l s hq r (fun z => by cases z)⟩⟩
/-! ### names, constants -/
def vr (i : Nat) : Env → M D := fun ρ => match ρ[i]? with
  | some (some (false, d)) => M.pure d
  | _ => M.fail
def vrC (i : Nat) : Env → M D := fun ρ => match ρ[i]? with
  | some (some (_, d)) => M.pure d
  | _ => M.fail
theorem vr_some {i : Nat} {ρ : Env} {q q' : Pot} {d : D} (h : vr i ρ q = some (d, q')) : ρ[i]? = some (some (false, d)) ∧ q' = q := by
  unfold vr at h
  cases e : ρ[i]? with
  | none => rw [e] at h; cases h
  | some o =>
    cases o with
    | none => rw [e] at h; cases h
    | some bd =>
      obtain ⟨b, d'⟩ := bd
      cases b with
      | true => rw [e] at h; cases h
      | false =>
        rw [e] at h
        obtain ⟨rfl, rfl⟩ := M.pure_some h
        exact ⟨rfl, rfl⟩
theorem vrC_some {i : Nat} {ρ : Env} {q q' : Pot} {d : D} (h : vrC i ρ q = some (d, q')) : ∃ b, ρ[i]? = some (some (b, d)) ∧ q' = q := by
  unfold vrC at h
  cases e : ρ[i]? with
  | none => rw [e] at h; cases h
  | some o =>
    cases o with
    | none => rw [e] at h; cases h
    | some bd =>
      obtain ⟨b, d'⟩ := bd
      rw [e] at h
      obtain ⟨rfl, rfl⟩ := M.pure_some h
      exact ⟨b, rfl, rfl⟩
def cst (d : D) : Env → M D := fun _ => M.pure d
theorem d_var {x : Str} {pos : Pos} (i : Nat) (hN : X.N[i]? = some x) (hv : Vis X.env.scope x) (hd : (x == ("__debug__" : Str)) = false := by decide) (hcd : (x == ("__classdict__" : Str)) = false := by decide) :
    DE X p (.Name x pos) (vr i) false false := ⟨peHL (pe_var hN hv hd hcd) fun σ H Q hl t => by
  obtain ⟨F, ρ, B, q, d, q', h1, h2, h3⟩ := t hl
  obtain ⟨e, rfl⟩ := vr_some h2
  obtain ⟨v, e1, e2, _⟩ := h1.env i false _ e
  exact ⟨v, e1, fun l => h3 v H l Stp.refl h1.pot (e2 rfl) (fun z => by cases z)⟩⟩
theorem d_varC {x : Str} {pos : Pos} (i : Nat) (hN : X.N[i]? = some x) (hv : Vis X.env.scope x) (hd : (x == ("__debug__" : Str)) = false := by decide) (hcd : (x == ("__classdict__" : Str)) = false := by decide) :
    DE X p (.Name x pos) (vrC i) true false := ⟨peHL (pe_var hN hv hd hcd) fun σ H Q hl t => by
  obtain ⟨F, ρ, B, q, d, q', h1, h2, h3⟩ := t hl
  obtain ⟨b, e, rfl⟩ := vrC_some h2
  obtain ⟨v, e1, e2, e3⟩ := h1.env i b _ e
  refine ⟨v, e1, fun l => h3 v H l Stp.refl h1.pot ?_ (fun z => by cases z)⟩
  cases b with
  | false => exact .inl (e2 rfl)
  | true => exact .inr (e3 rfl)⟩
/-- a value that is what it is in every heap -/
theorem d_cst {d : D} {v : V} (h : PE X e (tC v)) (r : ∀ H, Rep X.K p d H v) (nl : isLD d = false) : DE X p e (cst d) false fr := ⟨peHL h fun σ H Q hl t => by
  obtain ⟨F, ρ, B, q, d', q', h1, h2, h3⟩ := t hl
  obtain ⟨rfl, rfl⟩ := M.pure_some h2
  exact fun l => h3 v H l Stp.refl h1.pot (r _) (fun _ z => by rw [nl] at z; cases z)⟩
theorem d_int {i : Int} {j : Nat} {pos : Pos} : DE X p (.Constant (.int i) j pos) (cst (.int i)) false fr := d_cst pe_int (fun _ => rfl) rfl
theorem d_bl {i : Bool} {j : Nat} {pos : Pos} : DE X p (.Constant (.bool i) j pos) (cst (.bool i)) false fr := d_cst pe_bl (fun _ => rfl) rfl
theorem d_non {j : Nat} {pos : Pos} : DE X p (.Constant .none j pos) (cst .none) false fr := d_cst pe_non (fun _ => rfl) rfl
theorem d_str {i : Str} {j : Nat} {pos : Pos} : DE X p (.Constant (.str i) j pos) (cst (.str i)) false fr := d_cst pe_str (fun _ => rfl) rfl
theorem d_glob {x : Str} {v : V} {u : Value} {pos : Pos} {d : D} (hm : X.mg x = some u) (r : RelV v u) (rd : ∀ H, Rep X.K p d H v) (nl : isLD d = false) (hg : Gl X x) (hd : (x == ("__debug__" : Str)) = false := by decide) :
    DE X p (.Name x pos) (cst d) false fr := d_cst (pe_glob hg hm r hd) rd nl
/-! ### arguments -/
theorem da_nil : DA X p [] [] c := ⟨paHL pa_nil fun σ H Q hl t => by
  obtain ⟨F, ρ, B, q, ds, q', h1, h2, h3⟩ := t hl
  obtain ⟨rfl, rfl⟩ := M.pure_some h2
  exact fun l => h3 [] H l Stp.refl h1.pot rfl⟩
theorem da_cons {e : Expr} {es : List Expr} {fs : List (Env → M D)} {fr : Bool} (h1 : DE X p e f c fr) (h2 : DA X p es fs c) (hs : starEach (e :: es) X.env = (false, eval e X.env) :: starEach es X.env := by rfl) :
    DA X p (e :: es) (f :: fs) c := ⟨paHL (pa_cons h1.pe h2.pa hs) fun σ H Q hl t => by
  obtain ⟨F, ρ, B, q, ds, q', k1, k2, k3⟩ := t hl
  obtain ⟨d, q1, e1, k2⟩ := M.bind_some k2
  obtain ⟨dr, q2, e2, k2⟩ := M.bind_some k2
  obtain ⟨rfl, rfl⟩ := M.pure_some k2
  exact fun _ => ⟨F, ρ, B, q, d, q1, k1, e1, fun v H1 l1 s1 p1 r1 _ _ => ⟨F, ρ, B, q1, dr, _, k1.stp s1 p1, e2, fun vs H2 l2 s2 p2 r2 l2' =>
    k3 _ H2 l2 (s1.trans s2) p2 ⟨v, vs, rfl, r1.stp s2 k1.pB, r2⟩⟩⟩⟩
/-! ### operations by values -/
def OkN (K : PySem.W.Frag) (p : Addr) (r : List V → Hp → VK → Prop) (g : List D → Option D) (fr : Bool) : Prop :=
  ∀ (F : Addr → Prop) (vs : List V) (H : Hp) (B : List Addr) (ds : List D) (d : D) (Q : VK), p ∈ B → (∀ a ∈ B, ∃ o, H a = some o ∧ nontup o = true) → HL H → ResL K p F true H B ds vs → g ds = some d →
    (∀ v H', Same H H' → Rep K p d (hide H' B) v → (fr = true → New H v d) → Q v H') → r vs H Q
/-- two values -/
def Ok2 (K : PySem.W.Frag) (p : Addr) (r : R2) (g : D → D → Option D) (fr : Bool) : Prop :=
  ∀ (F : Addr → Prop) (x y : V) (H : Hp) (B : List Addr) (d1 d2 : D) (d : D) (Q : VK), p ∈ B → (∀ a ∈ B, ∃ o, H a = some o ∧ nontup o = true) → HL H → RepC K p F H B d1 x → RepC K p F H B d2 y → g d1 d2 = some d →
    (∀ v H', Same H H' → Rep K p d (hide H' B) v → (fr = true → New H v d) → Q v H') → r x y H Q
def ap (g : List D → Option D) (fs : List (Env → M D)) : Env → M D := fun ρ => M.bind (seqE fs ρ) fun ds => M.of (g ds)
def ap2 (g : D → D → Option D) (f1 f2 : Env → M D) : Env → M D := fun ρ => M.bind (f1 ρ) fun d1 => M.bind (f2 ρ) fun d2 => M.of (g d1 d2)
def ap1 (g : D → Option D) (f1 : Env → M D) : Env → M D := fun ρ => M.bind (f1 ρ) fun d1 => M.of (g d1)
theorem pot_same {H H' : Hp} {q : Pot} (s : Same H H') (h : H p = some (potV q)) : H' p = some (potV q) := s _ _ h
theorem d_callR {es : List Expr} {fs : List (Env → M D)} {r : List V → Hp → VK → Prop} {g : List D → Option D} (t : ∀ {ta : TA}, PA X es ta → PE X e (tCB r ta)) (ok : OkN X.K p r g fr) (ha : DA X p es fs c) : DE X p e (ap g fs) false fr :=
  ⟨peHL (t ha.pa) fun σ H Q hl t => by
    obtain ⟨F, ρ, B, q, d, q', k1, k2, k3⟩ := t hl
    obtain ⟨ds, q1, e1, k2⟩ := M.bind_some k2
    obtain ⟨e2, rfl⟩ := M.of_some k2
    exact fun _ => ⟨F, ρ, B, q, ds, _, k1, e1, fun vs H1 l1 s1 p1 r1 => ok F vs H1 B ds d _ k1.pB (k1.stp s1 p1).nt l1 r1.cons e2 fun v H' s' rep new l' =>
      k3 v H' l' (s1.trans (Stp.of s')) (s' _ _ p1) rep fun z y => by
        obtain ⟨a, ea, na⟩ := new z y
        refine ⟨a, ea, ?_⟩
        by_cases hp : a = p
        · subst hp; rw [na] at p1; cases p1
        · exact s1.free hp na⟩⟩
theorem d_2 {a b : Expr} {fa fb : Env → M D} {ca cb f1 f2 : Bool} {r : R2} {g : D → D → Option D} (ok : Ok2 X.K p r g fr) (ha : DE X p a fa ca f1) (hb : DE X p b fb cb f2) (t : ∀ {ta tb : TE}, PE X a ta → PE X b tb → PE X e (tOp r ta tb)) : DE X p e (ap2 g fa fb) false fr :=
  ⟨peHL (t ha.pe hb.pe) fun σ H Q hl t => by
    obtain ⟨F, ρ, B, q, d, q', k1, k2, k3⟩ := t hl
    obtain ⟨d1, q1, e1, k2⟩ := M.bind_some k2
    obtain ⟨d2, q2, e2, k2⟩ := M.bind_some k2
    obtain ⟨e3, rfl⟩ := M.of_some k2
    exact fun _ => ⟨F, ρ, B, q, d1, q1, k1, e1, fun x H1 l1 s1 p1 r1 _ _ => ⟨F, ρ, B, q1, d2, _, k1.stp s1 p1, e2, fun y H2 l2 s2 p2 r2 _ =>
      ok F x y H2 B d1 d2 d _ k1.pB ((k1.stp s1 p1).stp s2 p2).nt l2 (RepC.stp s2 k1.pB r1.cons) r2.cons e3 fun v H' s' rep new l' =>
        k3 v H' l' ((s1.trans s2).trans (Stp.of s')) (s' _ _ p2) rep fun z y => by
          obtain ⟨a, ea, na⟩ := new z y
          refine ⟨a, ea, ?_⟩
          by_cases hp : a = p
          · subst hp; rw [na] at p2; cases p2
          · exact (s1.trans s2).free hp na⟩⟩⟩
theorem dt_2 {a b : Expr} {fa fb : Env → M D} {ca cb f1 f2 : Bool} {r : R2} {g : D → D → Option D} (ok : Ok2 X.K p r g fr) (ha : DE X p a fa ca f1) (hb : DE X p b fb cb f2) (t : ∀ {ta tb : TE}, PE X a ta → PE X b tb → PT X e (tTest (tOp r ta tb))) : DT X p e (ap2 g fa fb) :=
  ⟨ptHL (t ha.pe hb.pe) fun σ H Q hl t => by
    obtain ⟨F, ρ, B, q, d, q', k1, k2, k3⟩ := t hl
    obtain ⟨d1, q1, e1, k2⟩ := M.bind_some k2
    obtain ⟨d2, q2, e2, k2⟩ := M.bind_some k2
    obtain ⟨e3, rfl⟩ := M.of_some k2
    exact fun _ => ⟨F, ρ, B, q, d1, q1, k1, e1, fun x H1 l1 s1 p1 r1 _ _ => ⟨F, ρ, B, q1, d2, _, k1.stp s1 p1, e2, fun y H2 l2 s2 p2 r2 _ =>
      ok F x y H2 B d1 d2 _ _ k1.pB ((k1.stp s1 p1).stp s2 p2).nt l2 (RepC.stp s2 k1.pB r1.cons) r2.cons e3 fun v H' s' rep new =>
        ⟨d, rep, fun l' => k3 H' l' ((s1.trans s2).trans (Stp.of s')) (s' _ _ p2)⟩⟩⟩⟩
/-- a test whose value is a bool -/
theorem dt_val (h : DE X p e f c fr) (he : ∀ whole, isTrue e X.env whole = (do let v ← whole; standAt e.pos; holding [v] (truthy v)) := by intro _; rfl) : DT X p e f :=
  ⟨ptHL (pt_val h.pe he) fun σ H Q hl t => by
    obtain ⟨F, ρ, B, q, b, q', k1, k2, k3⟩ := t hl
    exact fun _ => ⟨F, ρ, B, q, _, q', k1, k2, fun v H' l s hq r _ => ⟨b, r.cons.bool, fun l' => k3 H' l' s hq⟩⟩⟩
/-! ### and, or, not, if -/
def andE (f g : Env → M D) : Env → M D := fun ρ => M.bind (f ρ) fun d => match d with
  | .bool true => g ρ
  | .bool false => M.pure (.bool false)
  | _ => M.fail
def orE (f g : Env → M D) : Env → M D := fun ρ => M.bind (f ρ) fun d => match d with
  | .bool true => M.pure (.bool true)
  | .bool false => g ρ
  | _ => M.fail
def notD : D → Option D
  | .bool b => some (.bool (!b))
  | _ => none
def iteE (c f g : Env → M D) : Env → M D := fun ρ => M.bind (c ρ) fun d => match d with
  | .bool true => f ρ
  | .bool false => g ρ
  | _ => M.fail
theorem andE_some {ρ : Env} {q q' : Pot} {d : D} (h : andE f g ρ q = some (d, q')) : (∃ q1, f ρ q = some (.bool true, q1) ∧ g ρ q1 = some (d, q')) ∨ (f ρ q = some (.bool false, q') ∧ d = .bool false) := by
  obtain ⟨a, q1, e1, h⟩ := M.bind_some h
  cases a with
  | bool b =>
    cases b with
    | true => exact .inl ⟨q1, e1, h⟩
    | false =>
      obtain ⟨rfl, rfl⟩ := M.pure_some h
      exact .inr ⟨e1, rfl⟩
  | _ => cases h
theorem orE_some {ρ : Env} {q q' : Pot} {d : D} (h : orE f g ρ q = some (d, q')) : (∃ q1, f ρ q = some (.bool false, q1) ∧ g ρ q1 = some (d, q')) ∨ (f ρ q = some (.bool true, q') ∧ d = .bool true) := by
  obtain ⟨a, q1, e1, h⟩ := M.bind_some h
  cases a with
  | bool b =>
    cases b with
    | false => exact .inl ⟨q1, e1, h⟩
    | true =>
      obtain ⟨rfl, rfl⟩ := M.pure_some h
      exact .inr ⟨e1, rfl⟩
  | _ => cases h
theorem iteE_some {t : Env → M D} {ρ : Env} {q q' : Pot} {d : D} (h : iteE t f g ρ q = some (d, q')) : ∃ b q1, t ρ q = some (.bool b, q1) ∧ (if b = true then f ρ q1 else g ρ q1) = some (d, q') := by
  obtain ⟨a, q1, e1, h⟩ := M.bind_some h
  cases a with
  | bool b =>
    refine ⟨b, q1, e1, ?_⟩
    cases b with
    | true => rw [if_pos rfl]; exact h
    | false => rw [if_neg Bool.false_ne_true]; exact h
  | _ => cases h
theorem d_one {op : BoolOp} {pos : Pos} (h : DE X p e f c fr) : DE X p (.BoolOp op [e] pos) f c fr := ⟨pe_one h.pe⟩
theorem d_and {a b : Expr} {rest : List Expr} {pos : Pos} {c1 f1 : Bool} (ha : DE X p a f c1 f1) (hb : DE X p (.BoolOp .And (b :: rest) pos) g c fr) : DE X p (.BoolOp .And (a :: b :: rest) pos) (andE f g) c false :=
  ⟨peHL (pe_and ha.pe hb.pe) fun σ H Q hl t => by
    obtain ⟨F, ρ, B, q, d, q', k1, k2, k3⟩ := t hl
    rcases andE_some k2 with ⟨q1, e1, e2⟩ | ⟨e1, rfl⟩
    · refine fun _ => ⟨F, ρ, B, q, _, q1, k1, e1, fun v H1 l1 s1 p1 r1 _ => ⟨true, r1.cons.bool, ?_⟩⟩
      rw [if_pos rfl]
      exact fun _ => ⟨F, ρ, B, q1, d, q', k1.stp s1 p1, e2, fun v H2 l2 s2 p2 r2 n2 l2' => k3 v H2 l2 (s1.trans s2) p2 r2 (fun z => by cases z)⟩
    · refine fun _ => ⟨F, ρ, B, q, _, q', k1, e1, fun v H1 l1 s1 p1 r1 _ => ⟨false, r1.cons.bool, ?_⟩⟩
      rw [if_neg Bool.false_ne_true]
      exact fun l => k3 _ H1 l s1 p1 (Res.of rfl) (fun z => by cases z)⟩
theorem d_or {a b : Expr} {rest : List Expr} {pos : Pos} {c1 f1 : Bool} (ha : DE X p a f c1 f1) (hb : DE X p (.BoolOp .Or (b :: rest) pos) g c fr) : DE X p (.BoolOp .Or (a :: b :: rest) pos) (orE f g) c false :=
  ⟨peHL (pe_or ha.pe hb.pe) fun σ H Q hl t => by
    obtain ⟨F, ρ, B, q, d, q', k1, k2, k3⟩ := t hl
    rcases orE_some k2 with ⟨q1, e1, e2⟩ | ⟨e1, rfl⟩
    · refine fun _ => ⟨F, ρ, B, q, _, q1, k1, e1, fun v H1 l1 s1 p1 r1 _ => ⟨false, r1.cons.bool, ?_⟩⟩
      rw [if_neg Bool.false_ne_true]
      exact fun _ => ⟨F, ρ, B, q1, d, q', k1.stp s1 p1, e2, fun v H2 l2 s2 p2 r2 n2 l2' => k3 v H2 l2 (s1.trans s2) p2 r2 (fun z => by cases z)⟩
    · refine fun _ => ⟨F, ρ, B, q, _, q', k1, e1, fun v H1 l1 s1 p1 r1 _ => ⟨true, r1.cons.bool, ?_⟩⟩
      rw [if_pos rfl]
      exact fun l => k3 _ H1 l s1 p1 (Res.of rfl) (fun z => by cases z)⟩
theorem notD_some {d e : D} (h : notD d = some e) : ∃ b, d = .bool b ∧ e = .bool (!b) := by
  cases d with
  | bool b => cases h; exact ⟨b, rfl, rfl⟩
  | _ => cases h
theorem d_not {a : Expr} {pos : Pos} (ha : DE X p a f c fr) : DE X p (.UnaryOp .Not a pos) (ap1 notD f) false false :=
  ⟨peHL (pe_not ha.pe) fun σ H Q hl t => by
    obtain ⟨F, ρ, B, q, d, q', k1, k2, k3⟩ := t hl
    obtain ⟨d1, q1, e1, k2⟩ := M.bind_some k2
    obtain ⟨e2, rfl⟩ := M.of_some k2
    obtain ⟨b, rfl, rfl⟩ := notD_some e2
    exact fun _ => ⟨F, ρ, B, q, _, _, k1, e1, fun v H1 l1 s1 p1 r1 _ => ⟨b, r1.cons.bool, fun l => k3 _ H1 l s1 p1 (Res.of rfl) (fun z => by cases z)⟩⟩⟩
theorem d_ifx {t a b : Expr} {ft : Env → M D} {pos : Pos} {f1 f2 : Bool} (ht : DT X p t ft) (ha : DE X p a f c f1) (hb : DE X p b g c f2) : DE X p (.IfExp t a b pos) (iteE ft f g) c false :=
  ⟨peHL (pe_ifExp ht.pt ha.pe hb.pe) fun σ H Q hl t => by
    obtain ⟨F, ρ, B, q, d, q', k1, k2, k3⟩ := t hl
    obtain ⟨b, q1, e1, e2⟩ := iteE_some k2
    refine fun _ => ⟨F, ρ, B, q, b, q1, k1, e1, fun H1 l1 s1 p1 => ?_⟩
    cases b with
    | true =>
      rw [if_pos rfl] at e2 ⊢
      exact fun _ => ⟨F, ρ, B, q1, d, q', k1.stp s1 p1, e2, fun v H2 l2 s2 p2 r2 n2 l2' => k3 v H2 l2 (s1.trans s2) p2 r2 (fun z => by cases z)⟩
    | false =>
      rw [if_neg Bool.false_ne_true] at e2 ⊢
      exact fun _ => ⟨F, ρ, B, q1, d, q', k1.stp s1 p1, e2, fun v H2 l2 s2 p2 r2 n2 l2' => k3 v H2 l2 (s1.trans s2) p2 r2 (fun z => by cases z)⟩⟩
theorem dw_pt (h : DW X p e f) : DT X p e f := ⟨PW.pt h.pw⟩
theorem dw_and1 {a : Expr} {pos : Pos} (h : DT X p a f) : DW X p (.BoolOp .And [a] pos) f := ⟨pw_and1 h.pt⟩
theorem dw_or1 {a : Expr} {pos : Pos} (h : DT X p a f) : DW X p (.BoolOp .Or [a] pos) f := ⟨pw_or1 h.pt⟩
theorem dw_and {a b : Expr} {rest : List Expr} {pos : Pos} (ha : DT X p a f) (hb : DW X p (.BoolOp .And (b :: rest) pos) g) : DW X p (.BoolOp .And (a :: b :: rest) pos) (andE f g) :=
  ⟨pwHL (pw_and ha.pt hb.pw) fun σ H Q hl t => by
    obtain ⟨F, ρ, B, q, b, q', k1, k2, k3⟩ := t hl
    rcases andE_some k2 with ⟨q1, e1, e2⟩ | ⟨e1, e2⟩
    · refine fun _ => ⟨F, ρ, B, q, _, q1, k1, e1, fun H1 l1 s1 p1 => ?_⟩
      dsimp only
      rw [if_pos rfl]
      exact fun _ => ⟨F, ρ, B, q1, b, q', k1.stp s1 p1, e2, fun H2 l2 s2 p2 l2' => k3 H2 l2 (s1.trans s2) p2⟩
    · cases e2
      refine fun _ => ⟨F, ρ, B, q, _, q', k1, e1, fun H1 l1 s1 p1 => ?_⟩
      dsimp only
      rw [if_neg Bool.false_ne_true]
      exact fun l => k3 H1 l s1 p1⟩
theorem dw_or {a b : Expr} {rest : List Expr} {pos : Pos} (ha : DT X p a f) (hb : DW X p (.BoolOp .Or (b :: rest) pos) g) : DW X p (.BoolOp .Or (a :: b :: rest) pos) (orE f g) :=
  ⟨pwHL (pw_or ha.pt hb.pw) fun σ H Q hl t => by
    obtain ⟨F, ρ, B, q, b, q', k1, k2, k3⟩ := t hl
    rcases orE_some k2 with ⟨q1, e1, e2⟩ | ⟨e1, e2⟩
    · refine fun _ => ⟨F, ρ, B, q, _, q1, k1, e1, fun H1 l1 s1 p1 => ?_⟩
      dsimp only
      rw [if_neg Bool.false_ne_true]
      exact fun _ => ⟨F, ρ, B, q1, b, q', k1.stp s1 p1, e2, fun H2 l2 s2 p2 l2' => k3 H2 l2 (s1.trans s2) p2⟩
    · cases e2
      refine fun _ => ⟨F, ρ, B, q, _, q', k1, e1, fun H1 l1 s1 p1 => ?_⟩
      dsimp only
      rw [if_pos rfl]
      exact fun l => k3 H1 l s1 p1⟩
theorem dt_not {a : Expr} {pos : Pos} (ha : DT X p a f) : DT X p (.UnaryOp .Not a pos) (ap1 notD f) :=
  ⟨ptHL (pt_not ha.pt) fun σ H Q hl t => by
    obtain ⟨F, ρ, B, q, b, q', k1, k2, k3⟩ := t hl
    obtain ⟨d1, q1, e1, k2⟩ := M.bind_some k2
    obtain ⟨e2, rfl⟩ := M.of_some k2
    obtain ⟨b', rfl, e3⟩ := notD_some e2
    cases e3
    exact fun _ => ⟨F, ρ, B, q, b', _, k1, e1, fun H1 l1 s1 p1 l => k3 H1 l s1 p1⟩⟩
/-! ### displays -/
theorem new_of {H H1 : Hp} {a : Addr} {d : D} {q : Pot} (s : Stp p H H1) (hp : H1 p = some (potV q)) (ha : H1 a = none) : New H (.ref a) d := fun _ => ⟨a, rfl, by
  by_cases e : a = p
  · subst e; rw [ha] at hp; cases hp
  · exact s.free e ha⟩
theorem same_upd {H : Hp} {a : Addr} {o : HO} (h : H a = none) : Same H (upd H a o) := fun b x e => by
  rw [upd_ne (ne_of_none e h)]
  exact e
theorem hid_new {H : Hp} {a : Addr} {o : HO} {B : List Addr} (h : H a = none) : Same (hide H B) (hide (hide (upd H a o) B) [a]) := fun b x e => by
  obtain ⟨h1, h2⟩ := hide_some e
  have ne : b ≠ a := ne_of_none h2 h
  exact hide_of (by simpa using ne) (hide_of h1 (by rw [upd_ne ne]; exact h2))
theorem new_nB {H : Hp} {a : Addr} {B : List Addr} (nt : ∀ a ∈ B, ∃ o, H a = some o ∧ nontup o = true) (h : H a = none) : a ∉ B := fun z => by
  obtain ⟨o, e, _⟩ := nt a z
  rw [h] at e; cases e
theorem rep_lst {K : PySem.W.Frag} {H : Hp} {a : Addr} {B : List Addr} {ds : List D} {vs : List V} (nt : ∀ a ∈ B, ∃ o, H a = some o ∧ nontup o = true) (h : H a = none) (r : RepL K p ds (hide H B) vs) : Rep K p (.list ds) (hide (upd H a (.lst vs)) B) (.ref a) :=
  ⟨a, vs, rfl, hide_of (new_nB nt h) upd_same, RepL.mono (hid_new h) r⟩
theorem rep_tup {K : PySem.W.Frag} {H : Hp} {a : Addr} {B : List Addr} {ds : List D} {vs : List V} {o : HO} (nt : ∀ a ∈ B, ∃ o, H a = some o ∧ nontup o = true) (h : H a = none) (ho : TupO vs o) (r : RepL K p ds (hide H B) vs) : Rep K p (.tuple ds) (hide (upd H a o) B) (.ref a) :=
  ⟨a, vs, rfl, ⟨o, ho, hide_of (new_nB nt h) upd_same⟩, RepL.mono (hide_same B (same_upd h)) r⟩
def tupE (fs : List (Env → M D)) : Env → M D := fun ρ => M.bind (seqE fs ρ) fun ds => M.pure (.tuple ds)
def lstE (fs : List (Env → M D)) : Env → M D := fun ρ => M.bind (seqE fs ρ) fun ds => M.pure (.list ds)
theorem seqE_len : ∀ {fs : List (Env → M D)} {ρ : Env} {q q' : Pot} {ds : List D}, seqE fs ρ q = some (ds, q') → ds.length = fs.length
  | [], _, _, _, _, h => by obtain ⟨rfl, rfl⟩ := M.pure_some h; rfl
  | f :: fs, _, _, _, _, h => by
    obtain ⟨d, q1, e1, h⟩ := M.bind_some h
    obtain ⟨dr, q2, e2, h⟩ := M.bind_some h
    obtain ⟨rfl, rfl⟩ := M.pure_some h
    rw [List.length_cons, List.length_cons, seqE_len e2]
theorem d_tup {es : List Expr} {fs : List (Env → M D)} {x1 : Nat} {pos : Pos} (ha : DA X p es fs false) (hn : fs.length ≤ sizeLine := by decide) : DE X p (.Tuple es x1 pos) (tupE fs) false false :=
  ⟨peHL (pe_tupO ha.pa) fun σ H Q hl t => by
    obtain ⟨F, ρ, B, q, d, q', k1, k2, k3⟩ := t hl
    obtain ⟨ds, q1, e1, k2⟩ := M.bind_some k2
    obtain ⟨rfl, rfl⟩ := M.pure_some k2
    refine fun _ => ⟨F, ρ, B, q, ds, _, k1, e1, fun vs H1 l1 s1 p1 r1 => ⟨by rw [r1.len, seqE_len e1]; exact hn, fun a o na ho l => ?_⟩⟩
    exact k3 _ _ l (s1.trans (Stp.of (same_upd na))) (same_upd na _ _ p1) (rep_tup (k1.stp s1 p1).nt na ho r1.rep) (fun z => by cases z)⟩
theorem d_lst {es : List Expr} {fs : List (Env → M D)} {pos : Pos} (ha : DA X p es fs false) (hn : fs.length ≤ sizeLine := by decide) : DE X p (.List es pos) (lstE fs) false true :=
  ⟨peHL (pe_lst ha.pa) fun σ H Q hl t => by
    obtain ⟨F, ρ, B, q, d, q', k1, k2, k3⟩ := t hl
    obtain ⟨ds, q1, e1, k2⟩ := M.bind_some k2
    obtain ⟨rfl, rfl⟩ := M.pure_some k2
    refine fun _ => ⟨F, ρ, B, q, ds, _, k1, e1, fun vs H1 l1 s1 p1 r1 => ⟨by rw [r1.len, seqE_len e1]; exact hn, fun a na l => ?_⟩⟩
    exact k3 _ _ l (s1.trans (Stp.of (same_upd na))) (same_upd na _ _ p1) (rep_lst (k1.stp s1 p1).nt na r1.rep) (fun _ => new_of s1 p1 na)⟩
end
end Sd
/-! defs over data, calls -/
namespace Sd
open PySem PySem.Spec PyProof.Rows L2
/-- what a def over data promises -/
def spD (K : PySem.W.Frag) (n : Nat) (sem : List D → M D) (vs : List V) (H : Hp) (Q : VK) : Prop := vs.length = n ∧ ∃ (p : Addr) (ds : List D) (B : List Addr) (q : Pot) (d : D) (q' : Pot),
  RepL K p ds (hide H B) vs ∧ p ∈ B ∧ (∀ a ∈ B, ∃ o, H a = some o ∧ nontup o = true) ∧ H p = some (potV q) ∧ sem ds q = some (d, q') ∧
  ∀ v H', HL H' → Stp p H H' → H' p = some (potV q') → Rep K p d (hide H' B) v → Q v H'
def Came (P : Program) (w : World) (outer : List PySem.Env) (H : Hp) (s : Shared) (Q : VK) (r : Result) (s' : Shared) : Prop := ∃ u, r = .ok (.ret u) ∧ CE outer P w H s Q u s'
/-- a def that keeps a promise, called where nothing is being shown (no repr above) -/
structure FnG (P : Program) (w : World) (K : PySem.W.Frag) (mg : Str → Option Value) (base : Heap) (k : Nat) (f : Addr) (fd : FuncData) (ps : List Str) (sp : List V → Hp → VK → Prop) : Prop where
  run : ∀ (A : Around) (outer : List PySem.Env) (s : Shared) (H : Hp) (args : Args) (us : List Value) (vs : List V) (Q : VK), Room k A → A.guards = some [] → Env0 P w K mg base A outer s H → BindsTo s fd args (ps.zip us) → vs.length = ps.length → Vals vs us → sp vs H Q →
    codeAny (model P w) A (.call (.ref f) args) (Came P w outer H s Q) s
section
variable {P : Program} {w : World} {K : PySem.W.Frag} {mg : Str → Option Value} {base : Heap} {x qual : Str} {body : List Stmt} {scope : Scope} {f : Addr} {fd : FuncData} {N ps : List Str} {k : Nat} {sp : List V → Hp → VK → Prop} {params : Arguments}
theorem FnG.mono {j : Nat} (F : FnG P w K mg base j f fd ps sp) (h : j ≤ k) : FnG P w K mg base k f fd ps sp := ⟨fun A o s H args us vs Q hr => F.run A o s H args us vs Q (hr.mono h)⟩
/-- the context of a def's body -/
abbrev cxB (P : Program) (w : World) (K : PySem.W.Frag) (mg : Str → Option Value) (base : Heap) (N : List Str) (qual : Str) (scope : Scope) (f : Addr) (cd : Value) (A : Around) (outer : List PySem.Env) (s : Shared) (H : Hp) : Cx :=
  (cxOf CX0 P w K mg base N qual scope f cd A outer s H fun _ _ _ => False).nox
theorem fnG_of (F : FunD K x qual params body scope [] [] f fd) (S : FnScope N ps scope)
    (hbody : ∀ (cdv : Value) (A : Around) (outer : List PySem.Env) (s : Shared) (H : Hp) (vs : List V) (Q : VK), Room k (A.deeper (envOfC qual scope s.heap.objs.size f cdv)) → A.guards = some [] → vs.length = ps.length → sp vs H Q →
      ∃ t, PSs (cxB P w K mg base N qual scope f cdv A outer s H) body t ∧ t { nx := fun _ H' => Q .non H', rt := Q } (start N vs) H) : FnG P w K mg base (k + 1) f fd ps sp := by
  obtain ⟨oc, od, dV, kV, doc, pm, an, cdv, ct, osl, rfl, lk, hcd, _, _⟩ := F.ex
  constructor
  intro A outer s H args us vs Q hr hgd e0 hb hl r hsp
  have inS : K.In s.heap := e0.mod.kin.keeps fun b o e => (e0.bs b o e).1
  have noLim : s.heap.NoLimit := e0.mod.nolimit.keeps fun b o e => (e0.bs b o e).1
  have kinds : ∀ y ∈ ps.zip us, scope.names.lookup y.1 = some .local ∨ (scope.names.lookup y.1 = some .cell ∧ ((cellsFrom (s.heap.objs.size + 1) scope.names []).lookup y.1).isSome = true) := by
    rintro ⟨n, v⟩ hy
    rcases S.par n (List.of_mem_zip hy).1 with z | z
    · exact Or.inl z
    · exact Or.inr ⟨z, PySem.W.cellsFrom_some _ _ _ (Or.inl z)⟩
  refine codeAny_call_function hr.depth (inS _ _ lk) rfl S.co S.gen rfl (PySem.W.codeRec_of inS hcd) (hb _ _ _ _ ?_)
  refine wpAny_newFunctionEnv_cells S.kind kinds fun env he s1 y => ?_
  subst he
  refine ⟨noLim.keeps y.toInCall.keep, codeAny_func ?_⟩
  obtain ⟨t, ht, hq⟩ := hbody cdv A outer s H vs Q (hr.deeper _) hgd hl hsp
  have J : Inv (cxB P w K mg base N qual scope f cdv A outer s H) [] (start N vs) H s1 := (inv_start S hr.hd e0 hl r y).wish _
  refine wpAny_mono (ht.run [] s1 (start N vs) H _ J hq) (fun fl s' hs => ?_) fun e s' hs => False.elim hs
  cases fl with
  | ret u =>
    obtain ⟨v, σ', H', J', rv, z⟩ := hs
    exact ⟨u, rfl, v, H', J'.os, J'.bare, J'.base, J'.hok, rv, z⟩
  | next =>
    obtain ⟨σ', H', J', z⟩ := hs
    exact ⟨.none, rfl, V.non, H', J'.os, J'.bare, J'.base, J'.hok, rfl, z⟩
  | brk =>
    obtain ⟨_, _, _, z⟩ := hs
    cases z
  | cont =>
    obtain ⟨_, _, _, z⟩ := hs
    cases z
end
section
variable {X : Cx} {k : Nat} {f : Addr} {fd : FuncData} {ps ks : List Str} {sp : List V → Hp → VK → Prop} {x : Str} {np pos : Pos} {e : Expr} {es : List Expr} {kws : List Keyword} {t tk : TA}
theorem runG {pins : List (Addr × Obj)} {σ : L2.St} {H : Hp} {s : Shared} {Q : VK} {args : Args} {us : List Value} {vs : List V} (F : FnG X.prog X.w X.K X.mg X.base k f fd ps sp) (hr : Room k X.A) (hgd : X.A.guards = some [])
    (hb : BindsTo s fd args (ps.zip us)) (I : Inv X pins σ H s) (hl : vs.length = ps.length) (r : Vals vs us) (h : sp vs H Q) : codeAny (model X.prog X.w) X.A (.call (.ref f) args) (fun r s' => match r with
      | .ok (.ret u) => EP X pins σ Q u s'
      | _ => False) s := by
  refine codeAny_mono (F.run X.A X.stack s H args us vs Q hr hgd I.env0 hb hl r h) fun r s' hq => ?_
  obtain ⟨u, rfl, hc⟩ := hq
  exact I.after hc
/-- f(e, ..) -/
theorem pe_callG (F : FnG X.prog X.w X.K X.mg X.base k f fd ps sp) (hr : Room k X.A) (hgd : X.A.guards = some []) (hg : Gl X x) (hm : X.mg x = some (.ref f)) (hk : PySem.W.keepIn X.K (.ref f) = true) (hb : Binds X.K fd ps [])
    (ha : PA X (e :: es) t) (hdb : (x == ("__debug__" : Str)) = false := by decide) (he : starEach (e :: es) X.env = (false, eval e X.env) :: starEach es X.env := by rfl) (hpl : (backTo pos (starEach es X.env)).any (·.1) = false := by rfl) :
    PE X (.Call (.Name x np) (e :: es) [] pos) (fun σ H Q => t σ H fun vs H1 => vs.length = ps.length ∧ sp vs H1 Q) := by
  constructor
  intro pins s σ H Q I h
  refine wpAny_Call_Name_kw (ld_glob I hg hm ?_ hdb)
  refine PySem.W.callWith_K (h₀ := X.base) I.ok.mod.kin hk (thn (ha.run pos pins s σ H _ I h) fun us s1 ⟨vs, H1, I1, r, hl, q⟩ => ⟨I1.kIn, ?_⟩) he hpl
  have hlu : (us ++ []).length = ps.length := by rw [List.append_nil, ← r.length]; exact hl
  have hb1 := hb s1 us I1.kIn hlu
  rw [List.append_nil] at hb1
  refine wpAny_call (codeAny_mono (runG F hr hgd hb1 I1 hl r q) fun r s' hq => ?_)
  cases r with
  | error e => cases hq
  | ok fl =>
    cases fl with
    | ret u => exact hq
    | next => cases hq
    | brk => cases hq
    | cont => cases hq
/-- f() -/
theorem pe_callG0 (F : FnG X.prog X.w X.K X.mg X.base k f fd ps sp) (hr : Room k X.A) (hgd : X.A.guards = some []) (hg : Gl X x) (hm : X.mg x = some (.ref f)) (hk : PySem.W.keepIn X.K (.ref f) = true) (hb : Binds X.K fd ps [])
    (hdb : (x == ("__debug__" : Str)) = false := by decide) : PE X (.Call (.Name x np) [] [] pos) (fun σ H Q => ps = [] ∧ sp [] H Q) := by
  constructor
  intro pins s σ H Q I h
  obtain ⟨rfl, h⟩ := h
  refine wpAny_Call_Name_kw (ld_glob I hg hm ?_ hdb)
  have hb1 := hb s [] I.kIn rfl
  refine PySem.W.callWith_K0 I.kIn hk (wpAny_call (codeAny_mono (runG (us := []) F hr hgd hb1 I rfl .nil h) fun r s' hq => ?_))
  cases r with
  | error e => cases hq
  | ok fl =>
    cases fl with
    | ret u => exact hq
    | next => cases hq
    | brk => cases hq
    | cont => cases hq
/-- f(k = v, ..), every parameter by its name -/
structure KwB (K : PySem.W.Frag) (fd : FuncData) (ps ks : List Str) (g : {α : Type} → List α → List α) : Prop where
  to : ∀ (s : Shared) (ws : List Value), K.In s.heap → ws.length = ks.length → BindsTo s fd ⟨[], ks.zip ws⟩ (ps.zip (g ws))
  len : ∀ {α : Type} (ws : List α), ws.length = ks.length → (g ws).length = ps.length
  rel : ∀ {zs : List V} {ws : List Value}, zs.length = ks.length → Vals zs ws → Vals (g zs) (g ws)
theorem pe_callGK {g : {α : Type} → List α → List α} (F : FnG X.prog X.w X.K X.mg X.base k f fd ps sp) (hr : Room k X.A) (hgd : X.A.guards = some []) (hg : Gl X x) (hm : X.mg x = some (.ref f)) (hk : PySem.W.keepIn X.K (.ref f) = true) (hb : KwB X.K fd ps ks g)
    (hkw : PK X kws tk) (hall : (backToKw pos (keywordEach kws X.env)).all (·.1.isSome) = true := by rfl) (hks : (backToKw pos (keywordEach kws X.env)).filterMap (·.1) = ks := by rfl)
    (hpl : ((backTo pos (starEach [] X.env)).any (·.1) || (backToKw pos (keywordEach kws X.env)).any (·.1.isNone)) = false := by rfl) (hdb : (x == ("__debug__" : Str)) = false := by decide) :
    PE X (.Call (.Name x np) [] kws pos) (fun σ H Q => tk σ H fun zs H1 => zs.length = ks.length ∧ sp (g zs) H1 Q) := by
  constructor
  intro pins s σ H Q I h
  refine wpAny_Call_Name_kw (ld_glob I hg hm ?_ hdb)
  refine PySem.W.callWith_KW0 (h₀ := X.base) I.ok.mod.kin hk hall (thn (hkw.run pos pins s σ H _ I h) fun ws s2 ⟨zs, H2, I2, rz, hl, q2⟩ => ⟨I2.kIn, ?_⟩) hpl
  rw [hks]
  have hlw : ws.length = ks.length := by rw [← rz.length]; exact hl
  refine wpAny_call (codeAny_mono (runG F hr hgd (hb.to s2 ws I2.kIn hlw) I2 (hb.len zs hl) (hb.rel hl rz) q2) fun r s' hq => ?_)
  cases r with
  | error e => cases hq
  | ok fl =>
    cases fl with
    | ret u => exact hq
    | next => cases hq
    | brk => cases hq
    | cont => cases hq
end
/-! ### calls over data -/
def callE (φ : List D → M D) (fs : List (Env → M D)) : Env → M D := fun ρ => M.bind (seqE fs ρ) φ
def callC (φ : List D → M D) (fs : List (Env → M D)) : Env → M D := fun ρ => M.bind (seqE fs ρ) fun ds => M.bind (φ ds) fun d => if imm d = true then M.pure d else M.fail
structure DK (X : Cx) (p : Addr) (kws : List Keyword) (fs : List (Env → M D)) (c : Bool) : Prop where
  pk : PK X kws (tA X.K p fs c)
section
variable {X : Cx} {p : Addr} {c fr : Bool} {f : Env → M D}
theorem pkHL {kws : List Keyword} {t t' : TA} (h : PK X kws t) (imp : ∀ σ H Q, HL H → t' σ H Q → t σ H (fun v H' => HL H' → Q v H')) : PK X kws t' :=
  ⟨fun pos pins s σ H Q I hw => thn (h.run pos pins s σ H _ I (imp σ H Q (HL_of I.hok) hw)) fun _ _ ⟨v, H', I', r, q⟩ => ⟨v, H', I', r, q (HL_of I'.hok)⟩⟩
theorem dk_nil : DK X p [] [] c := ⟨pkHL pk_nil fun σ H Q hl t => by
  obtain ⟨F, ρ, B, q, ds, q', h1, h2, h3⟩ := t hl
  obtain ⟨rfl, rfl⟩ := M.pure_some h2
  exact fun l => h3 [] H l Stp.refl h1.pot rfl⟩
theorem dk_cons {e : Expr} {kws : List Keyword} {nm : Option Str} {kpos : Pos} {fs : List (Env → M D)} {fr : Bool} (h1 : DE X p e f c fr) (h2 : DK X p kws fs c) : DK X p (⟨nm, e, kpos⟩ :: kws) (f :: fs) c :=
  ⟨pkHL (pk_cons h1.pe h2.pk) fun σ H Q hl t => by
    obtain ⟨F, ρ, B, q, ds, q', k1, k2, k3⟩ := t hl
    obtain ⟨d, q1, e1, k2⟩ := M.bind_some k2
    obtain ⟨dr, q2, e2, k2⟩ := M.bind_some k2
    obtain ⟨rfl, rfl⟩ := M.pure_some k2
    exact fun _ => ⟨F, ρ, B, q, d, q1, k1, e1, fun v H1 l1 s1 p1 r1 _ _ => ⟨F, ρ, B, q1, dr, _, k1.stp s1 p1, e2, fun vs H2 l2 s2 p2 r2 l2' =>
      k3 _ H2 l2 (s1.trans s2) p2 ⟨v, vs, rfl, r1.stp s2 k1.pB, r2⟩⟩⟩⟩
/-- from arguments that may be changed lists: only the pot is hidden -/
theorem ResL.open_ {K : PySem.W.Frag} {F : Addr → Prop} {H : Hp} {B : List Addr} (hp : p ∈ B) : ∀ {ds : List D} {vs : List V}, ResL K p F true H B ds vs → RepL K p ds (hide H [p]) vs
  | [], _, h => h
  | d :: ds, _, h => by
    obtain ⟨v, r, e, h1, h2⟩ := h
    refine ⟨v, r, e, ?_, ResL.open_ hp h2⟩
    have out : Same (hide H B) (hide H [p]) := hide_mono fun a o n e => ⟨fun z => n (by simp only [List.mem_singleton] at z; subst z; exact hp), e⟩
    rcases h1.cons with z | ⟨a, ea, hB, hne, hF, z⟩
    · exact Rep.mono out z
    · have out2 : Same (hide H B) (hide (hide H [p]) [a]) := fun b o z => by
        obtain ⟨n, z⟩ := hide_some z
        exact hide_of (by simp only [List.mem_singleton]; exact fun y => n (y ▸ hB)) (hide_of (by simp only [List.mem_singleton]; exact fun y => n (y ▸ hp)) z)
      have hna : a ∉ [p] := by simpa using hne
      rcases z with ⟨ds', vs', e1, z1, z2⟩ | ⟨kvs, vs', e1, z0, z1, z2⟩
      · rw [e1]
        exact ⟨a, vs', ea, hide_of hna z1, RepL.mono out2 z2⟩
      · rw [e1]
        have dc : DcAt (hide H [p]) a (kvs.map (·.1)) vs' := by
          have rd : ∀ {u}, H a = some u → hide H [p] a = some u := fun {u} h => hide_of hna h
          rcases z1 with ⟨kk, y1, y2, y3⟩ | ⟨kk, y1, y2, y3⟩
          · exact .inl ⟨kk, y1, y2, rd y3⟩
          · exact .inr ⟨kk, y1, y2, rd y3⟩
        exact .inr ⟨z0, a, vs', ea, dc, RepKV.mono out2 z2⟩
theorem TupS.trans {K : PySem.W.Frag} {H H1 H2 : Hp} (a : TupS K H H1) (b : TupS K H1 H2) : TupS K H H2 := fun x xs h => b x xs (a x xs h)
theorem TupS.of {K : PySem.W.Frag} {H H1 : Hp} (s : Same H H1) : TupS K H H1 := fun x xs h => h.mono s
theorem d_callG {e : Expr} {es : List Expr} {n : Nat} {φ : List D → M D} {fs : List (Env → M D)} (t : ∀ {ta : TA}, PA X es ta → PE X e (fun σ H Q => ta σ H fun vs H1 => vs.length = n ∧ spD X.K n φ vs H1 Q)) (hn : fs.length = n) (ha : DA X p es fs false) : DE X p e (callE φ fs) false false :=
  ⟨peHL (t ha.pa) fun σ H Q hl t => by
    obtain ⟨F, ρ, B, q, d, q', k1, k2, k3⟩ := t hl
    obtain ⟨ds, q1, e1, k2⟩ := M.bind_some k2
    refine fun _ => ⟨F, ρ, B, q, ds, q1, k1, e1, fun vs H1 l1 s1 p1 r1 => ?_⟩
    have len : vs.length = n := by rw [r1.len, seqE_len e1, hn]
    exact ⟨len, len, p, ds, B, q1, d, q', r1.rep, k1.pB, (k1.stp s1 p1).nt, p1, k2, fun v H' l s' p' rep l' => k3 v H' l (s1.trans s') p' rep (fun z => by cases z)⟩⟩
theorem callC_some {φ : List D → M D} {ds : List D} {q q' : Pot} {d : D} (h : M.bind (φ ds) (fun d => if imm d = true then M.pure d else M.fail) q = some (d, q')) : φ ds q = some (d, q') ∧ imm d = true := by
  obtain ⟨d', q1, e1, h⟩ := M.bind_some h
  by_cases i : imm d' = true
  · rw [if_pos i] at h
    obtain ⟨rfl, rfl⟩ := M.pure_some h
    exact ⟨e1, i⟩
  · rw [if_neg i] at h; cases h
theorem d_callGC {e : Expr} {es : List Expr} {n : Nat} {φ : List D → M D} {fs : List (Env → M D)} (t : ∀ {ta : TA}, PA X es ta → PE X e (fun σ H Q => ta σ H fun vs H1 => vs.length = n ∧ spD X.K n φ vs H1 Q)) (hn : fs.length = n) (ha : DA X p es fs true) : DE X p e (callC φ fs) false false :=
  ⟨peHL (t ha.pa) fun σ H Q hl t => by
    obtain ⟨F, ρ, B, q, d, q', k1, k2, k3⟩ := t hl
    obtain ⟨ds, q1, e1, k2⟩ := M.bind_some k2
    obtain ⟨e2, i⟩ := callC_some k2
    refine fun _ => ⟨F, ρ, B, q, ds, q1, k1, e1, fun vs H1 l1 s1 p1 r1 => ?_⟩
    have len : vs.length = n := by rw [r1.len, seqE_len e1, hn]
    refine ⟨len, len, p, ds, [p], q1, d, q', ResL.open_ k1.pB r1, by simp, fun a ha => ?_, p1, e2, fun v H' l s' p' rep l' => ?_⟩
    · simp only [List.mem_singleton] at ha; subst ha; exact ⟨_, p1, rfl⟩
    · refine k3 v H' l (s1.trans s') p' (Rep.imm i ?_ rep) (fun z => by cases z)
      exact TupS.trans (TupS.of (hide_le _ _)) (hide_tup ((k1.stp s1 p1).stp s' p').nt)⟩
/-- by keywords -/
theorem d_callGK {e : Expr} {kws : List Keyword} {n m : Nat} {g : {α : Type} → List α → List α} {φ : List D → M D} {fs : List (Env → M D)} (t : ∀ {ta : TA}, PK X kws ta → PE X e (fun σ H Q => ta σ H fun zs H1 => zs.length = m ∧ spD X.K n φ (g zs) H1 Q)) (hm : fs.length = m)
    (hg : ∀ {K : PySem.W.Frag} {H : Hp} {ds : List D} {vs : List V}, ds.length = m → RepL K p ds H vs → RepL K p (g ds) H (g vs)) (hgl : ∀ {α : Type} (ws : List α), ws.length = m → (g ws).length = n) (ha : DK X p kws fs false) : DE X p e (callE (fun ds => φ (g ds)) fs) false false :=
  ⟨peHL (t ha.pk) fun σ H Q hl t => by
    obtain ⟨F, ρ, B, q, d, q', k1, k2, k3⟩ := t hl
    obtain ⟨ds, q1, e1, k2⟩ := M.bind_some k2
    refine fun _ => ⟨F, ρ, B, q, ds, q1, k1, e1, fun vs H1 l1 s1 p1 r1 => ?_⟩
    have ld : ds.length = m := by rw [seqE_len e1, hm]
    have len : vs.length = m := by rw [r1.len, ld]
    exact ⟨len, hgl vs len, p, g ds, B, q1, d, q', hg ld r1.rep, k1.pB, (k1.stp s1 p1).nt, p1, k2, fun v H' l s' p' rep l' => k3 v H' l (s1.trans s') p' rep (fun z => by cases z)⟩⟩
end
end Sd
/-! statements over data -/
namespace Sd
open PySem PySem.Spec PyProof.Rows L2
inductive Fl where
  | nx | bk | ct | rt (d : D)
abbrev SE := Env → M (Fl × Env)
structure StR (K : PySem.W.Frag) (p : Addr) (H0 : Hp) (Ext own : List Addr) (H : Hp) (σ : L2.St) (ρ : Env) (q : Pot) : Prop where
  keep : ∀ a o, H0 a = some o → a ≠ p → H a = some o
  pre : Pre K p (fun a => H0 a = none) H (own ++ Ext) σ ρ q
  pX : p ∈ Ext
  own0 : ∀ a ∈ own, H0 a = none ∧ a ≠ p
  ext0 : ∀ a ∈ Ext, H0 a ≠ none
  uniq : ∀ (i j : Nat) (d e : D) (a : Addr), ρ[i]? = some (some (true, d)) → ρ[j]? = some (some (true, e)) → σ[i]? = some (some (.ref a)) → σ[j]? = some (some (.ref a)) → i = j
  len : σ.length = ρ.length
def Aft (K : PySem.W.Frag) (p : Addr) (H0 : Hp) (Ext : List Addr) (E : Ends) : Fl × Env → Pot → Prop
  | (.nx, ρ'), q' => ∀ σ' H' own, HL H' → StR K p H0 Ext own H' σ' ρ' q' → E.nx σ' H'
  | (.bk, ρ'), q' => ∀ σ' H' own, HL H' → StR K p H0 Ext own H' σ' ρ' q' → E.bk σ' H'
  | (.ct, ρ'), q' => ∀ σ' H' own, HL H' → StR K p H0 Ext own H' σ' ρ' q' → E.ct σ' H'
  | (.rt d, _), q' => ∀ v H', HL H' → Stp p H0 H' → H' p = some (potV q') → Rep K p d (hide H' Ext) v → E.rt v H'
def tS (K : PySem.W.Frag) (p : Addr) (f : SE) : TS := fun E σ H => HL H → ∃ (H0 : Hp) (Ext own : List Addr) (ρ : Env) (q : Pot) (r : Fl × Env) (q' : Pot), StR K p H0 Ext own H σ ρ q ∧ f ρ q = some (r, q') ∧ Aft K p H0 Ext E r q'
structure DS (X : Cx) (p : Addr) (st : Stmt) (f : SE) : Prop where
  ps : PS X st (tS X.K p f)
structure DSs (X : Cx) (p : Addr) (st : List Stmt) (f : SE) : Prop where
  pss : PSs X st (tS X.K p f)
/-- the ends, the line known -/
def Ends.hl (E : Ends) : Ends := { nx := fun σ H => HL H → E.nx σ H, rt := fun v H => HL H → E.rt v H, bk := fun σ H => HL H → E.bk σ H, ct := fun σ H => HL H → E.ct σ H }
section
variable {X : Cx} {p : Addr}
theorem SP.hl {pins : List (Addr × Obj)} {E : Ends} {f : Flow} {s : Shared} (h : SP X pins (Ends.hl E) f s) : SP X pins E f s := by
  cases f with
  | next => obtain ⟨σ', H', I, q⟩ := h; exact ⟨σ', H', I, q (HL_of I.hok)⟩
  | brk => obtain ⟨σ', H', I, q⟩ := h; exact ⟨σ', H', I, q (HL_of I.hok)⟩
  | cont => obtain ⟨σ', H', I, q⟩ := h; exact ⟨σ', H', I, q (HL_of I.hok)⟩
  | ret u => obtain ⟨v, σ', H', I, r, q⟩ := h; exact ⟨v, σ', H', I, r, q (HL_of I.hok)⟩
theorem psHL {st : Stmt} {t t' : TS} (h : PS X st t) (imp : ∀ E σ H, HL H → t' E σ H → t (Ends.hl E) σ H) : PS X st t' :=
  ⟨fun pins s σ H E I hw => thn (h.run pins s σ H _ I (imp E σ H (HL_of I.hok) hw)) fun _ _ q => SP.hl q⟩
theorem pssHL {st : List Stmt} {t t' : TS} (h : PSs X st t) (imp : ∀ E σ H, HL H → t' E σ H → t (Ends.hl E) σ H) : PSs X st t' :=
  ⟨fun pins s σ H E I hw => thn (h.run pins s σ H _ I (imp E σ H (HL_of I.hok) hw)) fun _ _ q => SP.hl q⟩
variable {K : PySem.W.Frag} {H0 H H' : Hp} {Ext own : List Addr} {σ : L2.St} {ρ : Env} {q q' : Pot} {E : Ends}
theorem StR.stp (S : StR K p H0 Ext own H σ ρ q) (s : Stp p H H') (hq : H' p = some (potV q')) : StR K p H0 Ext own H' σ ρ q' :=
  ⟨fun a o e ne => s a o (S.keep a o e ne) ne, S.pre.stp s hq, S.pX, S.own0, S.ext0, S.uniq, S.len⟩
theorem StR.stp0 (S : StR K p H0 Ext own H σ ρ q) : Stp p H0 H := S.keep
/-- the ends of a block's rest -/
theorem Aft.hl : ∀ {r : Fl × Env} {q : Pot}, Aft K p H0 Ext E r q → Aft K p H0 Ext (Ends.hl E) r q
  | (.nx, _), _, h => fun σ' H' own l S _ => h σ' H' own l S
  | (.bk, _), _, h => fun σ' H' own l S _ => h σ' H' own l S
  | (.ct, _), _, h => fun σ' H' own l S _ => h σ' H' own l S
  | (.rt _, _), _, h => fun v H' l s e r _ => h v H' l s e r
def nilS : SE := fun ρ => M.pure (.nx, ρ)
def seqS (f g : SE) : SE := fun ρ => M.bind (f ρ) fun r => match r with
  | (.nx, ρ') => g ρ'
  | r => M.pure r
theorem dss_nil : DSs X p [] nilS := ⟨pssHL pss_nil fun E σ H hl t => by
  obtain ⟨H0, Ext, own, ρ, q, r, q', S, e, a⟩ := t hl
  obtain ⟨rfl, rfl⟩ := M.pure_some e
  exact fun l => a σ H own l S⟩
theorem seqS_some {f g : SE} {ρ : Env} {q q' : Pot} {r : Fl × Env} (h : seqS f g ρ q = some (r, q')) : (∃ ρ' q1, f ρ q = some ((.nx, ρ'), q1) ∧ g ρ' q1 = some (r, q')) ∨ (f ρ q = some (r, q') ∧ r.1 ≠ .nx) := by
  obtain ⟨⟨fl, ρ'⟩, q1, e1, h⟩ := M.bind_some h
  cases fl with
  | nx => exact .inl ⟨ρ', q1, e1, h⟩
  | bk => obtain ⟨rfl, rfl⟩ := M.pure_some h; exact .inr ⟨e1, fun z => by cases z⟩
  | ct => obtain ⟨rfl, rfl⟩ := M.pure_some h; exact .inr ⟨e1, fun z => by cases z⟩
  | rt d => obtain ⟨rfl, rfl⟩ := M.pure_some h; exact .inr ⟨e1, fun z => by cases z⟩
theorem dss_cons {st : Stmt} {rest : List Stmt} {f g : SE} (h1 : DS X p st f) (h2 : DSs X p rest g) : DSs X p (st :: rest) (seqS f g) := ⟨pssHL (pss_cons h1.ps h2.pss) fun E σ H hl t => by
  obtain ⟨H0, Ext, own, ρ, q, r, q', S, e, a⟩ := t hl
  rcases seqS_some e with ⟨ρ', q1, e1, e2⟩ | ⟨e1, e2⟩
  · exact fun _ => ⟨H0, Ext, own, ρ, q, _, q1, S, e1, fun σ' H' own' l' S' l2 => ⟨H0, Ext, own', ρ', q1, r, q', S', e2, a.hl⟩⟩
  · refine fun _ => ⟨H0, Ext, own, ρ, q, r, q', S, e1, ?_⟩
    obtain ⟨fl, ρ'⟩ := r
    cases fl with
    | nx => exact absurd rfl e2
    | bk => exact a.hl
    | ct => exact a.hl
    | rt d => exact a.hl⟩
theorem dss_one {st : Stmt} {f : SE} (h1 : DS X p st f) : DSs X p [st] f := ⟨pss_one h1.ps⟩
def passS : SE := nilS
theorem ds_pass {pos : Pos} : DS X p (.Pass pos) nilS := ⟨psHL ps_pass fun E σ H hl t => by
  obtain ⟨H0, Ext, own, ρ, q, r, q', S, e, a⟩ := t hl
  obtain ⟨rfl, rfl⟩ := M.pure_some e
  exact fun l => a σ H own l S⟩
def breakS : SE := fun ρ => M.pure (.bk, ρ)
def contS : SE := fun ρ => M.pure (.ct, ρ)
theorem ds_break {pos : Pos} : DS X p (.Break pos) breakS := ⟨psHL ps_break fun E σ H hl t => by
  obtain ⟨H0, Ext, own, ρ, q, r, q', S, e, a⟩ := t hl
  obtain ⟨rfl, rfl⟩ := M.pure_some e
  exact fun l => a σ H own l S⟩
theorem ds_cont {pos : Pos} : DS X p (.Continue pos) contS := ⟨psHL ps_continue fun E σ H hl t => by
  obtain ⟨H0, Ext, own, ρ, q, r, q', S, e, a⟩ := t hl
  obtain ⟨rfl, rfl⟩ := M.pure_some e
  exact fun l => a σ H own l S⟩
/-- what is never run -/
def neverS : SE := fun _ => M.fail
theorem ds_never {st : Stmt} : DS X p st neverS := ⟨psHL ps_never fun E σ H hl t => by
  obtain ⟨H0, Ext, own, ρ, q, r, q', S, e, a⟩ := t hl
  cases e⟩
/-- an expression alone -/
def exprS (f : Env → M D) : SE := fun ρ => M.bind (f ρ) fun _ => M.pure (.nx, ρ)
theorem ds_expr {e : Expr} {pos : Pos} {f : Env → M D} {c fr : Bool} (h : DE X p e f c fr) (hs : swapsWith e none pos.line X.env = pure false := by rfl) : DS X p (.Expr e pos) (exprS f) := ⟨psHL (ps_expr h.pe hs) fun E σ H hl t => by
  obtain ⟨H0, Ext, own, ρ, q, r, q', S, e, a⟩ := t hl
  obtain ⟨d, q1, e1, e⟩ := M.bind_some e
  obtain ⟨rfl, rfl⟩ := M.pure_some e
  exact fun _ => ⟨_, ρ, _, q, d, _, S.pre, e1, fun v H1 l1 s1 p1 _ _ _ => a σ H1 own l1 (S.stp s1 p1)⟩⟩
/-- return -/
def retS (f : Env → M D) : SE := fun ρ => M.bind (f ρ) fun d => M.pure (.rt d, ρ)
theorem RepC_ret {d : D} {v : V} (S : StR K p H0 Ext own H σ ρ q) (h : RepC K p (fun a => H0 a = none) H (own ++ Ext) d v) : Rep K p d (hide H Ext) v := by
  have out : Same (hide H (own ++ Ext)) (hide H Ext) := hide_mono fun a o n e => ⟨fun z => n (List.mem_append_right _ z), e⟩
  rcases h with h | ⟨a, e, hB, hne, hF, h⟩
  · exact Rep.mono out h
  · have hx : a ∉ Ext := fun z => S.ext0 a z hF
    have out2 : Same (hide H (own ++ Ext)) (hide (hide H Ext) [a]) := hide_mono (B' := [a]) (H' := hide H Ext) fun b o n e => ⟨by simp only [List.mem_singleton]; exact fun z => n (z ▸ hB), hide_of (fun z => n (List.mem_append_right _ z)) e⟩
    rcases h with ⟨ds, vs, e1, h1, h2⟩ | ⟨kvs, vs, e1, h0, h1, h2⟩
    · rw [e1]
      exact ⟨a, vs, e, hide_of hx h1, RepL.mono out2 h2⟩
    · rw [e1]
      refine .inr ⟨h0, a, vs, e, ?_, RepKV.mono out2 h2⟩
      rcases h1 with ⟨kk, y1, y2, y3⟩ | ⟨kk, y1, y2, y3⟩
      · exact .inl ⟨kk, y1, y2, hide_of hx y3⟩
      · exact .inr ⟨kk, y1, y2, hide_of hx y3⟩
theorem ds_ret {e : Expr} {pos : Pos} {f : Env → M D} {c fr : Bool} (h : DE X p e f c fr) : DS X p (.Return (some e) pos) (retS f) := ⟨psHL (ps_ret h.pe) fun E σ H hl t => by
  obtain ⟨H0, Ext, own, ρ, q, r, q', S, e, a⟩ := t hl
  obtain ⟨d, q1, e1, e⟩ := M.bind_some e
  obtain ⟨rfl, rfl⟩ := M.pure_some e
  exact fun _ => ⟨_, ρ, _, q, d, _, S.pre, e1, fun v H1 l1 s1 p1 r1 _ _ => a v H1 l1 (S.stp s1 p1).stp0 p1 (RepC_ret (S.stp s1 p1) r1.cons)⟩⟩
theorem ds_retN {pos : Pos} : DS X p (.Return none pos) (retS (cst .none)) := ⟨psHL ps_retN fun E σ H hl t => by
  obtain ⟨H0, Ext, own, ρ, q, r, q', S, e, a⟩ := t hl
  obtain ⟨d, q1, e1, e⟩ := M.bind_some e
  obtain ⟨rfl, rfl⟩ := M.pure_some e
  obtain ⟨rfl, rfl⟩ := M.pure_some e1
  exact fun l => a _ H l S.stp0 S.pre.pot rfl⟩
/-- if -/
def ifS (c : Env → M D) (f g : SE) : SE := fun ρ => M.bind (c ρ) fun d => match d with
  | .bool true => f ρ
  | .bool false => g ρ
  | _ => M.fail
theorem ifS_some {c : Env → M D} {f g : SE} {ρ : Env} {q q' : Pot} {r : Fl × Env} (h : ifS c f g ρ q = some (r, q')) : ∃ b q1, c ρ q = some (.bool b, q1) ∧ (if b = true then f ρ q1 else g ρ q1) = some (r, q') := by
  obtain ⟨a, q1, e1, h⟩ := M.bind_some h
  cases a with
  | bool b =>
    refine ⟨b, q1, e1, ?_⟩
    cases b with
    | true => rw [if_pos rfl]; exact h
    | false => rw [if_neg Bool.false_ne_true]; exact h
  | _ => cases h
theorem ds_if {t : Expr} {a b : List Stmt} {pos : Pos} {c : Env → M D} {f g : SE} (ht : DT X p t c) (ha : DSs X p a f) (hb : DSs X p b g) : DS X p (.If t a b pos) (ifS c f g) := ⟨psHL (ps_if ht.pt ha.pss hb.pss) fun E σ H hl t => by
  obtain ⟨H0, Ext, own, ρ, q, r, q', S, e, af⟩ := t hl
  obtain ⟨b, q1, e1, e2⟩ := ifS_some e
  refine fun _ => ⟨_, ρ, _, q, b, q1, S.pre, e1, fun H1 l1 s1 p1 => ?_⟩
  cases b with
  | true =>
    rw [if_pos rfl] at e2 ⊢
    exact fun _ => ⟨H0, Ext, own, ρ, q1, r, q', S.stp s1 p1, e2, af.hl⟩
  | false =>
    rw [if_neg Bool.false_ne_true] at e2 ⊢
    exact fun _ => ⟨H0, Ext, own, ρ, q1, r, q', S.stp s1 p1, e2, af.hl⟩⟩
/-! ### names are stored -/
theorem set_get {α : Type} {l : List α} {i j : Nat} {x y : α} (h : (l.set i x)[j]? = some y) : (i = j ∧ x = y ∧ j < l.length) ∨ (i ≠ j ∧ l[j]? = some y) := by
  by_cases e : i = j
  · subst e
    by_cases hl : i < l.length
    · rw [List.getElem?_set_self hl] at h; cases h; exact .inl ⟨rfl, rfl, hl⟩
    · rw [List.getElem?_eq_none (by simpa using hl)] at h; cases h
  · rw [List.getElem?_set_ne e] at h; exact .inr ⟨e, h⟩
theorem StR.set {d : D} {v : V} (S : StR K p H0 Ext own H σ ρ q) (i : Nat) (r : Rep K p d (hide H (own ++ Ext)) v) : StR K p H0 Ext own H (σ.set i (some v)) (ρ.set i (some (false, d))) q := by
  refine ⟨S.keep, ⟨S.pre.pot, S.pre.pB, S.pre.nt, fun j b e h => ?_, by simp [S.len]⟩, S.pX, S.own0, S.ext0, fun j k d1 d2 a h1 h2 h3 h4 => ?_, by simp [S.len]⟩
  · rcases set_get h with ⟨rfl, e1, hl⟩ | ⟨ne, h⟩
    · cases e1
      exact ⟨v, by rw [List.getElem?_set_self (by rw [S.len]; exact hl)], fun _ => r, fun z => by cases z⟩
    · obtain ⟨w, h1, h2⟩ := S.pre.env j b e h
      exact ⟨w, by rw [List.getElem?_set_ne ne]; exact h1, h2⟩
  · rcases set_get h1 with ⟨_, e1, _⟩ | ⟨n1, h1⟩
    · cases e1
    · rcases set_get h2 with ⟨_, e1, _⟩ | ⟨n2, h2⟩
      · cases e1
      · rw [List.getElem?_set_ne n1] at h3
        rw [List.getElem?_set_ne n2] at h4
        exact S.uniq j k d1 d2 a h1 h2 h3 h4
/-- a new list, dict of its own -/
theorem StR.setB {d : D} {v : V} (S : StR K p H0 Ext own H σ ρ q) (s : Stp p H H') (hq : H' p = some (potV q')) (i : Nat) (nw : New H v d) (ld : isLD d = true) (r : Rep K p d (hide H' (own ++ Ext)) v) :
    ∃ a, StR K p H0 Ext (a :: own) H' (σ.set i (some v)) (ρ.set i (some (true, d))) q' := by
  obtain ⟨a, rfl, na⟩ := nw ld
  have S' := S.stp s hq
  have hp : a ≠ p := fun z => by rw [z, S.pre.pot] at na; cases na
  have h0 : H0 a = none := by
    cases e : H0 a with
    | none => rfl
    | some o => rw [S.keep a o e hp] at na; cases na
  have bld : Bld K p (fun a => H0 a = none) H' (a :: own ++ Ext) d (.ref a) := by
    have sub : Same (hide (hide H' (own ++ Ext)) [a]) (hide H' (a :: own ++ Ext)) := fun b o e => by
      obtain ⟨n1, e⟩ := hide_some e
      obtain ⟨n2, e⟩ := hide_some e
      refine hide_of (fun z => ?_) e
      rcases List.mem_cons.mp z with z | z
      · exact n1 (by simp [z])
      · exact n2 z
    cases d with
    | list ds =>
      obtain ⟨a', vs, ea, h1, h2⟩ := r
      cases ea
      exact ⟨a, rfl, List.mem_cons_self, hp, h0, .inl ⟨ds, vs, rfl, (hide_some h1).2, RepL.mono sub h2⟩⟩
    | dict kvs =>
      rcases r with ⟨_, e⟩ | ⟨hk, a', vs, ea, h1, h2⟩
      · cases e; exact absurd rfl hp
      · cases ea
        exact ⟨a, rfl, List.mem_cons_self, hp, h0, .inr ⟨kvs, vs, rfl, hk, DcAt_mono (hide_le _ _) h1, RepKV.mono sub h2⟩⟩
    | none => cases ld
    | bool _ => cases ld
    | int _ => cases ld
    | str _ => cases ld
    | tuple _ => cases ld
  have nta : ∃ o, H' a = some o ∧ nontup o = true := by
    obtain ⟨a', ea, _, _, _, z⟩ := bld
    cases ea
    rcases z with ⟨ds, vs, _, h1, _⟩ | ⟨kvs, vs, _, _, h1, _⟩
    · exact ⟨_, h1, rfl⟩
    · rcases h1 with ⟨_, _, _, h1⟩ | ⟨_, _, _, h1⟩
      · exact ⟨_, h1, rfl⟩
      · exact ⟨_, h1, rfl⟩
  -- what the others are leans on nothing new
  have out : Same (hide H (own ++ Ext)) (hide H' (a :: own ++ Ext)) := hide_mono fun b o n e => ⟨fun z => by
    rcases List.mem_cons.mp z with z | z
    · rw [z, na] at e; cases e
    · exact n z, s b o e fun z => n (z ▸ S.pre.pB)⟩
  have others : ∀ (j : Nat) (b : Bool) (e : D), ρ[j]? = some (some (b, e)) → ∃ w, σ[j]? = some (some w) ∧ (b = false → Rep K p e (hide H' (a :: own ++ Ext)) w) ∧ (b = true → Bld K p (fun a => H0 a = none) H' (a :: own ++ Ext) e w ∧ w ≠ .ref a) := fun j b e h => by
    obtain ⟨w, h1, h2, h3⟩ := S.pre.env j b e h
    refine ⟨w, h1, fun z => Rep.mono out (h2 z), fun z => ?_⟩
    obtain ⟨c, ec, hB, hne, hF, z⟩ := h3 z
    have hc : c ≠ a := fun y => by
      rcases z with ⟨ds, vs, _, g1, _⟩ | ⟨kvs, vs, _, _, g1, _⟩
      · rw [y, na] at g1; cases g1
      · rcases g1 with ⟨_, _, _, g1⟩ | ⟨_, _, _, g1⟩
        · rw [y, na] at g1; cases g1
        · rw [y, na] at g1; cases g1
    refine ⟨⟨c, ec, List.mem_cons_of_mem _ hB, hne, hF, ?_⟩, fun y => hc (by rw [ec] at y; cases y; rfl)⟩
    rcases z with ⟨ds, vs, e1, g1, g2⟩ | ⟨kvs, vs, e1, g0, g1, g2⟩
    · exact .inl ⟨ds, vs, e1, s _ _ g1 hne, RepL.mono out g2⟩
    · exact .inr ⟨kvs, vs, e1, g0, DcAt_stp s hne g1, RepKV.mono out g2⟩
  refine ⟨a, S'.keep, ⟨hq, List.mem_cons_of_mem _ S.pre.pB, fun b hb => ?_, fun j b e h => ?_, by simp [S.len]⟩, S.pX, fun b hb => ?_, S.ext0, fun j k d1 d2 c h1 h2 h3 h4 => ?_, by simp [S.len]⟩
  · rcases List.mem_cons.mp hb with z | z
    · rw [z]; exact nta
    · exact S'.pre.nt b z
  · rcases set_get h with ⟨rfl, e1, hl⟩ | ⟨ne, h⟩
    · cases e1
      exact ⟨.ref a, by rw [List.getElem?_set_self (by rw [S.len]; exact hl)], fun z => (by cases z), fun _ => bld⟩
    · obtain ⟨w, h1, h2, h3⟩ := others j b e h
      exact ⟨w, by rw [List.getElem?_set_ne ne]; exact h1, h2, fun z => (h3 z).1⟩
  · rcases List.mem_cons.mp hb with z | z
    · rw [z]; exact ⟨h0, hp⟩
    · exact S.own0 b z
  · rcases set_get h1 with ⟨i1, e1, l1⟩ | ⟨n1, h1⟩
    · rcases set_get h2 with ⟨i2, e2, l2⟩ | ⟨n2, h2⟩
      · rw [← i1, ← i2]
      · obtain ⟨w, g1, _, g3⟩ := others k true d2 h2
        rw [List.getElem?_set_ne n2, g1] at h4
        rw [← i1, List.getElem?_set_self (by rw [S.len, i1]; exact l1)] at h3
        cases h3; cases h4
        exact absurd rfl (g3 rfl).2
    · rcases set_get h2 with ⟨i2, e2, l2⟩ | ⟨n2, h2⟩
      · obtain ⟨w, g1, _, g3⟩ := others j true d1 h1
        rw [List.getElem?_set_ne n1, g1] at h3
        rw [← i2, List.getElem?_set_self (by rw [S.len, i2]; exact l2)] at h4
        cases h3; cases h4
        exact absurd rfl (g3 rfl).2
      · rw [List.getElem?_set_ne n1] at h3
        rw [List.getElem?_set_ne n2] at h4
        exact S.uniq j k d1 d2 c h1 h2 h3 h4
def setS (i : Nat) (f : Env → M D) : SE := fun ρ => M.bind (f ρ) fun d => M.pure (.nx, ρ.set i (some (false, d)))
def setB (i : Nat) (f : Env → M D) : SE := fun ρ => M.bind (f ρ) fun d => if isLD d = true then M.pure (.nx, ρ.set i (some (true, d))) else M.fail
theorem ds_set {x : Str} {e : Expr} {pos pos' : Pos} {f : Env → M D} {fr : Bool} (i : Nat) (hN : X.N.Nodup) (hi : X.N[i]? = some x) (hx : Loc X.env.scope x) (he : DE X p e f false fr)
    (hs : swapsWith e (some (.Name x pos')) pos.line X.env = pure false := by rfl) (hf : X.fn x = true ∨ X.env.scope.names.lookup x = some .local := by first | exact .inl rfl | exact .inr rfl) : DS X p (.Assign [.Name x pos'] e pos) (setS i f) := ⟨psHL (ps_set hN hi hx he.pe hs hf) fun E σ H hl t => by
  obtain ⟨H0, Ext, own, ρ, q, r, q', S, e, a⟩ := t hl
  obtain ⟨d, q1, e1, e⟩ := M.bind_some e
  obtain ⟨rfl, rfl⟩ := M.pure_some e
  exact fun _ => ⟨_, ρ, _, q, d, _, S.pre, e1, fun v H1 l1 s1 p1 r1 _ _ => a _ H1 own l1 ((S.stp s1 p1).set i r1)⟩⟩
theorem ds_setB {x : Str} {e : Expr} {pos pos' : Pos} {f : Env → M D} (i : Nat) (hN : X.N.Nodup) (hi : X.N[i]? = some x) (hx : Loc X.env.scope x) (he : DE X p e f false true)
    (hs : swapsWith e (some (.Name x pos')) pos.line X.env = pure false := by rfl) (hf : X.fn x = true ∨ X.env.scope.names.lookup x = some .local := by first | exact .inl rfl | exact .inr rfl) : DS X p (.Assign [.Name x pos'] e pos) (setB i f) := ⟨psHL (ps_set hN hi hx he.pe hs hf) fun E σ H hl t => by
  obtain ⟨H0, Ext, own, ρ, q, r, q', S, e, a⟩ := t hl
  obtain ⟨d, q1, e1, e⟩ := M.bind_some e
  by_cases ld : isLD d = true
  · rw [if_pos ld] at e
    obtain ⟨rfl, rfl⟩ := M.pure_some e
    refine fun _ => ⟨_, ρ, _, q, d, _, S.pre, e1, fun v H1 l1 s1 p1 r1 n1 _ => ?_⟩
    obtain ⟨b, S'⟩ := S.setB s1 p1 i (n1 rfl) ld r1
    exact a _ H1 _ l1 S'
  · rw [if_neg ld] at e; cases e⟩
end
end Sd
/-! targets, several at once, loops -/
namespace Sd
open PySem PySem.Spec PyProof.Rows L2
def sets {α : Type} : List (Option α) → List Nat → List α → List (Option α)
  | l, i :: is, x :: xs => sets (l.set i (some x)) is xs
  | l, _, _ => l
theorem sets_len {α : Type} : ∀ (is : List Nat) (xs : List α) (l : List (Option α)), (sets l is xs).length = l.length
  | [], _, _ => by simp [sets]
  | _ :: _, [], _ => by simp [sets]
  | i :: is, x :: xs, l => by simp [sets, sets_len is xs]
section
variable {X : Cx} {p : Addr} {K : PySem.W.Frag} {H0 H H' : Hp} {Ext own : List Addr} {σ : L2.St} {ρ : Env} {q q' : Pot} {E : Ends}
/-! ### a changing list is shared from now on -/
def unb (i : Nat) (ρ : Env) : Env := match ρ[i]? with
  | some (some (true, d)) => ρ.set i (some (false, d))
  | _ => ρ
theorem unb_eq (i : Nat) (ρ : Env) : (∃ d, ρ[i]? = some (some (true, d)) ∧ unb i ρ = ρ.set i (some (false, d))) ∨ unb i ρ = ρ := by
  unfold unb
  cases e : ρ[i]? with
  | none => exact .inr rfl
  | some o =>
    cases o with
    | none => exact .inr rfl
    | some bd =>
      obtain ⟨b, d⟩ := bd
      cases b with
      | true => exact .inl ⟨d, rfl, rfl⟩
      | false => exact .inr rfl
theorem StR.unb (S : StR K p H0 Ext own H σ ρ q) (i : Nat) : ∃ own', StR K p H0 Ext own' H σ (unb i ρ) q := by
  rcases unb_eq i ρ with ⟨d, e, eu⟩ | eu
  · rw [eu]
    obtain ⟨w, g1, _, g3⟩ := S.pre.env i true d e
    obtain ⟨a, ea, hB, hne, hF, z⟩ := g3 rfl
    subst ea
    have hx : a ∉ Ext := fun z => S.ext0 a z hF
    have mem : ∀ b, b ∈ own.filter (fun b => decide (b ≠ a)) ++ Ext → b ∈ own ++ Ext := fun b hb => by
      rcases List.mem_append.mp hb with y | y
      · exact List.mem_append_left _ (List.mem_filter.mp y).1
      · exact List.mem_append_right _ y
    have na : a ∉ own.filter (fun b => decide (b ≠ a)) ++ Ext := fun hb => by
      rcases List.mem_append.mp hb with y | y
      · have := (List.mem_filter.mp y).2; simp at this
      · exact hx y
    have back : ∀ b, b ∈ own ++ Ext → b ≠ a → b ∈ own.filter (fun b => decide (b ≠ a)) ++ Ext := fun b hb ne => by
      rcases List.mem_append.mp hb with y | y
      · exact List.mem_append_left _ (List.mem_filter.mpr ⟨y, by simpa using ne⟩)
      · exact List.mem_append_right _ y
    have out : Same (hide H (own ++ Ext)) (hide H (own.filter (fun b => decide (b ≠ a)) ++ Ext)) := hide_mono fun b o n e => ⟨fun y => n (mem b y), e⟩
    have out2 : Same (hide H (own ++ Ext)) (hide (hide H (own.filter (fun b => decide (b ≠ a)) ++ Ext)) [a]) := fun b o e => by
      have e2 := out b o e
      exact hide_of (by simp only [List.mem_singleton]; exact fun y => (hide_some e).1 (y ▸ hB)) e2
    refine ⟨own.filter (fun b => decide (b ≠ a)), S.keep, ⟨S.pre.pot, back p S.pre.pB (Ne.symm hne), fun b hb => S.pre.nt b (mem b hb), fun j b e' h => ?_, by simp [S.len]⟩, S.pX, fun b hb => S.own0 b (List.mem_filter.mp hb).1, S.ext0, fun j k d1 d2 c h1 h2 h3 h4 => ?_, by simp [S.len]⟩
    · rcases set_get h with ⟨rfl, e1, _⟩ | ⟨ne, h⟩
      · cases e1
        refine ⟨.ref a, g1, fun _ => ?_, fun z => by cases z⟩
        rcases z with ⟨ds, vs, rfl, z1, z2⟩ | ⟨kvs, vs, rfl, z0, z1, z2⟩
        · exact ⟨a, vs, rfl, hide_of na z1, RepL.mono out2 z2⟩
        · refine .inr ⟨z0, a, vs, rfl, ?_, RepKV.mono out2 z2⟩
          rcases z1 with ⟨kk, y1, y2, y3⟩ | ⟨kk, y1, y2, y3⟩
          · exact .inl ⟨kk, y1, y2, hide_of na y3⟩
          · exact .inr ⟨kk, y1, y2, hide_of na y3⟩
      · obtain ⟨w, f1, f2, f3⟩ := S.pre.env j b e' h
        refine ⟨w, f1, fun y => Rep.mono out (f2 y), fun y => ?_⟩
        subst y
        obtain ⟨c, ec, hB', hne', hF', y⟩ := f3 rfl
        subst ec
        have hc : c ≠ a := fun y => ne (S.uniq i j d e' a e h g1 (y ▸ f1))
        refine ⟨c, rfl, back c hB' hc, hne', hF', ?_⟩
        rcases y with ⟨ds, vs, e1, z1, z2⟩ | ⟨kvs, vs, e1, z0, z1, z2⟩
        · exact .inl ⟨ds, vs, e1, z1, RepL.mono out z2⟩
        · exact .inr ⟨kvs, vs, e1, z0, z1, RepKV.mono out z2⟩
    · rcases set_get h1 with ⟨_, e1, _⟩ | ⟨n1, h1⟩
      · cases e1
      · rcases set_get h2 with ⟨_, e1, _⟩ | ⟨n2, h2⟩
        · cases e1
        · exact S.uniq j k d1 d2 c h1 h2 h3 h4
  · rw [eu]; exact ⟨own, S⟩
def unbS (i : Nat) (f : SE) : SE := fun ρ => f (Sd.unb i ρ)
theorem ds_unb {st : Stmt} {f : SE} (i : Nat) (h : DS X p st f) : DS X p st (unbS i f) := ⟨psHL h.ps fun E σ H hl t => by
  obtain ⟨H0, Ext, own, ρ, q, r, q', S, e, a⟩ := t hl
  obtain ⟨own', S'⟩ := S.unb i
  exact fun _ => ⟨H0, Ext, own', _, q, r, q', S', e, a.hl⟩⟩
/-! ### values that wait to be stored -/
theorem StR.pre_of {σp : L2.St} {ρp : Env} (S : StR K p H0 Ext own H (σ ++ σp) (ρ ++ ρp) q) (hl : σ.length = ρ.length) : Pre K p (fun a => H0 a = none) H (own ++ Ext) σ ρ q := by
  refine ⟨S.pre.pot, S.pre.pB, S.pre.nt, fun i b d h => ?_, hl⟩
  have hi : i < ρ.length := (List.getElem?_eq_some_iff.mp h).1
  obtain ⟨v, h1, h2⟩ := S.pre.env i b d (by rw [List.getElem?_append_left hi]; exact h)
  exact ⟨v, by rw [List.getElem?_append_left (by omega)] at h1; exact h1, h2⟩
theorem StR.room (S : StR K p H0 Ext own H σ ρ q) : StR K p H0 Ext own H (σ ++ [none]) (ρ ++ [none]) q := by
  have low : ∀ {j : Nat} {x : Bool × D}, (ρ ++ [none])[j]? = some (some x) → j < ρ.length ∧ ρ[j]? = some (some x) := fun {j x} h => by
    by_cases hj : j < ρ.length
    · rw [List.getElem?_append_left hj] at h; exact ⟨hj, h⟩
    · rw [List.getElem?_append_right (by omega)] at h
      cases e : j - ρ.length with
      | zero => rw [e] at h; cases h
      | succ m => rw [e] at h; cases h
  refine ⟨S.keep, ⟨S.pre.pot, S.pre.pB, S.pre.nt, fun i b d h => ?_, by simp [S.len]⟩, S.pX, S.own0, S.ext0, fun i j d e a h1 h2 h3 h4 => ?_, by simp [S.len]⟩
  · obtain ⟨hi, h⟩ := low h
    obtain ⟨v, h1, h2⟩ := S.pre.env i b d h
    exact ⟨v, by rw [List.getElem?_append_left (by rw [S.len]; exact hi)]; exact h1, h2⟩
  · obtain ⟨hi, h1⟩ := low h1
    obtain ⟨hj, h2⟩ := low h2
    rw [List.getElem?_append_left (by rw [S.len]; exact hi)] at h3
    rw [List.getElem?_append_left (by rw [S.len]; exact hj)] at h4
    exact S.uniq i j d e a h1 h2 h3 h4
theorem set_end {α : Type} (l : List α) (x y : α) : (l ++ [x]).set l.length y = l ++ [y] := by
  rw [List.set_append_right _ _ (Nat.le_refl _)]
  simp
/-- the last one is stored at i -/
theorem StR.move {w : Option V} {x : Option (Bool × D)} (i : Nat) (S : StR K p H0 Ext own H (σ ++ [w]) (ρ ++ [x]) q) : StR K p H0 Ext own H (σ.set i w) (ρ.set i x) q := by
  have hl : σ.length = ρ.length := by have := S.len; simp at this; exact this
  -- a place of the new list, in the old one
  have at_ : ∀ {j : Nat} {y : Bool × D}, (ρ.set i x)[j]? = some (some y) → ∃ j', (ρ ++ [x])[j']? = some (some y) ∧ (σ.set i w)[j]? = (σ ++ [w])[j']? ∧ (j = i ∧ j' = ρ.length ∨ j ≠ i ∧ j' = j ∧ j < ρ.length) := fun {j y} h => by
    rcases set_get h with ⟨rfl, e1, hj⟩ | ⟨ne, h⟩
    · refine ⟨ρ.length, by rw [List.getElem?_append_right (Nat.le_refl _)]; simpa using e1, ?_, .inl ⟨rfl, rfl⟩⟩
      rw [List.getElem?_set_self (by omega), ← hl, List.getElem?_append_right (Nat.le_refl _)]
      simp
    · have hj : j < ρ.length := (List.getElem?_eq_some_iff.mp h).1
      refine ⟨j, by rw [List.getElem?_append_left hj]; exact h, ?_, .inr ⟨Ne.symm ne, rfl, hj⟩⟩
      rw [List.getElem?_set_ne ne, List.getElem?_append_left (by omega)]
  refine ⟨S.keep, ⟨S.pre.pot, S.pre.pB, S.pre.nt, fun j b d h => ?_, by simp [hl]⟩, S.pX, S.own0, S.ext0, fun j k d e a h1 h2 h3 h4 => ?_, by simp [hl]⟩
  · obtain ⟨j', g1, g2, _⟩ := at_ h
    obtain ⟨v, f1, f2⟩ := S.pre.env j' b d g1
    exact ⟨v, g2.trans f1, f2⟩
  · obtain ⟨j', g1, g2, g3⟩ := at_ h1
    obtain ⟨k', f1, f2, f3⟩ := at_ h2
    have z := S.uniq j' k' d e a g1 f1 (g2 ▸ h3) (f2 ▸ h4)
    rcases g3 with ⟨a1, a2⟩ | ⟨a1, a2, a3⟩ <;> rcases f3 with ⟨b1, b2⟩ | ⟨b1, b2, b3⟩ <;> omega
theorem StR.moves : ∀ (is : List Nat) (ws : List V) (xs : List (Bool × D)) (σ : L2.St) (ρ : Env), is.length = ws.length → ws.length = xs.length → is.Nodup → (∀ i ∈ is, i < ρ.length) → σ.length = ρ.length →
    StR K p H0 Ext own H (σ ++ ws.map some) (ρ ++ xs.map some) q → StR K p H0 Ext own H (sets σ is ws) (sets ρ is xs) q
  | [], [], [], σ, ρ, _, _, _, _, _, S => by simpa [sets] using S
  | [], _ :: _, _, _, _, h, _, _, _, _, _ => by simp at h
  | [], [], _ :: _, _, _, _, h, _, _, _, _ => by simp at h
  | _ :: _, [], _, _, _, h, _, _, _, _, _ => by simp at h
  | _ :: _, _ :: _, [], _, _, _, h, _, _, _, _ => by simp at h
  | i :: is, w :: ws, x :: xs, σ, ρ, h1, h2, nd, hlt, hl, S => by
    -- the first one is brought to the end, then stored
    have hi : i < ρ.length := hlt i List.mem_cons_self
    have rot : StR K p H0 Ext own H ((σ ++ ws.map some) ++ [some w]) ((ρ ++ xs.map some) ++ [some x]) q := by
      have lw : (ws.map (some : V → Option V)).length = (xs.map (some : Bool × D → Option (Bool × D))).length := by simp; simpa using h2
      -- a place of the turned list, in the list as it was
      have at_ : ∀ {j : Nat} {y : Bool × D}, ((ρ ++ xs.map some) ++ [some x])[j]? = some (some y) → ∃ j', (ρ ++ (x :: xs).map some)[j']? = some (some y) ∧ ((σ ++ ws.map some) ++ [some w])[j]? = (σ ++ (w :: ws).map some)[j']? ∧
          (j < ρ.length ∧ j' = j ∨ ρ.length ≤ j ∧ j < ρ.length + xs.length ∧ j' = j + 1 ∨ j = ρ.length + xs.length ∧ j' = ρ.length) := fun {j y} h => by
        have ls : (σ ++ ws.map some).length = (ρ ++ xs.map some).length := by simp [hl]; simpa using h2
        by_cases c1 : j < ρ.length
        · refine ⟨j, ?_, ?_, .inl ⟨c1, rfl⟩⟩
          · rw [List.getElem?_append_left (by simp; omega), List.getElem?_append_left c1] at h
            rw [List.getElem?_append_left c1]; exact h
          · rw [List.getElem?_append_left (by simp; omega), List.getElem?_append_left (by omega), List.getElem?_append_left (by omega)]
        · by_cases c2 : j < ρ.length + xs.length
          · refine ⟨j + 1, ?_, ?_, .inr (.inl ⟨by omega, c2, rfl⟩)⟩
            · rw [List.getElem?_append_left (by simp; omega), List.getElem?_append_right (by omega)] at h
              rw [List.getElem?_append_right (by omega), show j + 1 - ρ.length = (j - ρ.length) + 1 by omega, List.map_cons, List.getElem?_cons_succ]
              exact h
            · rw [List.getElem?_append_left (by rw [ls]; simp; omega), List.getElem?_append_right (by omega), List.getElem?_append_right (by omega), show j + 1 - σ.length = (j - σ.length) + 1 by omega, List.map_cons, List.getElem?_cons_succ]
          · by_cases c3 : j = ρ.length + xs.length
            · refine ⟨ρ.length, ?_, ?_, .inr (.inr ⟨c3, rfl⟩)⟩
              · rw [List.getElem?_append_right (by simp; omega)] at h
                rw [List.getElem?_append_right (Nat.le_refl _), Nat.sub_self, List.map_cons, List.getElem?_cons_zero]
                rw [show j - (ρ ++ xs.map some).length = 0 by simp; omega, List.getElem?_cons_zero] at h
                exact h
              · rw [List.getElem?_append_right (by rw [ls]; simp; omega), ls, show j - (ρ ++ xs.map some).length = 0 by simp; omega, ← hl, List.getElem?_append_right (Nat.le_refl _), Nat.sub_self, List.map_cons, List.getElem?_cons_zero, List.getElem?_cons_zero]
            · rw [List.getElem?_eq_none (by simp; omega)] at h; cases h
      refine ⟨S.keep, ⟨S.pre.pot, S.pre.pB, S.pre.nt, fun j b d h => ?_, by simp [hl]; simpa using h2⟩, S.pX, S.own0, S.ext0, fun j k d e a g1 g2 g3 g4 => ?_, by simp [hl]; simpa using h2⟩
      · obtain ⟨j', g1, g2, _⟩ := at_ h
        obtain ⟨v, f1, f2⟩ := S.pre.env j' b d g1
        exact ⟨v, g2.trans f1, f2⟩
      · obtain ⟨j', a1, a2, a3⟩ := at_ g1
        obtain ⟨k', b1, b2, b3⟩ := at_ g2
        have z := S.uniq j' k' d e a a1 b1 (a2 ▸ g3) (b2 ▸ g4)
        rcases a3 with ⟨c1, c2⟩ | ⟨c0, c1, c2⟩ | ⟨c1, c2⟩ <;> rcases b3 with ⟨e1, e2⟩ | ⟨e0, e1, e2⟩ | ⟨e1, e2⟩ <;> omega
    have mv := rot.move i
    rw [List.set_append_left _ _ hi, List.set_append_left _ _ (by omega)] at mv
    exact StR.moves is ws xs (σ.set i (some w)) (ρ.set i (some x)) (by simpa using h1) (by simpa using h2) (List.nodup_cons.mp nd).2 (fun k hk => by simpa using hlt k (List.mem_cons_of_mem _ hk)) (by simp [hl]) mv
end
end Sd
/-! several at once, targets, walks, comprehensions, loops -/
namespace Sd
open PySem PySem.Spec PyProof.Rows L2
section
variable (K : PySem.W.Frag) (p : Addr)
def seqB : List (Bool × (Env → M D)) → Env → M (List (Bool × D))
  | [], _ => M.pure []
  | (b, f) :: fs, ρ => M.bind (f ρ) fun d => if b = true ∧ isLD d = false then M.fail else M.bind (seqB fs ρ) fun ds => M.pure ((b, d) :: ds)
/-- values evaluated one behind another, waiting to be stored -/
def tP (fs : List (Bool × (Env → M D))) : TA := fun σ H Q => HL H → ∃ (H0 : Hp) (Ext own : List Addr) (σp : L2.St) (ρ ρp : Env) (q : Pot) (xs : List (Bool × D)) (q' : Pot), σ.length = ρ.length ∧ StR K p H0 Ext own H (σ ++ σp) (ρ ++ ρp) q ∧ seqB fs ρ q = some (xs, q') ∧
  ∀ vs H' own', HL H' → vs.length = xs.length → StR K p H0 Ext own' H' (σ ++ σp ++ vs.map some) (ρ ++ ρp ++ xs.map some) q' → Q vs H'
end
structure DP (X : Cx) (p : Addr) (es : List Expr) (fs : List (Bool × (Env → M D))) : Prop where
  pa : PA X es (tP X.K p fs)
section
variable {X : Cx} {p : Addr}
theorem dp_nil : DP X p [] [] := ⟨paHL pa_nil fun σ H Q hl t => by
  obtain ⟨H0, Ext, own, σp, ρ, ρp, q, xs, q', hlen, S, e, k⟩ := t hl
  obtain ⟨rfl, rfl⟩ := M.pure_some e
  exact fun l => k [] H own l rfl (by simpa using S)⟩
theorem dp_cons {e : Expr} {es : List Expr} {f : Env → M D} {fs : List (Bool × (Env → M D))} {fr : Bool} (b : Bool) (h1 : DE X p e f false fr) (hb : b = true → fr = true) (h2 : DP X p es fs) (hs : starEach (e :: es) X.env = (false, eval e X.env) :: starEach es X.env := by rfl) :
    DP X p (e :: es) ((b, f) :: fs) := ⟨paHL (pa_cons h1.pe h2.pa hs) fun σ H Q hl t => by
  obtain ⟨H0, Ext, own, σp, ρ, ρp, q, xs, q', hlen, S, e, k⟩ := t hl
  obtain ⟨d, q1, e1, e⟩ := M.bind_some e
  by_cases hbad : b = true ∧ isLD d = false
  · rw [if_pos hbad] at e; cases e
  rw [if_neg hbad] at e
  obtain ⟨dr, q2, e2, e⟩ := M.bind_some e
  obtain ⟨rfl, rfl⟩ := M.pure_some e
  refine fun _ => ⟨_, ρ, _, q, d, q1, S.pre_of hlen, e1, fun v H1 l1 s1 p1 r1 n1 => ?_⟩
  -- the value waits
  have step : ∃ own1, StR X.K p H0 Ext own1 H1 (σ ++ (σp ++ [some v])) (ρ ++ (ρp ++ [some (b, d)])) q1 := by
    have lp : (σ ++ σp).length = (ρ ++ ρp).length := S.len
    rw [← List.append_assoc, ← List.append_assoc]
    cases b with
    | false =>
      have S1 := (S.stp s1 p1).room.set (ρ ++ ρp).length r1
      rw [set_end, ← lp, set_end] at S1
      exact ⟨own, S1⟩
    | true =>
      have ld : isLD d = true := by
        cases z : isLD d with
        | true => rfl
        | false => exact absurd ⟨rfl, z⟩ hbad
      obtain ⟨a, S1⟩ := S.room.setB s1 p1 (ρ ++ ρp).length (n1 (hb rfl)) ld r1
      rw [set_end, ← lp, set_end] at S1
      exact ⟨_, S1⟩
  obtain ⟨own1, S1⟩ := step
  refine fun _ => ⟨H0, Ext, own1, σp ++ [some v], ρ, ρp ++ [some (b, d)], q1, dr, _, hlen, S1, e2, fun vs H2 own2 l2 hv S2 l2' => ?_⟩
  refine k (v :: vs) H2 own2 l2 (by simp [hv]) ?_
  simpa using S2⟩
theorem seqB_len : ∀ {fs : List (Bool × (Env → M D))} {ρ : Env} {q q' : Pot} {xs : List (Bool × D)}, seqB fs ρ q = some (xs, q') → xs.length = fs.length
  | [], _, _, _, _, h => by obtain ⟨rfl, rfl⟩ := M.pure_some h; rfl
  | (b, f) :: fs, _, _, _, _, h => by
    obtain ⟨d, q1, e1, h⟩ := M.bind_some h
    by_cases hbad : b = true ∧ isLD d = false
    · rw [if_pos hbad] at h; cases h
    rw [if_neg hbad] at h
    obtain ⟨dr, q2, e2, h⟩ := M.bind_some h
    obtain ⟨rfl, rfl⟩ := M.pure_some h
    rw [List.length_cons, List.length_cons, seqB_len e2]
def parS (is : List Nat) (fs : List (Bool × (Env → M D))) : SE := fun ρ => if is.all (fun i => decide (i < ρ.length)) = true then M.bind (seqB fs ρ) fun xs => M.pure (.nx, sets ρ is xs) else M.fail
theorem parS_some {is : List Nat} {fs : List (Bool × (Env → M D))} {ρ : Env} {q q' : Pot} {r : Fl × Env} (h : parS is fs ρ q = some (r, q')) : (∀ i ∈ is, i < ρ.length) ∧ ∃ xs, seqB fs ρ q = some (xs, q') ∧ r = (.nx, sets ρ is xs) := by
  unfold parS at h
  by_cases c : is.all (fun i => decide (i < ρ.length)) = true
  · rw [if_pos c] at h
    obtain ⟨xs, q1, e1, h⟩ := M.bind_some h
    obtain ⟨rfl, rfl⟩ := M.pure_some h
    exact ⟨fun i hi => by simpa using List.all_eq_true.mp c i hi, xs, e1, rfl⟩
  · rw [if_neg c] at h; cases h
theorem len2 {α : Type} : ∀ {l : List α}, l.length = 2 → ∃ a b, l = [a, b]
  | [a, b], _ => ⟨a, b, rfl⟩
  | [], h => by simp at h
  | [_], h => by simp at h
  | _ :: _ :: _ :: _, h => by simp at h
/-- a, b = e1, e2: two local names -/
theorem ds_par {x y : Str} {a b : Expr} {px py pt : Pos} {kt k2 : Nat} {pt2 pos : Pos} {fs : List (Bool × (Env → M D))} (i j : Nat) (hc : X.calm = true) (hN : X.N.Nodup) (hi : X.N[i]? = some x) (hj : X.N[j]? = some y) (hij : i ≠ j)
    (hx : X.env.scope.names.lookup x = some .local) (hy : X.env.scope.names.lookup y = some .local) (ha : DP X p [a, b] fs) (hfs : fs.length = 2)
    (hw : swappedStores [.Tuple [.Name x px, .Name y py] kt pt] (.Tuple [a, b] k2 pt2) X.env = pure (some [x, y]))
    (hs : swapsWithSole [.Tuple [.Name x px, .Name y py] kt pt] (.Tuple [a, b] k2 pt2) pos.line X.env = pure false := by rfl) :
    DS X p (.Assign [.Tuple [.Name x px, .Name y py] kt pt] (.Tuple [a, b] k2 pt2) pos) (parS [i, j] fs) := ⟨psHL (ps_par hc hN hi hj hij hx hy ha.pa hw hs) fun E σ H hl t => by
  obtain ⟨H0, Ext, own, ρ, q, r, q', S, e, af⟩ := t hl
  obtain ⟨lt, xs, e1, rfl⟩ := parS_some e
  refine fun _ => ⟨H0, Ext, own, [], ρ, [], q, xs, q', S.len, by simpa using S, e1, fun vs H' own' l hv S' => ?_⟩
  have lx : xs.length = 2 := by rw [seqB_len e1, hfs]
  obtain ⟨v, w, rfl⟩ := len2 (hv.trans lx)
  obtain ⟨d1, d2, rfl⟩ := len2 lx
  refine ⟨v, w, rfl, fun l' => af _ H' own' l' ?_⟩
  have S2 := StR.moves [i, j] [v, w] [d1, d2] σ ρ rfl rfl (by simpa using hij) lt S.len (by simpa using S')
  exact S2⟩
/-- a tuple of names takes a written tuple: the tuple is made, then taken apart -/
theorem ds_tupAsg {tgs es : List Expr} {kt k2 : Nat} {pt pt2 pos : Pos} {fs : List (Bool × (Env → M D))} {g : TGs} (is : List Nat) (hc : X.calm = true) (ha : DP X p es fs) (hfs : fs.length = is.length) (nd : is.Nodup) (hg : PGs X tgs g)
    (hgs : ∀ (ws : List V) (σ : L2.St) (H : Hp) (Q : L2.St → Hp → Prop), ws.length = is.length → Q (sets σ is ws) H → g ws σ H Q) (hz : fs.length ≤ sizeLine := by decide)
    (hn : (assignEach tgs X.env).length = is.length := by rfl) (hst : (assignEach tgs X.env).findIdx? (·.1) = none := by rfl)
    (hs : swapsWithSole [.Tuple tgs kt pt] (.Tuple es k2 pt2) pos.line X.env = pure false := by rfl) (hw : swappedStores [.Tuple tgs kt pt] (.Tuple es k2 pt2) X.env = pure none := by rfl)
    (h1 : (assignEach [.Tuple tgs kt pt] X.env).map (·.2) = [assign (.Tuple tgs kt pt) X.env] := by rfl) :
    DS X p (.Assign [.Tuple tgs kt pt] (.Tuple es k2 pt2) pos) (parS is fs) := ⟨psHL (ps_asg (pe_tup ha.pa) (pg_tup hc hg hn hst) hs hw h1) fun E σ H hl t => by
  obtain ⟨H0, Ext, own, ρ, q, r, q', S, e, af⟩ := t hl
  obtain ⟨lt, xs, e1, rfl⟩ := parS_some e
  refine fun _ => ⟨H0, Ext, own, [], ρ, [], q, xs, q', S.len, by simpa using S, e1, fun vs H' own' l hv S' => ⟨by rw [hv, seqB_len e1]; exact hz, fun a na => ?_⟩⟩
  have lv : vs.length = is.length := by rw [hv, seqB_len e1, hfs]
  refine ⟨a, vs, rfl, .inl (.inl upd_same), lv, hgs vs _ _ _ lv fun l' => af _ _ own' l' ?_⟩
  have S2 := StR.moves is vs xs σ ρ lv.symm hv nd lt S.len (by simpa using S')
  exact S2.stp (Stp.of (same_upd na)) (same_upd na _ _ S2.pre.pot)⟩
/-! ### targets -/
abbrev Gd := D → Option (List (Nat × D))
def gN (i : Nat) : Gd := fun d => some [(i, d)]
def gT : List Gd → Gd := fun gs d => match d with
  | .tuple ds => if ds.length = gs.length then (go gs ds) else none
  | _ => none
where go : List Gd → List D → Option (List (Nat × D))
  | g :: gs, d :: ds => match g d, go gs ds with
    | some a, some b => some (a ++ b)
    | _, _ => none
  | _, _ => some []
/-- what a target is given: data, or (tk) a tuple of data that is not held itself -/
def RepG (K : PySem.W.Frag) (p : Addr) (tk : Bool) (d : D) (R H : Hp) (v : V) : Prop := Rep K p d R v ∨ (tk = true ∧ ∃ ds a vs, d = .tuple ds ∧ v = .ref a ∧ SqT K H a vs ∧ RepL K p ds R vs)
def tG (K : PySem.W.Frag) (p : Addr) (tk : Bool) (g : Gd) : TG := fun v σ H Q => ∃ (d : D) (R : Hp) (as : List (Nat × D)), RepG K p tk d R H v ∧ Same R H ∧ g d = some as ∧ ∀ ws, RepL K p (as.map (·.2)) R ws → Q (sets σ (as.map (·.1)) ws) H
def tGs (K : PySem.W.Frag) (p : Addr) (gs : List Gd) : TGs := fun vs σ H Q => ∃ (ds : List D) (R : Hp) (as : List (Nat × D)), RepL K p ds R vs ∧ ds.length = gs.length ∧ Same R H ∧ gT.go gs ds = some as ∧ ∀ ws, RepL K p (as.map (·.2)) R ws → Q (sets σ (as.map (·.1)) ws) H
structure DG (X : Cx) (p : Addr) (tk : Bool) (tg : Expr) (g : Gd) : Prop where
  pg : PG X tg (tG X.K p tk g)
structure DGs (X : Cx) (p : Addr) (tgs : List Expr) (gs : List Gd) : Prop where
  pgs : PGs X tgs (tGs X.K p gs)
theorem PG.imp {tg : Expr} {t t' : TG} (h : PG X tg t) (i : ∀ v σ H Q, t' v σ H Q → t v σ H Q) : PG X tg t' := ⟨fun pins s σ H v u Q I r hw => h.run pins s σ H v u Q I r (i v σ H Q hw)⟩
theorem PGs.imp {tg : List Expr} {t t' : TGs} (h : PGs X tg t) (i : ∀ v σ H Q, t' v σ H Q → t v σ H Q) : PGs X tg t' := ⟨fun pins s σ H v u Q I r hw => h.run pins s σ H v u Q I r (i v σ H Q hw)⟩
theorem dg_name {x : Str} {pos : Pos} (i : Nat) (hN : X.N.Nodup) (hi : X.N[i]? = some x) (hx : Loc X.env.scope x) (hf : X.fn x = true ∨ X.env.scope.names.lookup x = some .local := by first | exact .inl rfl | exact .inr rfl) : DG X p false (.Name x pos) (gN i) :=
  ⟨PG.imp (pg_name hN hi hx hf) fun v σ H Q t => by
    obtain ⟨d, R, as, r | ⟨z, _⟩, s, e, k⟩ := t
    · cases e
      exact k [v] (RepL.one r)
    · cases z⟩
theorem dgs_nil : DGs X p [] [] := ⟨PGs.imp pgs_nil fun vs σ H Q t => by
  obtain ⟨ds, R, as, r, hl, s, e, k⟩ := t
  match ds, hl with
  | [], _ =>
    cases e
    exact ⟨r, k [] rfl⟩⟩
theorem RepL.split {K : PySem.W.Frag} {R : Hp} : ∀ {as bs : List D} {ws : List V}, RepL K p (as ++ bs) R ws → ∃ u v, ws = u ++ v ∧ RepL K p as R u ∧ RepL K p bs R v
  | [], _, ws, h => ⟨[], ws, rfl, rfl, h⟩
  | a :: as, bs, _, h => by
    obtain ⟨w, r, rfl, h1, h2⟩ := h
    obtain ⟨u, v, rfl, h3, h4⟩ := RepL.split h2
    exact ⟨w :: u, v, rfl, ⟨w, u, rfl, h1, h3⟩, h4⟩
theorem sets_app {α : Type} : ∀ (is js : List Nat) (xs ys : List α) (l : List (Option α)), is.length = xs.length → sets l (is ++ js) (xs ++ ys) = sets (sets l is xs) js ys
  | [], _, [], _, _, _ => by simp [sets]
  | [], _, _ :: _, _, _, h => by simp at h
  | _ :: _, _, [], _, _, h => by simp at h
  | i :: is, js, x :: xs, ys, l, h => by
    show sets (l.set i (some x)) (is ++ js) (xs ++ ys) = _
    rw [sets_app is js xs ys _ (by simpa using h)]
    rfl
theorem dgs_cons {e : Expr} {es : List Expr} {g : Gd} {gs : List Gd} (h1 : DG X p false e g) (h2 : DGs X p es gs) (hs : (assignEach (e :: es) X.env).map (·.2) = assign e X.env :: (assignEach es X.env).map (·.2) := by rfl) : DGs X p (e :: es) (g :: gs) :=
  ⟨PGs.imp (pgs_cons h1.pg h2.pgs hs) fun vs σ H Q t => by
    obtain ⟨ds, R, as, r, hl, s, e, k⟩ := t
    match ds, hl with
    | d :: ds, hl =>
      obtain ⟨v, vr, rfl, r1, r2⟩ := r
      unfold gT.go at e
      cases e1 : g d with
      | none => rw [e1] at e; cases e
      | some a1 =>
        cases e2 : gT.go gs ds with
        | none => rw [e1, e2] at e; cases e
        | some a2 =>
          rw [e1, e2] at e
          cases e
          refine ⟨v, vr, rfl, d, R, a1, .inl r1, s, e1, fun w1 y1 => ⟨ds, R, a2, r2, by simpa using hl, s, e2, fun w2 y2 => ?_⟩⟩
          have z := k (w1 ++ w2) (by rw [List.map_append]; exact RepL.app y1 y2)
          rw [List.map_append, sets_app _ _ _ _ _ (by rw [y1.length]; simp)] at z
          exact z⟩
theorem dg_tup {es : List Expr} {k : Nat} {pos : Pos} {gs : List Gd} {tk : Bool} (hc : X.calm = true) (h : DGs X p es gs) (hn : (assignEach es X.env).length = gs.length := by rfl) (hst : (assignEach es X.env).findIdx? (·.1) = none := by rfl) : DG X p tk (.Tuple es k pos) (gT gs) :=
  ⟨PG.imp (pg_tup hc h.pgs hn hst) fun v σ H Q t => by
    obtain ⟨d, R, as, r, s, e, k⟩ := t
    have r2 : ∀ ds, d = .tuple ds → ∃ a vs, v = .ref a ∧ SqT X.K H a vs ∧ RepL X.K p ds R vs := fun ds ed => by
      subst ed
      rcases r with r | ⟨_, ds', a, vs, e1, e2, h1, h2⟩
      · obtain ⟨a, vs, e2, h1, h2⟩ := r
        exact ⟨a, vs, e2, (h1.mono s).sq, h2⟩
      · cases e1
        exact ⟨a, vs, e2, h1, h2⟩
    cases d with
    | tuple ds =>
      obtain ⟨a, vs, rfl, h1, h2⟩ := r2 ds rfl
      unfold gT at e
      dsimp only at e
      by_cases hl : ds.length = gs.length
      · rw [if_pos hl] at e
        exact ⟨a, vs, rfl, h1, by rw [h2.length, hl], ds, R, as, h2, hl, s, e, k⟩
      · rw [if_neg hl] at e; cases e
    | _ => cases e⟩
variable {K : PySem.W.Frag} {H0 H H' : Hp} {Ext own B : List Addr} {σ : L2.St} {ρ : Env} {q q' : Pot} {E : Ends} {F : Addr → Prop}
def cl (as : List (Nat × D)) : List (Bool × D) := as.map fun a => (false, a.2)
theorem StR.setsC : ∀ {as : List (Nat × D)} {ws : List V} {σ : L2.St} {ρ : Env}, StR K p H0 Ext own H σ ρ q → RepL K p (as.map (·.2)) (hide H (own ++ Ext)) ws → StR K p H0 Ext own H (sets σ (as.map (·.1)) ws) (sets ρ (as.map (·.1)) (cl as)) q
  | [], ws, σ, ρ, S, r => by
    rw [show ws = [] from r]
    simpa [sets, cl] using S
  | (i, d) :: as, _, σ, ρ, S, r => by
    obtain ⟨w, ws, rfl, h1, h2⟩ := r
    have z := StR.setsC (as := as) (ws := ws) (S.set i h1) h2
    exact z
theorem Pre.set (S : Pre K p F H B σ ρ q) {d : D} {v : V} (i : Nat) (r : Rep K p d (hide H B) v) : Pre K p F H B (σ.set i (some v)) (ρ.set i (some (false, d))) q :=
  ⟨S.pot, S.pB, S.nt, fun j b e h => by
    rcases set_get h with ⟨rfl, e1, hj⟩ | ⟨ne, h⟩
    · cases e1
      exact ⟨v, by rw [List.getElem?_set_self (by rw [S.len]; exact hj)], fun _ => r, fun z => by cases z⟩
    · obtain ⟨w, h1, h2⟩ := S.env j b e h
      exact ⟨w, by rw [List.getElem?_set_ne ne]; exact h1, h2⟩, by simp [S.len]⟩
theorem Pre.setsC : ∀ {as : List (Nat × D)} {ws : List V} {σ : L2.St} {ρ : Env}, Pre K p F H B σ ρ q → RepL K p (as.map (·.2)) (hide H B) ws → Pre K p F H B (sets σ (as.map (·.1)) ws) (sets ρ (as.map (·.1)) (cl as)) q
  | [], ws, σ, ρ, S, r => by
    rw [show ws = [] from r]
    simpa [sets, cl] using S
  | (i, d) :: as, _, σ, ρ, S, r => by
    obtain ⟨w, ws, rfl, h1, h2⟩ := r
    have z := Pre.setsC (as := as) (ws := ws) (S.set i h1) h2
    exact z
end
end Sd
/-! walks, comprehensions, for, while -/
namespace Sd
open PySem PySem.Spec PyProof.Rows L2
/-- later on: what stood stands (c: but the pot; else: but what is hidden) -/
def Lt (p : Addr) (c : Bool) (B : List Addr) (H1 H : Hp) : Prop := if c = true then Stp p H1 H else ∀ a o, a ∉ B → H1 a = some o → H a = some o
structure WkD (K : PySem.W.Frag) (p : Addr) (c pr : Bool) (J : It) (xs : List D) (B : List Addr) (H1 : Hp) : Prop where
  ex : ∃ (G : Hp → Prop) (Y : Nat → Hp → V → Hp → Prop), Walk J xs.length G Y ∧ (∀ H, Lt p c B H1 H → G H) ∧
    ∀ (i : Nat) (H : Hp) (v : V) (H' : Hp) (d : D), Lt p c B H1 H → Y i H v H' → xs[i]? = some d → Same H H' ∧ ∀ B', Same (hide H1 B) (hide H B') → (∀ a ∈ B', H a ≠ none) → RepG K p pr d (hide H' B') H' v
theorem RepG.up {K : PySem.W.Frag} {p : Addr} {pr tk : Bool} {d : D} {R H : Hp} {v : V} (h : pr = true → tk = true) (r : RepG K p pr d R H v) : RepG K p tk d R H v := by
  rcases r with r | ⟨z, r⟩
  · exact .inl r
  · exact .inr ⟨h z, r⟩
abbrev IE := Env → M (List D)
def tI (K : PySem.W.Frag) (p : Addr) (f : IE) (c pr : Bool) : TI := fun σ H R => HL H → ∃ (F : Addr → Prop) (ρ : Env) (B : List Addr) (q : Pot) (xs : List D) (q' : Pot), Pre K p F H B σ ρ q ∧ f ρ q = some (xs, q') ∧
  ∀ J H1, HL H1 → Stp p H H1 → H1 p = some (potV q') → xs.length ≤ sizeLine → WkD K p c pr J xs B H1 → R J H1
structure DI (X : Cx) (p : Addr) (tg iter : Expr) (f : IE) (c pr : Bool) : Prop where
  pi : PI X tg iter (tI X.K p f c pr)
section
variable {X : Cx} {p : Addr} {K : PySem.W.Frag} {H0 H H' H1 : Hp} {Ext own B : List Addr} {σ : L2.St} {ρ : Env} {q q' : Pot} {E : Ends} {F : Addr → Prop} {c fr : Bool} {f : Env → M D}
theorem piHL {tg iter : Expr} {t t' : TI} (h : PI X tg iter t) (imp : ∀ σ H R, HL H → t' σ H R → t σ H (fun J H' => HL H' → R J H')) : PI X tg iter t' :=
  ⟨fun pins s σ H R I hw => thn (h.run pins s σ H _ I (imp σ H R (HL_of I.hok) hw)) fun _ _ z => thn z fun _ _ ⟨it, fp, tn, J, H', e, I', T, st, f, r⟩ => ⟨it, fp, tn, J, H', e, I', T, st, f, r (HL_of I'.hok)⟩⟩
/-- a list or a tuple is walked -/
theorem pi_seq {tg l : Expr} {tl : TE} (hl : PE X l tl) : PI X tg l (fun σ H R => tl σ H fun x H1 => ∃ a, x = .ref a ∧ (((∃ xs, SqL X.K H1 a xs) ∧ R (Itl X.K a) H1) ∨ ((∃ xs, SqT X.K H1 a xs) ∧ R (Itt X.K a) H1))) := by
  constructor
  intro pins s σ H R I h
  refine thn (hl.run pins s σ H _ I h) fun v s1 ⟨x, H1, I1, r1, a, ea, z⟩ => ?_
  subst ea
  cases r1
  have fresh : ∀ b, b ∈ [s1.heap.objs.size] → FpOk X pins H1 b := by
    intro b hb
    rw [List.mem_singleton] at hb
    subst hb
    exact I1.fpOk (Nat.le_refl _) (I1.hok.fresh (Nat.le_refl _))
  rcases z with ⟨⟨xs, hx⟩, r⟩ | ⟨⟨xs, hx⟩, r⟩
  · obtain ⟨its, _, pl, _⟩ := I1.list hx
    exact wpAny_pyIter_list pl.isList ⟨_, _, _, _, H1, rfl, I1.kept (t' := s1.toks) fun _ _ y => Heap.get?_push_of_some _ y, turn_list a _, ⟨_, Heap.get?_push_size _ rfl, rfl, rfl⟩, fresh, r⟩
  · obtain ⟨its, _, pl, _⟩ := I1.tuple hx
    exact wpAny_pyIter_tuple (show s1.heap.IsTuple a its.toArray from pl) ⟨_, _, _, _, H1, rfl, I1.kept (t' := s1.toks) fun _ _ y => Heap.get?_push_of_some _ y, turn_tuple a _, ⟨_, Heap.get?_push_size _ rfl, rfl, rfl⟩, fresh, r⟩
def items : D → Option (List D)
  | .list ds => some ds
  | .tuple ds => some ds
  | _ => none
def itE (f : Env → M D) : IE := fun ρ => M.bind (f ρ) fun d => M.of (items d)
theorem Lt.le (h : Lt p c B H1 H) (hp : p ∈ B) : ∀ a o, a ∉ B → H1 a = some o → H a = some o := by
  unfold Lt at h
  split at h
  · exact fun a o n e => h a o e fun z => n (z ▸ hp)
  · exact h
theorem RepL.nth {ds : List D} {R : Hp} {vs : List V} {i : Nat} {d : D} {v : V} (h : RepL K p ds R vs) (e1 : ds[i]? = some d) (e2 : vs[i]? = some v) : Rep K p d R v := by
  obtain ⟨w, g1, g2⟩ := h.get e1
  rw [e2] at g1; cases g1
  exact g2
theorem wk_lst {a : Addr} {ds : List D} {vs : List V} (h1 : H1 a = some (.lst vs)) (r : RepL K p ds (hide H1 B) vs) (ok : ∀ H, Lt p c B H1 H → H a = some (.lst vs)) : WkD K p c false (Itl K a) ds B H1 := by
  refine ⟨fun H => SqL K H a vs, YAt vs, by rw [← r.length]; exact walk_list, fun H l => .inl (.inl (ok H l)), fun i H v H' d l y e => ?_⟩
  obtain ⟨rfl, y⟩ := y
  exact ⟨Same.refl _, fun B' s _ => .inl (Rep.mono s (r.nth e y))⟩
theorem wk_tup {a : Addr} {ds : List D} {vs : List V} (r : RepL K p ds (hide H1 B) vs) (ok : ∀ H, Lt p c B H1 H → TupAt H a vs) : WkD K p c false (Itt K a) ds B H1 := by
  refine ⟨fun H => SqT K H a vs, YAt vs, by rw [← r.length]; exact walk_tup, fun H l => (ok H l).sq, fun i H v H' d l y e => ?_⟩
  obtain ⟨rfl, y⟩ := y
  exact ⟨Same.refl _, fun B' s _ => .inl (Rep.mono s (r.nth e y))⟩
theorem tup_nt (K : PySem.W.Frag) {a : Addr} {vs : List V} (nt : ∀ a ∈ B, ∃ o, H1 a = some o ∧ nontup o = true) (h : TupAt H1 a vs) (le : ∀ a o, a ∉ B → H1 a = some o → H a = some o) : TupAt H a vs := by
  obtain ⟨o, z, e⟩ := hide_tup (K := K) nt a vs h
  obtain ⟨n, e⟩ := hide_some e
  exact ⟨o, z, le _ _ n e⟩
theorem HL.tup {a : Addr} {vs : List V} (l : HL H) (h : TupAt H a vs) : vs.length ≤ sizeLine := l a vs (.inr h.two)
theorem HL.lst {a : Addr} {vs : List V} (l : HL H) (h : H a = some (.lst vs)) : vs.length ≤ sizeLine := l a vs (.inl (.inl h))
theorem di_seq {tg e : Expr} (h : DE X p e f c fr) (hz : ∀ a xs, X.K.lookup a = some xs → True := fun _ _ _ => trivial) : DI X p tg e (itE f) c false := ⟨piHL (pi_seq h.pe) fun σ H R hl t => by
  obtain ⟨F, ρ, B, q, xs, q', k1, k2, k3⟩ := t hl
  obtain ⟨d, q1, e1, k2⟩ := M.bind_some k2
  obtain ⟨e2, rfl⟩ := M.of_some k2
  refine fun _ => ⟨F, ρ, B, q, d, _, k1, e1, fun v H1 l1 s1 p1 r1 _ => ?_⟩
  have nt := (k1.stp s1 p1).nt
  cases d with
  | list ds =>
    cases e2
    obtain ⟨a, vs, ea, hne, h1, h2⟩ := r1.cons.lst k1.pB
    refine ⟨a, ea, .inl ⟨⟨vs, .inl (.inl h1)⟩, fun l => k3 _ H1 l s1 p1 (by rw [← h2.length]; exact l1.lst h1) (wk_lst h1 h2 fun H' lt => ?_)⟩⟩
    unfold Lt at lt
    cases c with
    | true => rw [if_pos rfl] at lt; exact lt _ _ h1 hne
    | false =>
      rw [if_neg Bool.false_ne_true] at lt
      unfold Res at r1
      rw [if_neg Bool.false_ne_true] at r1
      obtain ⟨a', vs', ea', g1, _⟩ := r1
      rw [ea] at ea'; cases ea'
      exact lt _ _ (hide_some g1).1 h1
  | tuple ds =>
    cases e2
    obtain ⟨a, vs, ea, h1, h2⟩ := r1.cons.tup
    exact ⟨a, ea, .inr ⟨⟨vs, h1.sq⟩, fun l => k3 _ H1 l s1 p1 (by rw [← h2.length]; exact l1.tup h1) (wk_tup h2 fun H' lt => tup_nt X.K nt h1 (lt.le k1.pB))⟩⟩
  | _ => cases e2⟩
/-- range(n) -/
def rngE (f : Env → M D) : IE := fun ρ => M.bind (f ρ) fun d => match d with
  | .int j => if -1000000 ≤ j ∧ j ≤ 1000000 then M.pure ((List.range j.toNat).map fun i => .int (i : Nat)) else M.fail
  | _ => M.fail
theorem rngE_some {ρ : Env} {q q' : Pot} {xs : List D} (h : rngE f ρ q = some (xs, q')) : ∃ j, f ρ q = some (.int j, q') ∧ (-1000000 ≤ j ∧ j ≤ 1000000) ∧ xs = (List.range j.toNat).map fun i => .int (i : Nat) := by
  obtain ⟨d, q1, e1, h⟩ := M.bind_some h
  cases d with
  | int j =>
    dsimp only at h
    by_cases c : -1000000 ≤ j ∧ j ≤ 1000000
    · rw [if_pos c] at h
      obtain ⟨rfl, rfl⟩ := M.pure_some h
      exact ⟨j, e1, c, rfl⟩
    · rw [if_neg c] at h; cases h
  | _ => cases h
theorem wk_range {lo : Int} {n : Nat} : WkD K p c false (Itr lo n) ((List.range n).map fun i => .int (lo + (i : Nat))) B H1 := by
  refine ⟨fun _ => True, YFn fun i => .int (lo + i), by simpa using walk_range, fun _ _ => trivial, fun i H v H' d l y e => ?_⟩
  obtain ⟨rfl, rfl⟩ := y
  rw [List.getElem?_map] at e
  cases z : (List.range n)[i]? with
  | none => rw [z] at e; cases e
  | some j =>
    rw [z] at e
    cases e
    obtain ⟨h1, h2⟩ := List.getElem?_eq_some_iff.mp z
    rw [List.getElem_range] at h2
    subst h2
    exact ⟨Same.refl _, fun _ _ _ => .inl rfl⟩
theorem sz6 : (1000000 : Nat) ≤ sizeLine := by rw [sizeLine_eq]; decide
theorem di_range1 {tg a : Expr} {np pos : Pos} (hg : Gl X "range") (hm : X.mg "range" = none) (ha : DE X p a f c fr) (hs : starEach [a] X.env = [(false, eval a X.env)] := by rfl)
    (hs2 : starEach [a] X.env = (false, eval a X.env) :: starEach [] X.env := by rfl) : DI X p tg (.Call (.Name "range" np) [a] [] pos) (rngE f) false false := ⟨piHL (pi_range1 hg hm (pa_cons ha.pe pa_nil hs2) hs) fun σ H R hl t => by
  obtain ⟨F, ρ, B, q, xs, q', k1, k2, k3⟩ := t hl
  obtain ⟨j, e1, hj, rfl⟩ := rngE_some k2
  refine fun _ => ⟨F, ρ, B, q, _, q', k1, e1, fun v H1 l1 s1 p1 r1 _ => ⟨j, by rw [r1.cons.int], by omega, by omega, fun l => k3 _ H1 l s1 p1 ?_ ?_⟩⟩
  · rw [List.length_map, List.length_range]
    have := sz6
    omega
  · have z := wk_range (K := X.K) (p := p) (c := false) (B := B) (H1 := H1) (lo := 0) (n := j.toNat)
    simpa using z⟩
def rng2E (f g : Env → M D) : IE := fun ρ => M.bind (f ρ) fun d => M.bind (g ρ) fun e => match d, e with
  | .int i, .int j => if (-400000 ≤ i ∧ i ≤ 400000) ∧ (-400000 ≤ j ∧ j ≤ 400000) then M.pure ((List.range (j - i).toNat).map fun k => .int (i + (k : Nat))) else M.fail
  | _, _ => M.fail
theorem rng2E_some {g : Env → M D} {ρ : Env} {q q' : Pot} {xs : List D} (h : rng2E f g ρ q = some (xs, q')) : ∃ i j q1, f ρ q = some (.int i, q1) ∧ g ρ q1 = some (.int j, q') ∧ ((-400000 ≤ i ∧ i ≤ 400000) ∧ (-400000 ≤ j ∧ j ≤ 400000)) ∧ xs = (List.range (j - i).toNat).map fun k => .int (i + (k : Nat)) := by
  obtain ⟨d, q1, e1, h⟩ := M.bind_some h
  obtain ⟨e, q2, e2, h⟩ := M.bind_some h
  cases d with
  | int i =>
    cases e with
    | int j =>
      dsimp only at h
      by_cases c : (-400000 ≤ i ∧ i ≤ 400000) ∧ (-400000 ≤ j ∧ j ≤ 400000)
      · rw [if_pos c] at h
        obtain ⟨rfl, rfl⟩ := M.pure_some h
        exact ⟨i, j, q1, e1, e2, c, rfl⟩
      · rw [if_neg c] at h; cases h
    | _ => cases h
  | _ => cases h
theorem di_range2 {tg a b : Expr} {g : Env → M D} {c2 fr2 : Bool} {np pos : Pos} (hg : Gl X "range") (hm : X.mg "range" = none) (ha : DE X p a f c fr) (hb : DE X p b g c2 fr2) (hs : starEach [a, b] X.env = (false, eval a X.env) :: starEach [b] X.env := by rfl)
    (hs2 : starEach [b] X.env = (false, eval b X.env) :: starEach [] X.env := by rfl) (hs0 : starEach [a, b] X.env = [(false, eval a X.env), (false, eval b X.env)] := by rfl) (hs00 : starEach [b] X.env = [(false, eval b X.env)] := by rfl) : DI X p tg (.Call (.Name "range" np) [a, b] [] pos) (rng2E f g) false false := ⟨piHL (pi_range2 hg hm (pa_cons ha.pe (pa_cons hb.pe pa_nil hs2) hs) hs0 hs00) fun σ H R hl t => by
  obtain ⟨F, ρ, B, q, xs, q', k1, k2, k3⟩ := t hl
  obtain ⟨i, j, q1, e1, e2, ⟨⟨h1, h2⟩, h3, h4⟩, rfl⟩ := rng2E_some k2
  refine fun _ => ⟨F, ρ, B, q, _, q1, k1, e1, fun v H1 l1 s1 p1 r1 _ _ => ⟨F, ρ, B, q1, _, q', k1.stp s1 p1, e2, fun w H2 l2 s2 p2 r2 _ => ⟨i, j, by rw [r1.cons.int, r2.cons.int], ⟨by omega, by omega, by omega, by omega⟩, fun l => k3 _ H2 l (s1.trans s2) p2 ?_ ?_⟩⟩⟩
  · rw [List.length_map, List.length_range]
    have := sz6
    omega
  · exact wk_range⟩
/-! ### a comprehension -/
def wipeD (ρ : Env) : List Nat → Env
  | [] => ρ
  | v :: vs => (wipeD ρ vs).set v none
theorem wipeD_len (ρ : Env) : ∀ vs, (wipeD ρ vs).length = ρ.length
  | [] => rfl
  | v :: vs => by simp [wipeD, wipeD_len ρ vs]
theorem Pre.wipe (S : Pre K p F H B σ ρ q) : ∀ vs, Pre K p F H B (wipe σ vs) (wipeD ρ vs) q
  | [] => S
  | v :: vs => by
    have S' := Pre.wipe S vs
    refine ⟨S'.pot, S'.pB, S'.nt, fun i b d h => ?_, by simp [L2.wipe, wipeD, S'.len]⟩
    have h : ((wipeD ρ vs).set v none)[i]? = some (some (b, d)) := h
    by_cases e : v = i
    · subst e
      by_cases hl : v < (wipeD ρ vs).length
      · rw [List.getElem?_set_self hl] at h; cases h
      · rw [List.getElem?_eq_none (by simpa using hl)] at h; cases h
    · rw [List.getElem?_set_ne e] at h
      obtain ⟨w, h1, h2⟩ := S'.env i b d h
      exact ⟨w, by show ((L2.wipe σ vs).set v none)[i]? = _; rw [List.getElem?_set_ne e]; exact h1, h2⟩
/-- one turn after another: what is kept, mapped -/
def lcGo (own : List Nat) (g : Gd) (tt te : Env → M D) (ρ : Env) : List D → M (List D)
  | [] => M.pure []
  | x :: xs => M.bind (M.of (g x)) fun as => M.bind (tt (sets (wipeD ρ own) (as.map (·.1)) (cl as))) fun b => match b with
    | .bool true => M.bind (te (sets (wipeD ρ own) (as.map (·.1)) (cl as))) fun y => M.bind (lcGo own g tt te ρ xs) fun ys => M.pure (y :: ys)
    | .bool false => lcGo own g tt te ρ xs
    | _ => M.fail
def lcE (own : List Nat) (it : IE) (g : Gd) (tt te : Env → M D) : Env → M D := fun ρ => M.bind (it ρ) fun xs => if own.all (fun i => decide (i < ρ.length)) = true then M.bind (lcGo own g tt te ρ xs) fun ys => M.pure (.list ys) else M.fail
structure DTs (X : Cx) (p : Addr) (ifs : List Expr) (f : Env → M D) : Prop where
  pts : PTs X ifs (tT X.K p f)
theorem dts_nil : DTs X p [] (cst (.bool true)) := ⟨⟨fun pins s σ H Q I hw => wpAny_tests_nil (by
  obtain ⟨F, ρ, B, q, b, q', k1, k2, k3⟩ := hw (HL_of I.hok)
  obtain ⟨e, rfl⟩ := M.pure_some k2
  cases e
  exact ⟨H, I, k3 H (HL_of I.hok) Stp.refl k1.pot⟩)⟩⟩
theorem dts_one {t : Expr} (h : DT X p t f) : DTs X p [t] f := ⟨pts_one h.pt⟩
/-- the targets are among these -/
def Gin (g : Gd) (own : List Nat) : Prop := ∀ d as, g d = some as → ∀ a ∈ as, a.1 ∈ own
theorem gN_in {i : Nat} {own : List Nat} (h : i ∈ own) : Gin (gN i) own := fun d as e a ha => by
  cases e
  simp only [List.mem_singleton] at ha
  rw [ha]; exact h
theorem gT_go_in {own : List Nat} : ∀ {gs : List Gd}, (∀ g ∈ gs, Gin g own) → ∀ {ds : List D} {as : List (Nat × D)}, gT.go gs ds = some as → ∀ a ∈ as, a.1 ∈ own
  | [], _, ds, as, e, a, ha => by
    unfold gT.go at e
    cases e; cases ha
  | g :: gs, h, [], as, e, a, ha => by
    unfold gT.go at e
    cases e; cases ha
  | g :: gs, h, d :: ds, as, e, a, ha => by
    unfold gT.go at e
    cases e1 : g d with
    | none => rw [e1] at e; cases e
    | some a1 =>
      cases e2 : gT.go gs ds with
      | none => rw [e1, e2] at e; cases e
      | some a2 =>
        rw [e1, e2] at e
        cases e
        rcases List.mem_append.mp ha with z | z
        · exact h g List.mem_cons_self d a1 e1 a z
        · exact gT_go_in (fun g' hg => h g' (List.mem_cons_of_mem _ hg)) e2 a z
theorem gT_in {gs : List Gd} {own : List Nat} (h : ∀ g ∈ gs, Gin g own) : Gin (gT gs) own := fun d as e a ha => by
  cases d with
  | tuple ds =>
    unfold gT at e
    dsimp only at e
    by_cases hl : ds.length = gs.length
    · rw [if_pos hl] at e
      exact gT_go_in h e a ha
    · rw [if_neg hl] at e; cases e
  | _ => cases e
theorem gi_nil {own : List Nat} : ∀ g ∈ ([] : List Gd), Gin g own := fun g h => by cases h
theorem gi_cons {g : Gd} {gs : List Gd} {own : List Nat} (h1 : Gin g own) (h2 : ∀ g ∈ gs, Gin g own) : ∀ g' ∈ g :: gs, Gin g' own := fun g' h => by
  rcases List.mem_cons.mp h with z | z
  · rw [z]; exact h1
  · exact h2 g' z
theorem wipe_set {α : Type} : ∀ (vs : List Nat) (σ : List (Option V)) (i : Nat) (x : V), i ∈ vs → wipe (σ.set i (some x)) vs = wipe σ vs
  | [], _, _, _, h => by cases h
  | v :: vs, σ, i, x, h => by
    show (wipe (σ.set i (some x)) vs).set v none = (wipe σ vs).set v none
    by_cases hi : i ∈ vs
    · rw [wipe_set (α := α) vs σ i x hi]
    · have e : i = v := by
        rcases List.mem_cons.mp h with z | z
        · exact z
        · exact absurd z hi
      subst e
      refine List.ext_getElem? fun j => ?_
      have len : (wipe (σ.set i (some x)) vs).length = (wipe σ vs).length := by simp [wipe_length]
      by_cases hj : i = j
      · subst hj
        by_cases hl : i < (wipe σ vs).length
        · rw [List.getElem?_set_self hl, List.getElem?_set_self (by rw [len]; exact hl)]
        · rw [List.getElem?_eq_none (by simp [wipe_length] at hl ⊢; exact hl), List.getElem?_eq_none (by simp [wipe_length] at hl ⊢; exact hl)]
      · rw [List.getElem?_set_ne hj, List.getElem?_set_ne hj]
        exact wipe_other vs σ i j x hj
where wipe_other : ∀ (vs : List Nat) (σ : List (Option V)) (i j : Nat) (x : V), i ≠ j → (wipe (σ.set i (some x)) vs)[j]? = (wipe σ vs)[j]?
  | [], σ, i, j, x, h => List.getElem?_set_ne h
  | v :: vs, σ, i, j, x, h => by
    show ((wipe (σ.set i (some x)) vs).set v none)[j]? = ((wipe σ vs).set v none)[j]?
    have len : (wipe (σ.set i (some x)) vs).length = (wipe σ vs).length := by simp [wipe_length]
    by_cases hv : v = j
    · subst hv
      by_cases hl : v < (wipe σ vs).length
      · rw [List.getElem?_set_self hl, List.getElem?_set_self (by rw [len]; exact hl)]
      · rw [List.getElem?_eq_none (by simp [wipe_length] at hl ⊢; exact hl), List.getElem?_eq_none (by simp [wipe_length] at hl ⊢; exact hl)]
    · rw [List.getElem?_set_ne hv, List.getElem?_set_ne hv]
      exact wipe_other vs σ i j x h
theorem wipe_sets {own : List Nat} : ∀ (is : List Nat) (ws : List V) (σ : List (Option V)), (∀ i ∈ is, i ∈ own) → wipe (sets σ is ws) own = wipe σ own
  | [], _, _, _ => by simp [sets]
  | _ :: _, [], _, _ => by simp [sets]
  | i :: is, w :: ws, σ, h => by
    show wipe (sets (σ.set i (some w)) is ws) own = _
    rw [wipe_sets is ws _ fun j hj => h j (List.mem_cons_of_mem _ hj), wipe_set (α := Unit) own σ i w (h i List.mem_cons_self)]
theorem wipe_wipe {σ : List (Option V)} (own : List Nat) : wipe (wipe σ own) own = wipe σ own := by
  have key : ∀ (vs : List Nat) (τ : List (Option V)), (∀ v ∈ vs, ∀ x, τ[v]? = some x → x = none) → wipe τ vs = τ := by
    intro vs
    induction vs with
    | nil => intro τ _; rfl
    | cons v vs ih =>
      intro τ h
      show (wipe τ vs).set v none = τ
      rw [ih τ fun w hw => h w (List.mem_cons_of_mem _ hw)]
      refine List.ext_getElem? fun j => ?_
      by_cases hv : v = j
      · subst hv
        by_cases hl : v < τ.length
        · rw [List.getElem?_set_self hl, List.getElem?_eq_getElem hl]
          have := h v List.mem_cons_self _ (List.getElem?_eq_getElem hl)
          rw [this]
        · rw [List.getElem?_eq_none (by simpa using hl), List.getElem?_eq_none (by simpa using hl)]
      · rw [List.getElem?_set_ne hv]
  refine key own _ fun v hv x hx => ?_
  cases x with
  | none => rfl
  | some y => exact absurd hv (wipe_some hx).2
theorem Lt.of_stp (s : Stp p H1 H) (hp : p ∈ B) : Lt p c B H1 H := by
  unfold Lt
  split
  · exact s
  · exact fun a o n e => s a o e fun z => n (z ▸ hp)
theorem lcGo_cons {own : List Nat} {g : Gd} {tt te : Env → M D} {ρ : Env} {x : D} {xs ys : List D} {q q' : Pot} (h : lcGo own g tt te ρ (x :: xs) q = some (ys, q')) : ∃ as b q1, g x = some as ∧ tt (sets (wipeD ρ own) (as.map (·.1)) (cl as)) q = some (.bool b, q1) ∧
    ((b = true ∧ ∃ y q2 yr, te (sets (wipeD ρ own) (as.map (·.1)) (cl as)) q1 = some (y, q2) ∧ lcGo own g tt te ρ xs q2 = some (yr, q') ∧ ys = y :: yr) ∨ (b = false ∧ lcGo own g tt te ρ xs q1 = some (ys, q'))) := by
  unfold lcGo at h
  obtain ⟨as, q0, e0, h1⟩ := M.bind_some h
  clear h
  obtain ⟨e1, rfl⟩ := M.of_some e0
  clear e0
  obtain ⟨b, q1, e2, h⟩ := M.bind_some h1
  clear h1
  cases b with
  | bool b =>
    refine ⟨as, b, q1, e1, e2, ?_⟩
    cases b with
    | true =>
      obtain ⟨y, q2, e3, h⟩ := M.bind_some h
      obtain ⟨yr, q3, e4, h⟩ := M.bind_some h
      obtain ⟨rfl, rfl⟩ := M.pure_some h
      exact .inl ⟨rfl, y, q2, yr, e3, e4, rfl⟩
    | false => exact .inr ⟨rfl, h⟩
  | _ => cases h
theorem lc_read {own : List Nat} {it : IE} {ci cr pr tk : Bool} {g : Gd} {ft fe : Env → M D} {Q : VK} (hpt : pr = true → tk = true) (hgo : Gin g own) (hl : HL H) (t : tE X.K p (lcE own it g ft fe) false true σ H Q) :
    tLc (tI X.K p it ci pr) (tG X.K p tk g) (tT X.K p ft) (tE X.K p fe false cr) own σ H (fun v H' => HL H' → Q v H') := by
  obtain ⟨F, ρ, B, q, d, q', k1, k2, k3⟩ := t hl
  obtain ⟨xs, q1, e1, k2⟩ := M.bind_some k2
  by_cases hown : own.all (fun i => decide (i < ρ.length)) = true
  case neg => rw [if_neg hown] at k2; cases k2
  rw [if_pos hown] at k2
  obtain ⟨ys, q2, e2, k2⟩ := M.bind_some k2
  obtain ⟨rfl, rfl⟩ := M.pure_some k2
  refine fun _ => ⟨F, ρ, B, q, xs, q1, k1, e1, fun J H1 l1 s1 p1 hz wk L nL => ?_⟩
  obtain ⟨G, Y, W, hG, hY⟩ := wk.ex
  have pB := k1.pB
  have K1 := k1.stp s1 p1
  have hLp : L ≠ p := fun z => by rw [z, p1] at nL; cases nL
  have hLB : L ∉ B := new_nB K1.nt nL
  -- what holds between two turns
  refine lc_it (Qd := fun H => HL H → Q (.ref L) H) W (fun i H' => ∃ (vs : List V) (acc rest : List D) (qi : Pot), H' L = some (.lst vs) ∧ vs.length ≤ i ∧ RepL X.K p acc (hide H' (L :: B)) vs ∧ Stp p H1 H' ∧ H' p = some (potV qi) ∧
    lcGo own g ft fe ρ (xs.drop i) qi = some (rest, q') ∧ ys = acc ++ rest) ?_ ?_ ?_ ?_
  · refine ⟨[], [], ys, q1, upd_same, Nat.zero_le _, rfl, Stp.of (same_upd nL), ?_, e2, rfl⟩
    rw [upd_ne (Ne.symm hLp)]; exact p1
  · rintro i H' _ ⟨vs, acc, rest, qi, _, _, _, st, _⟩
    exact hG H' (Lt.of_stp st pB)
  · rintro i x Ha Hb hi ⟨vs, acc, rest, qi, hL, hlen, racc, st, pq, ego, eys⟩ y
    have hx : xs[i]? = some xs[i] := List.getElem?_eq_getElem hi
    obtain ⟨sab, rx⟩ := hY i Ha x Hb _ (Lt.of_stp st pB) y hx
    rw [show xs.drop i = xs[i] :: xs.drop (i + 1) from List.drop_eq_getElem_cons hi] at ego
    obtain ⟨as, b, q3, ea, et, ego2⟩ := lcGo_cons ego
    clear ego
    have stb : Stp p H1 Hb := st.trans (Stp.of sab)
    -- all that the slots lean on, the new list hidden too
    have hidA : Same (hide H1 B) (hide Ha (L :: B)) := hide_mono fun a o n e => ⟨fun z => by
      rcases List.mem_cons.mp z with z | z
      · rw [z, nL] at e; cases e
      · exact n z, st a o e fun z => n (z ▸ pB)⟩
    have hidB : Same (hide H1 B) (hide Hb (L :: B)) := fun a o e => hide_same _ sab _ _ (hidA _ _ e)
    have repx := rx (L :: B) hidA fun a ha => by
      rcases List.mem_cons.mp ha with z | z
      · rw [z, hL]; exact fun z => by cases z
      · by_cases hap : a = p
        · rw [hap, pq]; exact fun z => by cases z
        · obtain ⟨o, e, _⟩ := K1.nt a z
          rw [st a o e hap]; exact fun z => by cases z
    have hLb : Hb L = some (.lst vs) := sab _ _ hL
    have pqb : Hb p = some (potV qi) := sab _ _ pq
    have Pb : Pre X.K p F Hb (L :: B) (wipe σ own) (wipeD ρ own) qi := by
      have P1 := (K1.stp stb pqb).wipe own
      refine ⟨pqb, List.mem_cons_of_mem _ pB, fun a ha => ?_, fun j b e h => ?_, P1.len⟩
      · rcases List.mem_cons.mp ha with z | z
        · rw [z]; exact ⟨_, hLb, rfl⟩
        · exact P1.nt a z
      · obtain ⟨w, h1, h2, h3⟩ := (K1.wipe own).env j b e h
        refine ⟨w, h1, fun z => Rep.mono hidB (h2 z), fun z => ?_⟩
        obtain ⟨a, ea, hB, hne, hF, z⟩ := h3 z
        refine ⟨a, ea, List.mem_cons_of_mem _ hB, hne, hF, ?_⟩
        rcases z with ⟨ds, ws, e1, z1, z2⟩ | ⟨kvs, ws, e1, z0, z1, z2⟩
        · exact .inl ⟨ds, ws, e1, stb _ _ z1 hne, RepL.mono hidB z2⟩
        · exact .inr ⟨kvs, ws, e1, z0, DcAt_stp stb hne z1, RepKV.mono hidB z2⟩
    refine ⟨xs[i], hide Hb (L :: B), as, RepG.up hpt repx, hide_le _ _, ea, fun ws rws => ⟨?_, ?_⟩⟩
    · rw [wipe_sets _ ws _ fun j hj => ?_, wipe_wipe]
      obtain ⟨a, ha, rfl⟩ := List.mem_map.mp hj
      exact hgo _ _ ea a ha
    · have Ps := Pb.setsC rws
      refine fun _ => ⟨F, _, L :: B, qi, b, q3, Ps, et, fun Hc lc sc pc => ?_⟩
      have stc : Stp p H1 Hc := stb.trans sc
      have hLc : Hc L = some (.lst vs) := sc _ _ hLb hLp
      have raccC : RepL X.K p acc (hide Hc (L :: B)) vs := RepL.mono (Stp.hid ((Stp.of sab).trans sc) (List.mem_cons_of_mem _ pB)) racc
      rcases ego2 with ⟨rfl, yv, q4, yr, ev, ego, rfl⟩ | ⟨rfl, ego⟩
      · dsimp only
        rw [if_pos rfl]
        refine fun _ => ⟨F, _, L :: B, q3, yv, q4, Ps.stp sc pc, ev, fun v Hd ld sd pd rv _ => ?_⟩
        have hLd : Hd L = some (.lst vs) := sd _ _ hLc hLp
        refine ⟨vs, hLd, by omega, vs ++ [v], acc ++ [yv], yr, q4, upd_same, by simp; omega, ?_, fun a o e ne => ?_, ?_, ego, by rw [eys, List.append_assoc]; rfl⟩
        · have hs : Same (hide Hd (L :: B)) (hide (upd Hd L (.lst (vs ++ [v]))) (L :: B)) := hide_mono fun a o n e => ⟨n, by rw [upd_ne (fun z => n (by simp [z]))]; exact e⟩
          exact RepL.mono hs (RepL.app (RepL.mono (sd.hid (List.mem_cons_of_mem _ pB)) raccC) (RepL.one rv))
        · have hn : a ≠ L := fun z => by rw [z, nL] at e; cases e
          rw [upd_ne hn]
          exact (stc.trans sd) a o e ne
        · rw [upd_ne (Ne.symm hLp)]; exact pd
      · dsimp only
        rw [if_neg Bool.false_ne_true]
        exact ⟨vs, acc, rest, q3, hLc, by omega, raccC, stc, pc, ego, eys⟩
  · rintro Hn ⟨vs, acc, rest, qn, hL, hlen, racc, st, pq, ego, eys⟩ ln
    rw [List.drop_length] at ego
    obtain ⟨rfl, rfl⟩ := M.pure_some ego
    rw [List.append_nil] at eys
    subst eys
    refine k3 _ Hn ln (s1.trans st) pq ?_ fun _ => new_of s1 p1 nL
    exact ⟨L, vs, rfl, hide_of hLB hL, RepL.mono (fun a o e => by
      obtain ⟨n, e⟩ := hide_some e
      exact hide_of (by simp only [List.mem_singleton]; exact fun z => n (by simp [z])) (hide_of (fun z => n (List.mem_cons_of_mem _ z)) e)) racc⟩
theorem d_lc {elt tg iter : Expr} {ifs : List Expr} {scope : Scope} {pos : Pos} (own : List (Str × Nat)) {it : IE} {ci cr pr tk : Bool} {g : Gd} {ft fe : Env → M D} (hpt : pr = true → tk = true) (hc : X.calm = true) (hN : X.N.Nodup) (ok : BlkOk X.N X.env.scope scope own) (hi : DI X p tg iter it ci pr)
    (hgo : Gin g (own.map (·.2))) (hg : ∀ (s : Shared) (H : Hp) (C : Addr) (cl : List (Str × Addr)) (fp : List Addr), DG (X.blk s H scope (compEnvC scope cl C X.env) fp) p tk tg g)
    (ht : ∀ (s : Shared) (H : Hp) (C : Addr) (cl : List (Str × Addr)) (fp : List Addr), DTs (X.blk s H scope (compEnvC scope cl C X.env) fp) p ifs ft)
    (he : ∀ (s : Shared) (H : Hp) (C : Addr) (cl : List (Str × Addr)) (fp : List Addr), DE (X.blk s H scope (compEnvC scope cl C X.env) fp) p elt fe false cr) (hs : ∀ x, foldedSetIterable iter X.env x = pure x := by intro _; rfl) :
    DE X p (.ListComp elt [⟨tg, iter, ifs, 0⟩] scope pos) (lcE (own.map (·.2)) it g ft fe) false true :=
  ⟨peHL (pe_lc hc hN hi.pi ok (fun s H C cl fp => (hg s H C cl fp).pg) (fun s H C cl fp => (ht s H C cl fp).pts) (fun s H C cl fp => (he s H C cl fp).pe) hs) fun σ H Q hl t => lc_read hpt hgo hl t⟩
end
end Sd
/-! loops, lists that change -/
namespace Sd
open PySem PySem.Spec PyProof.Rows L2
section
variable {X : Cx} {p : Addr} {K : PySem.W.Frag} {H0 H H' H1 : Hp} {Ext own own' B : List Addr} {σ σ' : L2.St} {ρ ρ' : Env} {q q' : Pot} {E : Ends} {F : Addr → Prop} {c fr : Bool} {f : Env → M D}
theorem Bld.free {F' : Addr → Prop} {d : D} {v : V} (h : ∀ a ∈ B, F a → F' a) (b : Bld K p F H B d v) : Bld K p F' H B d v := by
  obtain ⟨a, ea, hB, hne, hF, z⟩ := b
  exact ⟨a, ea, hB, hne, h a hB hF, z⟩
theorem Pre.free {F' : Addr → Prop} (h : ∀ a ∈ B, F a → F' a) (P : Pre K p F H B σ ρ q) : Pre K p F' H B σ ρ q :=
  ⟨P.pot, P.pB, P.nt, fun i b d e => by
    obtain ⟨v, h1, h2, h3⟩ := P.env i b d e
    exact ⟨v, h1, h2, fun z => (h3 z).free h⟩, P.len⟩
/-- what stands now, but the lists that may change, is what must stay -/
theorem StR.rebase (S : StR K p H0 Ext own H σ ρ q) : StR K p (hide H own) Ext own H σ ρ q := by
  refine ⟨fun a o e _ => (hide_some e).2, S.pre.free fun a ha h0 => ?_, S.pX, fun a ha => ⟨?_, (S.own0 a ha).2⟩, fun a ha => ?_, S.uniq, S.len⟩
  · rcases List.mem_append.mp ha with z | z
    · show hide H own a = none
      unfold hide; rw [if_pos z]
    · exact absurd h0 (S.ext0 a z)
  · unfold hide; rw [if_pos ha]
  · obtain ⟨o, e, _⟩ := S.pre.nt a (List.mem_append_right _ ha)
    rw [hide_of (fun z => S.ext0 a ha (S.own0 a z).1) e]
    exact fun z => by cases z
theorem StR.unbase (S : StR K p H0 Ext own H σ ρ q) (S' : StR K p (hide H own) Ext own' H' σ' ρ' q') : StR K p H0 Ext own' H' σ' ρ' q' := by
  have up : ∀ a o, H0 a = some o → a ≠ p → hide H own a = some o := fun a o e ne => hide_of (fun z => by rw [(S.own0 a z).1] at e; cases e) (S.keep a o e ne)
  refine ⟨fun a o e ne => S'.keep a o (up a o e ne) ne, S'.pre.free fun a ha h0 => ?_, S'.pX, fun a ha => ⟨?_, (S'.own0 a ha).2⟩, S.ext0, S'.uniq, S'.len⟩
  · show H0 a = none
    cases e : H0 a with
    | none => rfl
    | some o =>
      exfalso
      by_cases ne : a = p
      · have := S'.ext0 p S'.pX
        rw [ne] at h0
        exact this h0
      · rw [show hide H own a = some o from up a o e ne] at h0; cases h0
  · cases e : H0 a with
    | none => rfl
    | some o =>
      have h := (S'.own0 a ha).1
      rw [up a o e (S'.own0 a ha).2] at h; cases h
def forGo (g : Gd) (body : SE) : List D → SE
  | [], ρ => M.pure (.nx, ρ)
  | x :: xs, ρ => M.bind (M.of (g x)) fun as => M.bind (body (sets ρ (as.map (·.1)) (cl as))) fun r => match r with
    | (.nx, ρ') => forGo g body xs ρ'
    | (.ct, ρ') => forGo g body xs ρ'
    | (.bk, ρ') => M.pure (.nx, ρ')
    | (.rt d, ρ') => M.pure (.rt d, ρ')
def forS (it : IE) (g : Gd) (body : SE) : SE := fun ρ => M.bind (it ρ) fun xs => forGo g body xs ρ
theorem forGo_cons {g : Gd} {body : SE} {x : D} {xs : List D} {r : Fl × Env} (h : forGo g body (x :: xs) ρ q = some (r, q')) : ∃ as rb q1, g x = some as ∧ body (sets ρ (as.map (·.1)) (cl as)) q = some (rb, q1) ∧
    ((∃ ρ', (rb = (.nx, ρ') ∨ rb = (.ct, ρ')) ∧ forGo g body xs ρ' q1 = some (r, q')) ∨ (∃ ρ', rb = (.bk, ρ') ∧ r = (.nx, ρ') ∧ q1 = q') ∨ (∃ d ρ', rb = (.rt d, ρ') ∧ r = (.rt d, ρ') ∧ q1 = q')) := by
  unfold forGo at h
  obtain ⟨as, q0, e0, h1⟩ := M.bind_some h
  clear h
  obtain ⟨e1, rfl⟩ := M.of_some e0
  clear e0
  obtain ⟨⟨fl, ρ1⟩, q1, e2, h⟩ := M.bind_some h1
  clear h1
  refine ⟨as, _, q1, e1, e2, ?_⟩
  cases fl with
  | nx => exact .inl ⟨ρ1, .inl rfl, h⟩
  | ct => exact .inl ⟨ρ1, .inr rfl, h⟩
  | bk =>
    obtain ⟨e, e'⟩ := M.pure_some h
    exact .inr (.inl ⟨ρ1, rfl, e, e'.symm⟩)
  | rt d =>
    obtain ⟨e, e'⟩ := M.pure_some h
    exact .inr (.inr ⟨d, ρ1, rfl, e, e'.symm⟩)
theorem ds_for {tg iter : Expr} {body : List Stmt} {pos : Pos} {it : IE} {g : Gd} {fb : SE} {pr tk : Bool} (hpt : pr = true → tk = true) (hp : PassesOwn (model X.prog X.w) X.A X.env X.xe) (hc : X.calm = true) (hi : DI X p tg iter it false pr) (hg : DG X p tk tg g) (hb : DSs X p body fb)
    (hs : ∀ x, foldedSetIterable iter X.env x = pure x := by intro _; rfl) : DS X p (.For tg iter body [] pos) (forS it g fb) := ⟨psHL (ps_for hp hc hi.pi hg.pg hb.pss hs) fun E σ H hl t => by
  obtain ⟨H0, Ext, own, ρ, q, r, q', S, e, af⟩ := t hl
  obtain ⟨xs, q1, e1, e2⟩ := M.bind_some e
  refine fun _ => ⟨_, ρ, _, q, xs, q1, S.pre, e1, fun J H1 l1 s1 p1 hz wk => ?_⟩
  obtain ⟨G, Y, W, hG, hY⟩ := wk.ex
  have S1 := S.stp s1 p1
  have R1 := S1.rebase
  have af := af.hl
  -- what is walked stands
  have later : ∀ {own' : List Addr} {H' : Hp} {σ' : L2.St} {ρ' : Env} {q2 : Pot}, StR X.K p (hide H1 own) Ext own' H' σ' ρ' q2 → Lt p false (own ++ Ext) H1 H' := fun {own' H' σ' ρ' q2} S' => by
    unfold Lt
    rw [if_neg Bool.false_ne_true]
    exact fun a o n e => S'.keep a o (hide_of (fun z => n (List.mem_append_left _ z)) e) fun z => n (List.mem_append_right _ (z ▸ S.pX))
  refine for_it W (fun i σ' H' => ∃ own' ρ' qi, StR X.K p (hide H1 own) Ext own' H' σ' ρ' qi ∧ forGo g fb (xs.drop i) ρ' qi = some (r, q')) ⟨own, ρ, q1, R1, e2⟩ ?_ ?_ ?_
  · rintro i σ' H' _ ⟨own', ρ', qi, S', _⟩
    exact hG H' (later S')
  · rintro i x σ' Ha Hb hi ⟨own', ρ', qi, S', ego⟩ y
    have hx : xs[i]? = some xs[i] := List.getElem?_eq_getElem hi
    obtain ⟨sab, rx⟩ := hY i Ha x Hb _ (later S') y hx
    rw [show xs.drop i = xs[i] :: xs.drop (i + 1) from List.drop_eq_getElem_cons hi] at ego
    obtain ⟨as, rb, q2, ea, eb, ego2⟩ := forGo_cons ego
    clear ego
    have pb : Hb p = some (potV qi) := sab _ _ S'.pre.pot
    have Sb := S'.stp (Stp.of sab) pb
    have sh : Same (hide H1 (own ++ Ext)) (hide Ha (own' ++ Ext)) := hide_mono fun a o n e => by
      have h0 : hide H1 own a = some o := hide_of (fun z => n (List.mem_append_left _ z)) e
      refine ⟨fun z => ?_, later S' a o n e⟩
      rcases List.mem_append.mp z with z | z
      · rw [(S'.own0 a z).1] at h0; cases h0
      · exact n (List.mem_append_right _ z)
    have repx := rx (own' ++ Ext) sh fun a ha => by
      obtain ⟨o, e, _⟩ := S'.pre.nt a ha
      rw [e]; exact fun z => by cases z
    refine ⟨xs[i], hide Hb (own' ++ Ext), as, RepG.up hpt repx, hide_le _ _, ea, fun ws rws => ?_⟩
    refine fun _ => ⟨hide H1 own, Ext, own', _, qi, rb, q2, Sb.setsC rws, eb, ?_⟩
    rcases ego2 with ⟨ρ2, rfl | rfl, ego⟩ | ⟨ρ2, rfl, rfl, rfl⟩ | ⟨d, ρ2, rfl, rfl, rfl⟩
    · exact fun σ2 H2 own2 l2 S2 => ⟨own2, ρ2, q2, S2, ego⟩
    · exact fun σ2 H2 own2 l2 S2 => ⟨own2, ρ2, q2, S2, ego⟩
    · exact fun σ2 H2 own2 l2 S2 => af σ2 H2 own2 l2 (S1.unbase S2)
    · refine fun v H2 l2 st pq rv => af v H2 l2 (fun a o e ne => ?_) pq rv
      exact st a o (hide_of (fun z => by rw [(S1.own0 a z).1] at e; cases e) (S1.keep a o e ne)) ne
  · rintro σ' H' ⟨own', ρ', qi, S', ego⟩
    rw [List.drop_length] at ego
    obtain ⟨rfl, rfl⟩ := M.pure_some ego
    exact fun l => af σ' H' own' l (S1.unbase S') l⟩
def whileS (c : Env → M D) (body : SE) : Nat → SE
  | 0, _ => M.fail
  | n + 1, ρ => M.bind (c ρ) fun d => match d with
    | .bool true => M.bind (body ρ) fun r => match r with
      | (.nx, ρ') => whileS c body n ρ'
      | (.ct, ρ') => whileS c body n ρ'
      | (.bk, ρ') => M.pure (.nx, ρ')
      | (.rt d, ρ') => M.pure (.rt d, ρ')
    | .bool false => M.pure (.nx, ρ)
    | _ => M.fail
theorem whileS_some {cn : Env → M D} {body : SE} {n : Nat} {r : Fl × Env} (h : whileS cn body (n + 1) ρ q = some (r, q')) : ∃ b q1, cn ρ q = some (.bool b, q1) ∧ ((b = false ∧ r = (.nx, ρ) ∧ q1 = q') ∨ (b = true ∧ ∃ rb q2, body ρ q1 = some (rb, q2) ∧
    ((∃ ρ', (rb = (.nx, ρ') ∨ rb = (.ct, ρ')) ∧ whileS cn body n ρ' q2 = some (r, q')) ∨ (∃ ρ', rb = (.bk, ρ') ∧ r = (.nx, ρ') ∧ q2 = q') ∨ (∃ d ρ', rb = (.rt d, ρ') ∧ r = (.rt d, ρ') ∧ q2 = q')))) := by
  unfold whileS at h
  obtain ⟨d, q1, e1, h1⟩ := M.bind_some h
  clear h
  cases d with
  | bool b =>
    refine ⟨b, q1, e1, ?_⟩
    cases b with
    | false =>
      obtain ⟨e, e'⟩ := M.pure_some h1
      exact .inl ⟨rfl, e, e'.symm⟩
    | true =>
      obtain ⟨⟨fl, ρ1⟩, q2, e2, h⟩ := M.bind_some h1
      clear h1
      refine .inr ⟨rfl, _, q2, e2, ?_⟩
      cases fl with
      | nx => exact .inl ⟨ρ1, .inl rfl, h⟩
      | ct => exact .inl ⟨ρ1, .inr rfl, h⟩
      | bk =>
        obtain ⟨e, e'⟩ := M.pure_some h
        exact .inr (.inl ⟨ρ1, rfl, e, e'.symm⟩)
      | rt d =>
        obtain ⟨e, e'⟩ := M.pure_some h
        exact .inr (.inr ⟨d, ρ1, rfl, e, e'.symm⟩)
  | _ => cases h1
theorem ds_while {t : Expr} {body : List Stmt} {pos : Pos} {cn : Env → M D} {fb : SE} (n : Nat) (hp : PassesOwn (model X.prog X.w) X.A X.env X.xe) (ht : DT X p t cn) (hb : DSs X p body fb) : DS X p (.While t body [] pos) (whileS cn fb n) := ⟨psHL (ps_while hp ht.pt hb.pss) fun E σ H hl t => by
  obtain ⟨H0, Ext, own, ρ, q, r, q', S, e, af⟩ := t hl
  have af := af.hl
  refine ⟨fun m σ' H' => ∃ own' ρ' qi, StR X.K p H0 Ext own' H' σ' ρ' qi ∧ whileS cn fb m ρ' qi = some (r, q'), ⟨n, own, ρ, q, S, e⟩, ?_⟩
  rintro m σ' H' ⟨own', ρ', qi, S', e'⟩
  cases m with
  | zero => cases e'
  | succ m =>
    obtain ⟨b, q1, e1, e2⟩ := whileS_some e'
    refine fun _ => ⟨_, ρ', _, qi, b, q1, S'.pre, e1, fun H2 l2 s2 p2 => ?_⟩
    have S2 := S'.stp s2 p2
    rcases e2 with ⟨rfl, rfl, rfl⟩ | ⟨rfl, rb, q2, eb, z⟩
    · dsimp only
      rw [if_neg Bool.false_ne_true]
      exact fun l => af σ' H2 own' l S2 l
    · dsimp only
      rw [if_pos rfl]
      refine ⟨fun σ3 H3 => ∃ own3 ρ3 q3, StR X.K p H0 Ext own3 H3 σ3 ρ3 q3 ∧ whileS cn fb m ρ3 q3 = some (r, q'), fun σ3 H3 z => ⟨m, Nat.lt_succ_self m, z⟩, fun _ => ⟨H0, Ext, own', ρ', q1, rb, q2, S2, eb, ?_⟩⟩
      rcases z with ⟨ρ2, rfl | rfl, ego⟩ | ⟨ρ2, rfl, rfl, rfl⟩ | ⟨d, ρ2, rfl, rfl, rfl⟩
      · exact fun σ3 H3 own3 l3 S3 => ⟨own3, ρ2, q2, S3, ego⟩
      · exact fun σ3 H3 own3 l3 S3 => ⟨own3, ρ2, q2, S3, ego⟩
      · exact fun σ3 H3 own3 l3 S3 => af σ3 H3 own3 l3 S3
      · exact fun v H3 l3 st pq rv => af v H3 l3 st pq rv⟩
end
end Sd
/-! operations over data -/
namespace Sd
open PySem PySem.Spec PyProof.Rows L2
section
variable {X : Cx} {p : Addr} {K : PySem.W.Frag} {c fr : Bool} {f g : Env → M D} {e : Expr}
theorem resL1 {F : Addr → Prop} {H : Hp} {B : List Addr} {d : D} {vs : List V} (h : ResL K p F true H B [d] vs) : ∃ v, vs = [v] ∧ RepC K p F H B d v := by
  obtain ⟨v, r, rfl, h1, h2⟩ := h
  rw [show r = [] from h2]
  exact ⟨v, rfl, h1.cons⟩
theorem resL2 {F : Addr → Prop} {H : Hp} {B : List Addr} {d e : D} {vs : List V} (h : ResL K p F true H B [d, e] vs) : ∃ v w, vs = [v, w] ∧ RepC K p F H B d v ∧ RepC K p F H B e w := by
  obtain ⟨v, r, rfl, h1, h2⟩ := h
  obtain ⟨w, rfl, h3⟩ := resL1 h2
  exact ⟨v, w, rfl, h1.cons, h3⟩
/-! ### len -/
def lenD : List D → Option D
  | [.list ds] => some (.int ds.length)
  | [.tuple ds] => some (.int ds.length)
  | _ => none
theorem ok_len : OkN X.K p (fun xs H Q => ∃ a ys, xs = [.ref a] ∧ (SqL X.K H a ys ∨ SqT X.K H a ys) ∧ Q (.int ys.length) H) lenD false := fun F vs H B ds d Q hp nt hl r e q => by
  match ds with
  | [.list xs] =>
    cases e
    obtain ⟨v, rfl, h⟩ := resL1 r
    obtain ⟨a, ws, rfl, _, h1, h2⟩ := h.lst hp
    exact ⟨a, ws, rfl, .inl (.inl (.inl h1)), q _ _ (Same.refl _) (by rw [h2.length]; rfl) (fun z => by cases z)⟩
  | [.tuple xs] =>
    cases e
    obtain ⟨v, rfl, h⟩ := resL1 r
    obtain ⟨a, ws, rfl, h1, h2⟩ := h.tup
    exact ⟨a, ws, rfl, .inr h1.sq, q _ _ (Same.refl _) (by rw [h2.length]; rfl) (fun z => by cases z)⟩
  | [] => cases e
  | [.none] => cases e
  | [.bool _] => cases e
  | [.int _] => cases e
  | [.str _] => cases e
  | [.dict _] => cases e
  | _ :: _ :: _ => unfold lenD at e; split at e <;> simp_all
/-! ### numbers -/
def numD (f : Int → Int → Option Int) (d e : D) : Option D := match d, e with
  | .int i, .int j => (f i j).map .int
  | _, _ => none
theorem numD_some {f : Int → Int → Option Int} {d e r : D} (h : numD f d e = some r) : ∃ i j k, d = .int i ∧ e = .int j ∧ f i j = some k ∧ r = .int k := by
  cases d with
  | int i =>
    cases e with
    | int j =>
      have h' : (f i j).map PyData.int = some r := h
      cases z : f i j with
      | none => rw [z] at h'; cases h'
      | some k => rw [z] at h'; cases h'; exact ⟨i, j, k, rfl, rfl, z, rfl⟩
    | _ => cases h
  | _ => cases h
theorem ok_num {C : Int → Int → Prop} {h : Int → Int → Int} {f : Int → Int → Option Int} (hf : ∀ i j k, f i j = some k → C i j ∧ k = h i j) : Ok2 X.K p (rI C fun i j => .int (h i j)) (numD f) fr := fun F x y H B d1 d2 d Q hp nt hl r1 r2 e q => by
  obtain ⟨i, j, k, rfl, rfl, e1, rfl⟩ := numD_some e
  obtain ⟨hc, rfl⟩ := hf i j k e1
  exact ⟨i, j, r1.int, r2.int, hc, q _ _ (Same.refl _) rfl (fun _ z => by cases z)⟩
theorem ok_num0 {h : Int → Int → Int} : Ok2 X.K p (rI0 fun i j => .int (h i j)) (numD fun i j => some (h i j)) fr := fun F x y H B d1 d2 d Q hp nt hl r1 r2 e q => by
  obtain ⟨i, j, k, rfl, rfl, e1, rfl⟩ := numD_some e
  cases e1
  exact ⟨i, j, r1.int, r2.int, q _ _ (Same.refl _) rfl (fun _ z => by cases z)⟩
def subD : D → D → Option D := numD fun i j => some (i - j)
def mulD : D → D → Option D := numD fun i j => if (-(2 ^ 64) < i ∧ i < 2 ^ 64) ∨ (-(2 ^ 64) < j ∧ j < 2 ^ 64) then some (i * j) else none
def modD : D → D → Option D := numD fun i j => if 0 < j then some (i % j) else none
def fdivD : D → D → Option D := numD fun i j => if 0 < j ∧ j < 1073741824 then some (i / j) else none
def powD : D → D → Option D := numD fun i j => if 0 ≤ j ∧ j ≤ 1000000 ∧ i.natAbs < 2 ^ 64 then some (i ^ j.toNat) else none
theorem d_sub {a b : Expr} {fa fb : Env → M D} {ca cb f1 f2 : Bool} {pos : Pos} (ha : DE X p a fa ca f1) (hb : DE X p b fb cb f2) : DE X p (.BinOp a .Sub b pos) (ap2 subD fa fb) false true := d_2 ok_num0 ha hb (pe_op op_sub)
theorem d_mul {a b : Expr} {fa fb : Env → M D} {ca cb f1 f2 : Bool} {pos : Pos} (ha : DE X p a fa ca f1) (hb : DE X p b fb cb f2) : DE X p (.BinOp a .Mult b pos) (ap2 mulD fa fb) false true :=
  d_2 (ok_num fun i j k h => by
    by_cases z : (-(2 ^ 64) < i ∧ i < 2 ^ 64) ∨ (-(2 ^ 64) < j ∧ j < 2 ^ 64)
    · rw [if_pos z] at h; cases h; exact ⟨z, rfl⟩
    · rw [if_neg z] at h; cases h) ha hb (pe_op op_mul)
theorem d_mod {a b : Expr} {fa fb : Env → M D} {ca cb f1 f2 : Bool} {pos : Pos} (ha : DE X p a fa ca f1) (hb : DE X p b fb cb f2) : DE X p (.BinOp a .Mod b pos) (ap2 modD fa fb) false true :=
  d_2 (ok_num fun i j k h => by
    by_cases z : 0 < j
    · rw [if_pos z] at h; cases h; exact ⟨z, rfl⟩
    · rw [if_neg z] at h; cases h) ha hb (pe_op op_mod)
theorem d_fdiv {a b : Expr} {fa fb : Env → M D} {ca cb f1 f2 : Bool} {pos : Pos} (ha : DE X p a fa ca f1) (hb : DE X p b fb cb f2) : DE X p (.BinOp a .FloorDiv b pos) (ap2 fdivD fa fb) false true :=
  d_2 (ok_num fun i j k h => by
    by_cases z : 0 < j ∧ j < 1073741824
    · rw [if_pos z] at h; cases h; exact ⟨z, rfl⟩
    · rw [if_neg z] at h; cases h) ha hb (pe_op op_fdiv)
theorem d_pow {a b : Expr} {fa fb : Env → M D} {ca cb f1 f2 : Bool} {pos : Pos} (ha : DE X p a fa ca f1) (hb : DE X p b fb cb f2) : DE X p (.BinOp a .Pow b pos) (ap2 powD fa fb) false true :=
  d_2 (ok_num fun i j k h => by
    by_cases z : 0 ≤ j ∧ j ≤ 1000000 ∧ i.natAbs < 2 ^ 64
    · rw [if_pos z] at h; cases h; exact ⟨z, rfl⟩
    · rw [if_neg z] at h; cases h) ha hb (pe_op op_pow)
def negD : D → Option D
  | .int i => some (.int (-i))
  | _ => none
theorem d_1 {a : Expr} {fa : Env → M D} {ca f1 : Bool} {r : V → Hp → VK → Prop} {g : D → Option D} (ok : ∀ (F : Addr → Prop) (x : V) (H : Hp) (B : List Addr) (d1 d : D) (Q : VK), p ∈ B → (∀ a ∈ B, ∃ o, H a = some o ∧ nontup o = true) → HL H → RepC X.K p F H B d1 x → g d1 = some d →
      (∀ v H', Same H H' → Rep X.K p d (hide H' B) v → (fr = true → New H v d) → Q v H') → r x H Q)
    (ha : DE X p a fa ca f1) (t : ∀ {ta : TE}, PE X a ta → PE X e (tUn r ta)) : DE X p e (ap1 g fa) false fr :=
  ⟨peHL (t ha.pe) fun σ H Q hl t => by
    obtain ⟨F, ρ, B, q, d, q', k1, k2, k3⟩ := t hl
    obtain ⟨d1, q1, e1, k2⟩ := M.bind_some k2
    obtain ⟨e2, rfl⟩ := M.of_some k2
    exact fun _ => ⟨F, ρ, B, q, d1, _, k1, e1, fun x H1 l1 s1 p1 r1 _ => ok F x H1 B d1 d _ k1.pB (k1.stp s1 p1).nt l1 r1.cons e2 fun v H' s' rep new l' =>
      k3 v H' l' (s1.trans (Stp.of s')) (s' _ _ p1) rep fun z y => by
        obtain ⟨a, ea, na⟩ := new z y
        exact ⟨a, ea, by
          by_cases hp : a = p
          · subst hp; rw [na] at p1; cases p1
          · exact s1.free hp na⟩⟩⟩
theorem d_neg {a : Expr} {fa : Env → M D} {ca f1 : Bool} {pos : Pos} (ha : DE X p a fa ca f1) : DE X p (.UnaryOp .USub a pos) (ap1 negD fa) false true :=
  d_1 (fun F x H B d1 d Q hp nt hl r e q => by
    cases d1 with
    | int i => cases e; exact ⟨i, r.int, q _ _ (Same.refl _) rfl (fun _ z => by cases z)⟩
    | _ => cases e) ha (pe_un un_neg)
/-! ### + -/
def addD : D → D → Option D
  | .int i, .int j => some (.int (i + j))
  | .list a, .list b => if a.length + b.length ≤ 1000000 then some (.list (a ++ b)) else none
  | .tuple a, .tuple b => if a.length + b.length ≤ 1000000 then some (.tuple (a ++ b)) else none
  | _, _ => none
theorem hid_same {H : Hp} {a : Addr} {o : HO} {B : List Addr} (h : H a = none) : Same (hide H B) (hide (upd H a o) B) := hide_same B (same_upd h)
theorem ok_add : Ok2 X.K p (fun x y H Q => (rI0 (fun i j => .int (i + j)) x y H Q) ∨ (rCat x y H Q ∨ rCatO X.K x y H Q)) addD false := fun F x y H B d1 d2 d Q hp nt hl r1 r2 e q => by
  have sz := sz6
  cases d1 with
  | int i =>
    cases d2 with
    | int j => cases e; exact .inl ⟨i, j, r1.int, r2.int, q _ _ (Same.refl _) rfl (fun z => by cases z)⟩
    | _ => cases e
  | list a =>
    cases d2 with
    | list b =>
      have e' : (if a.length + b.length ≤ 1000000 then some (PyData.list (a ++ b)) else none) = some d := e
      by_cases z : a.length + b.length ≤ 1000000
      · rw [if_pos z] at e'
        cases e'
        obtain ⟨l1, v1, rfl, _, h1, h2⟩ := r1.lst hp
        obtain ⟨l2, v2, rfl, _, g1, g2⟩ := r2.lst hp
        exact .inr (.inl ⟨l1, l2, v1, v2, rfl, rfl, h1, g1, by rw [h2.length, g2.length]; omega, fun l nl => q _ _ (same_upd nl) (rep_lst nt nl (RepL.app h2 g2)) (fun z => by cases z)⟩)
      · rw [if_neg z] at e'; cases e'
    | _ => cases e
  | tuple a =>
    cases d2 with
    | tuple b =>
      have e' : (if a.length + b.length ≤ 1000000 then some (PyData.tuple (a ++ b)) else none) = some d := e
      by_cases z : a.length + b.length ≤ 1000000
      · rw [if_pos z] at e'
        cases e'
        have rr1 := r1.imm1 (fun _ z => by cases z) (fun _ z => by cases z)
        have rr2 := r2.imm1 (fun _ z => by cases z) (fun _ z => by cases z)
        obtain ⟨l1, v1, rfl, h1, h2⟩ := r1.tup
        obtain ⟨l2, v2, rfl, g1, g2⟩ := r2.tup
        refine .inr (.inr ⟨l1, l2, v1, v2, rfl, rfl, h1.sq, g1.sq, by rw [h2.length, g2.length]; omega, fun z => ?_, fun z y => ?_, fun _ _ l o nl ho => q _ _ (same_upd nl) (rep_tup nt nl ho (RepL.app h2 g2)) (fun z => by cases z)⟩)
        · have : a = [] := List.length_eq_zero_iff.mp (by rw [← h2.length, z]; rfl)
          subst this
          exact q _ _ (Same.refl _) rr2 (fun z => by cases z)
        · have : b = [] := List.length_eq_zero_iff.mp (by rw [← g2.length, y]; rfl)
          subst this
          rw [List.append_nil] at q
          exact q _ _ (Same.refl _) rr1 (fun z => by cases z)
      · rw [if_neg z] at e'; cases e'
    | _ => cases e
  | _ => cases e
theorem d_add {a b : Expr} {fa fb : Env → M D} {ca cb f1 f2 : Bool} {pos : Pos} (ha : DE X p a fa ca f1) (hb : DE X p b fb cb f2) : DE X p (.BinOp a .Add b pos) (ap2 addD fa fb) false false := d_2 ok_add ha hb (pe_op (op_add.or (op_cat.or op_catO)))
/-! ### comparisons -/
def cmpD (f : Int → Int → Bool) (d e : D) : Option D := match d, e with
  | .int i, .int j => some (.bool (f i j))
  | _, _ => none
theorem ok_cmp {f : Int → Int → Bool} : Ok2 X.K p (rI0 fun i j => .bl (f i j)) (cmpD f) fr := fun F x y H B d1 d2 d Q hp nt hl r1 r2 e q => by
  cases d1 with
  | int i =>
    cases d2 with
    | int j => cases e; exact ⟨i, j, r1.int, r2.int, q _ _ (Same.refl _) rfl (fun _ z => by cases z)⟩
    | _ => cases e
  | _ => cases e
def leD : D → D → Option D := cmpD fun i j => decide (i ≤ j)
def gtD : D → D → Option D := cmpD fun i j => decide (j < i)
def geD : D → D → Option D := cmpD fun i j => decide (j ≤ i)
theorem d_le {a b : Expr} {fa fb : Env → M D} {ca cb f1 f2 : Bool} {pos : Pos} (ha : DE X p a fa ca f1) (hb : DE X p b fb cb f2) : DE X p (.Compare a [.LtE] [b] pos) (ap2 leD fa fb) false true := d_2 ok_cmp ha hb fun x y => pe_cmpR op_le x y (nomark _)
theorem dt_le {a b : Expr} {fa fb : Env → M D} {ca cb f1 f2 : Bool} {pos : Pos} (ha : DE X p a fa ca f1) (hb : DE X p b fb cb f2) : DT X p (.Compare a [.LtE] [b] pos) (ap2 leD fa fb) := dt_2 (fr := true) ok_cmp ha hb fun x y => pt_cmpR op_le x y (nomark _)
theorem d_gt {a b : Expr} {fa fb : Env → M D} {ca cb f1 f2 : Bool} {pos : Pos} (ha : DE X p a fa ca f1) (hb : DE X p b fb cb f2) : DE X p (.Compare a [.Gt] [b] pos) (ap2 gtD fa fb) false true := d_2 ok_cmp ha hb fun x y => pe_cmpR op_gt x y (nomark _)
theorem dt_gt {a b : Expr} {fa fb : Env → M D} {ca cb f1 f2 : Bool} {pos : Pos} (ha : DE X p a fa ca f1) (hb : DE X p b fb cb f2) : DT X p (.Compare a [.Gt] [b] pos) (ap2 gtD fa fb) := dt_2 (fr := true) ok_cmp ha hb fun x y => pt_cmpR op_gt x y (nomark _)
theorem d_ge {a b : Expr} {fa fb : Env → M D} {ca cb f1 f2 : Bool} {pos : Pos} (ha : DE X p a fa ca f1) (hb : DE X p b fb cb f2) : DE X p (.Compare a [.GtE] [b] pos) (ap2 geD fa fb) false true := d_2 ok_cmp ha hb fun x y => pe_cmpR op_ge x y (nomark _)
theorem dt_ge {a b : Expr} {fa fb : Env → M D} {ca cb f1 f2 : Bool} {pos : Pos} (ha : DE X p a fa ca f1) (hb : DE X p b fb cb f2) : DT X p (.Compare a [.GtE] [b] pos) (ap2 geD fa fb) := dt_2 (fr := true) ok_cmp ha hb fun x y => pt_cmpR op_ge x y (nomark _)
/-- ints, tuples of ints -/
def intsOf : List D → Option (List Int)
  | [] => some []
  | .int i :: r => (intsOf r).map (i :: ·)
  | _ => none
theorem intsOf_rep {H : Hp} : ∀ {ds : List D} {ns : List Int} {vs : List V}, intsOf ds = some ns → RepL K p ds H vs → vs = ns.map V.int
  | [], _, _, e, r => by cases e; exact r
  | d :: ds, ns, _, e, r => by
    obtain ⟨v, vr, rfl, h1, h2⟩ := r
    cases d with
    | int i =>
      have e' : (intsOf ds).map (i :: ·) = some ns := e
      cases z : intsOf ds with
      | none => rw [z] at e'; cases e'
      | some ms =>
        rw [z] at e'; cases e'
        rw [show v = V.int i from h1, intsOf_rep z h2]; rfl
    | _ => cases e
def ltD (d e : D) : Option D := match d, e with
  | .int i, .int j => some (.bool (decide (i < j)))
  | .tuple a, .tuple b => match intsOf a, intsOf b with
    | some ns, some ms => some (.bool (HT.lexLt ns ms))
    | _, _ => none
  | _, _ => none
theorem ok_lt : Ok2 X.K p (fun x y H Q => (rI0 (fun i j => .bl (decide (i < j))) x y H Q) ∨ rLtT X.K x y H Q) ltD fr := fun F x y H B d1 d2 d Q hp nt hl r1 r2 e q => by
  cases d1 with
  | int i =>
    cases d2 with
    | int j => cases e; exact .inl ⟨i, j, r1.int, r2.int, q _ _ (Same.refl _) rfl (fun _ z => by cases z)⟩
    | _ => cases e
  | tuple a =>
    cases d2 with
    | tuple b =>
      have e' : (match intsOf a, intsOf b with
        | some ns, some ms => some (PyData.bool (HT.lexLt ns ms))
        | _, _ => none) = some d := e
      cases z1 : intsOf a with
      | none => rw [z1] at e'; cases e'
      | some ns =>
        cases z2 : intsOf b with
        | none => rw [z1, z2] at e'; cases e'
        | some ms =>
          rw [z1, z2] at e'
          cases e'
          obtain ⟨l1, v1, rfl, h1, h2⟩ := r1.tup
          obtain ⟨l2, v2, rfl, g1, g2⟩ := r2.tup
          have e1 := intsOf_rep z1 h2
          have e2 := intsOf_rep z2 g2
          subst e1 e2
          exact .inr ⟨l1, l2, ns, ms, rfl, rfl, h1.sq, g1.sq, q _ _ (Same.refl _) rfl (fun _ z => by cases z)⟩
    | _ => cases e
  | _ => cases e
theorem d_lt {a b : Expr} {fa fb : Env → M D} {ca cb f1 f2 : Bool} {pos : Pos} (hu : X.A.units < cLine) (ha : DE X p a fa ca f1) (hb : DE X p b fb cb f2) : DE X p (.Compare a [.Lt] [b] pos) (ap2 ltD fa fb) false true := d_2 ok_lt ha hb fun x y => pe_cmpR (op_lt.or (op_ltT hu)) x y (nomark _)
theorem dt_lt {a b : Expr} {fa fb : Env → M D} {ca cb f1 f2 : Bool} {pos : Pos} (hu : X.A.units < cLine) (ha : DE X p a fa ca f1) (hb : DE X p b fb cb f2) : DT X p (.Compare a [.Lt] [b] pos) (ap2 ltD fa fb) := dt_2 (fr := true) ok_lt ha hb fun x y => pt_cmpR (op_lt.or (op_ltT hu)) x y (nomark _)
/-- == of data -/
def eqD (d e : D) : Option D := if (SeqAt.shaped d && SeqAt.shaped e && (nod d && nod e)) = true then some (.bool (PyData.eqv d e)) else none
def neD (d e : D) : Option D := if (SeqAt.shaped d && SeqAt.shaped e && (nod d && nod e)) = true then some (.bool (!PyData.eqv d e)) else none
theorem ok_eq : Ok2 X.K p (rEqD X.K) eqD fr := fun F x y H B d1 d2 d Q hp nt hl r1 r2 e q => by
  unfold eqD at e
  by_cases z : (SeqAt.shaped d1 && SeqAt.shaped d2 && (nod d1 && nod d2)) = true
  · rw [if_pos z] at e
    cases e
    simp only [Bool.and_eq_true] at z
    exact ⟨d1, d2, r1.dp hp z.2.1, r2.dp hp z.2.2, z.1.1, z.1.2, q _ _ (Same.refl _) rfl (fun _ z => by cases z)⟩
  · rw [if_neg z] at e; cases e
theorem ok_ne : Ok2 X.K p (rNeD X.K) neD fr := fun F x y H B d1 d2 d Q hp nt hl r1 r2 e q => by
  unfold neD at e
  by_cases z : (SeqAt.shaped d1 && SeqAt.shaped d2 && (nod d1 && nod d2)) = true
  · rw [if_pos z] at e
    cases e
    simp only [Bool.and_eq_true] at z
    exact ⟨d1, d2, r1.dp hp z.2.1, r2.dp hp z.2.2, z.1.1, z.1.2, q _ _ (Same.refl _) rfl (fun _ z => by cases z)⟩
  · rw [if_neg z] at e; cases e
theorem d_eq {a b : Expr} {fa fb : Env → M D} {ca cb f1 f2 : Bool} {pos : Pos} (hu : X.A.units + 64 < cLine) (ha : DE X p a fa ca f1) (hb : DE X p b fb cb f2) : DE X p (.Compare a [.Eq] [b] pos) (ap2 eqD fa fb) false true := d_2 ok_eq ha hb fun x y => pe_cmpR (op_eqD hu) x y (nomark _)
theorem dt_eq {a b : Expr} {fa fb : Env → M D} {ca cb f1 f2 : Bool} {pos : Pos} (hu : X.A.units + 64 < cLine) (ha : DE X p a fa ca f1) (hb : DE X p b fb cb f2) : DT X p (.Compare a [.Eq] [b] pos) (ap2 eqD fa fb) := dt_2 (fr := true) ok_eq ha hb fun x y => pt_cmpR (op_eqD hu) x y (nomark _)
theorem d_ne {a b : Expr} {fa fb : Env → M D} {ca cb f1 f2 : Bool} {pos : Pos} (hu : X.A.units + 64 < cLine) (ha : DE X p a fa ca f1) (hb : DE X p b fb cb f2) : DE X p (.Compare a [.NotEq] [b] pos) (ap2 neD fa fb) false true := d_2 ok_ne ha hb fun x y => pe_cmpR (op_neD hu) x y (nomark _)
theorem dt_ne {a b : Expr} {fa fb : Env → M D} {ca cb f1 f2 : Bool} {pos : Pos} (hu : X.A.units + 64 < cLine) (ha : DE X p a fa ca f1) (hb : DE X p b fb cb f2) : DT X p (.Compare a [.NotEq] [b] pos) (ap2 neD fa fb) := dt_2 (fr := true) ok_ne ha hb fun x y => pt_cmpR (op_neD hu) x y (nomark _)
/-- is None, is a bool -/
def isD (neg : Bool) (d e : D) : Option D := match e with
  | .none => some (.bool (neg != (match d with | .none => true | _ => false)))
  | .bool b => match d with
    | .bool a => some (.bool (neg != decide (a = b)))
    | _ => none
  | _ => none
/-! ### in -/
def inG (neg : Bool) (d e : D) : Option D := match items e with
  | some ds => if (SeqAt.shaped d && SeqAt.shaped e && (nod d && nod e)) = true then some (.bool (neg != ds.any fun z => PyData.eqv z d)) else none
  | _ => none
def rInS (K : PySem.W.Frag) (neg : Bool) : R2 := fun x y H Q => ∃ d e ds, Dp K H x d ∧ Dp K H y e ∧ items e = some ds ∧ SeqAt.shaped d = true ∧ SeqAt.shaped e = true ∧ Q (.bl (neg != ds.any fun z => PyData.eqv z d)) H
theorem op_inS (hu : X.A.units + 65 < cLine) : OpR X (compareOp .In) (rInS X.K false) := by
  intro pins s σ H x y v u Q I rx ry h
  obtain ⟨d, e, ds, hd, he, ei, sd, se, q⟩ := h
  obtain ⟨as, r1⟩ := Dp.reads I d x v hd rx
  obtain ⟨bs, r2⟩ := Dp.reads I e y u he ry
  have q : Q (.bl (ds.any fun z => PyData.eqv z d)) H := by simpa using q
  cases e with
  | list l => cases ei; exact SeqAt.in_list_reads r2 r1 (SeqAt.canLay_of_shaped se) (SeqAt.canLay_of_shaped sd) (room_in_shaped sd hu) ⟨.bl _, H, I, rfl, q⟩
  | tuple l => cases ei; exact SeqAt.in_tuple_reads r2 r1 (SeqAt.canLay_of_shaped se) (SeqAt.canLay_of_shaped sd) (room_in_shaped sd hu) ⟨.bl _, H, I, rfl, q⟩
  | _ => cases ei
theorem op_notInS (hu : X.A.units + 65 < cLine) : OpR X (compareOp .NotIn) (rInS X.K true) := by
  intro pins s σ H x y v u Q I rx ry h
  obtain ⟨d, e, ds, hd, he, ei, sd, se, q⟩ := h
  obtain ⟨as, r1⟩ := Dp.reads I d x v hd rx
  obtain ⟨bs, r2⟩ := Dp.reads I e y u he ry
  have q : Q (.bl (!ds.any fun z => PyData.eqv z d)) H := by simpa using q
  cases e with
  | list l => cases ei; exact SeqAt.notIn_list_reads r2 r1 (SeqAt.canLay_of_shaped se) (SeqAt.canLay_of_shaped sd) (room_in_shaped sd hu) ⟨.bl _, H, I, rfl, q⟩
  | tuple l => cases ei; exact SeqAt.notIn_tuple_reads r2 r1 (SeqAt.canLay_of_shaped se) (SeqAt.canLay_of_shaped sd) (room_in_shaped sd hu) ⟨.bl _, H, I, rfl, q⟩
  | _ => cases ei
theorem ok_in {neg : Bool} : Ok2 X.K p (rInS X.K neg) (inG neg) fr := fun F x y H B d1 d2 d Q hp nt hl r1 r2 e q => by
  unfold inG at e
  cases ei : items d2 with
  | none => rw [ei] at e; cases e
  | some ds =>
    rw [ei] at e
    dsimp only at e
    by_cases z : (SeqAt.shaped d1 && SeqAt.shaped d2 && (nod d1 && nod d2)) = true
    · rw [if_pos z] at e
      cases e
      simp only [Bool.and_eq_true] at z
      exact ⟨d1, d2, ds, r1.dp hp z.2.1, r2.dp hp z.2.2, ei, z.1.1, z.1.2, q _ _ (Same.refl _) rfl (fun _ z => by cases z)⟩
    · rw [if_neg z] at e; cases e
theorem d_in {a b : Expr} {fa fb : Env → M D} {ca cb f1 f2 : Bool} {pos : Pos} (hu : X.A.units + 65 < cLine) (ha : DE X p a fa ca f1) (hb : DE X p b fb cb f2) (hm : behindInMarks .In b = false := by rfl) : DE X p (.Compare a [.In] [b] pos) (ap2 (inG false) fa fb) false true := d_2 ok_in ha hb fun x y => pe_cmpR (op_inS hu) x y hm
theorem dt_in {a b : Expr} {fa fb : Env → M D} {ca cb f1 f2 : Bool} {pos : Pos} (hu : X.A.units + 65 < cLine) (ha : DE X p a fa ca f1) (hb : DE X p b fb cb f2) (hm : behindInMarks .In b = false := by rfl) : DT X p (.Compare a [.In] [b] pos) (ap2 (inG false) fa fb) := dt_2 (fr := true) ok_in ha hb fun x y => pt_cmpR (op_inS hu) x y hm
theorem d_nin {a b : Expr} {fa fb : Env → M D} {ca cb f1 f2 : Bool} {pos : Pos} (hu : X.A.units + 65 < cLine) (ha : DE X p a fa ca f1) (hb : DE X p b fb cb f2) (hm : behindInMarks .NotIn b = false := by rfl) : DE X p (.Compare a [.NotIn] [b] pos) (ap2 (inG true) fa fb) false true := d_2 ok_in ha hb fun x y => pe_cmpR (op_notInS hu) x y hm
theorem dt_nin {a b : Expr} {fa fb : Env → M D} {ca cb f1 f2 : Bool} {pos : Pos} (hu : X.A.units + 65 < cLine) (ha : DE X p a fa ca f1) (hb : DE X p b fb cb f2) (hm : behindInMarks .NotIn b = false := by rfl) : DT X p (.Compare a [.NotIn] [b] pos) (ap2 (inG true) fa fb) := dt_2 (fr := true) ok_in ha hb fun x y => pt_cmpR (op_notInS hu) x y hm
end
end Sd
/-! operations over data, more -/
namespace Sd
open PySem PySem.Spec PyProof.Rows L2
section
variable {X : Cx} {p : Addr} {K : PySem.W.Frag} {c fr : Bool} {f g : Env → M D} {e : Expr}
/-! ### list(..), tuple(..) -/
def listD : List D → Option D
  | [.list ds] => some (.list ds)
  | [.tuple ds] => some (.list ds)
  | _ => none
def tupD : List D → Option D
  | [.list ds] => some (.tuple ds)
  | [.tuple ds] => some (.tuple ds)
  | _ => none
theorem listD_some {ds : List D} {d : D} (h : listD ds = some d) : ∃ xs, d = .list xs ∧ (ds = [.list xs] ∨ ds = [.tuple xs]) := by
  unfold listD at h
  split at h
  · cases h; exact ⟨_, rfl, .inl rfl⟩
  · cases h; exact ⟨_, rfl, .inr rfl⟩
  · cases h
theorem tupD_some {ds : List D} {d : D} (h : tupD ds = some d) : ∃ xs, d = .tuple xs ∧ (ds = [.list xs] ∨ ds = [.tuple xs]) := by
  unfold tupD at h
  split at h
  · cases h; exact ⟨_, rfl, .inl rfl⟩
  · cases h; exact ⟨_, rfl, .inr rfl⟩
  · cases h
theorem new_at {H : Hp} {a : Addr} {d : D} (h : H a = none) : New H (.ref a) d := fun _ => ⟨a, rfl, h⟩
theorem ok_list : OkN X.K p (fun xs H Q => ∃ a ys, xs = [.ref a] ∧ (SqL X.K H a ys ∨ SqT X.K H a ys) ∧ ∀ l, H l = none → Q (.ref l) (upd H l (.lst ys))) listD true := fun F vs H B ds d Q hp nt hl r e q => by
  obtain ⟨xs, rfl, rfl | rfl⟩ := listD_some e
  · obtain ⟨v, rfl, h⟩ := resL1 r
    obtain ⟨a, ws, rfl, _, h1, h2⟩ := h.lst hp
    exact ⟨a, ws, rfl, .inl (.inl (.inl h1)), fun l nl => q _ _ (same_upd nl) (rep_lst nt nl h2) (fun _ => new_at nl)⟩
  · obtain ⟨v, rfl, h⟩ := resL1 r
    obtain ⟨a, ws, rfl, h1, h2⟩ := h.tup
    exact ⟨a, ws, rfl, .inr h1.sq, fun l nl => q _ _ (same_upd nl) (rep_lst nt nl h2) (fun _ => new_at nl)⟩
theorem ok_tup : OkN X.K p (fun xs H Q => ∃ a ys, xs = [.ref a] ∧ ((SqL X.K H a ys ∧ ∀ p o, H p = none → TupO ys o → Q (.ref p) (upd H p o)) ∨ (SqT X.K H a ys ∧ Q (.ref a) H))) tupD true := fun F vs H B ds d Q hp nt hl r e q => by
  obtain ⟨xs, rfl, rfl | rfl⟩ := tupD_some e
  · obtain ⟨v, rfl, h⟩ := resL1 r
    obtain ⟨a, ws, rfl, _, h1, h2⟩ := h.lst hp
    exact ⟨a, ws, rfl, .inl ⟨.inl (.inl h1), fun l o nl ho => q _ _ (same_upd nl) (rep_tup nt nl ho h2) (fun _ z => by cases z)⟩⟩
  · obtain ⟨v, rfl, h⟩ := resL1 r
    have rr := h.imm1 (fun _ z => by cases z) (fun _ z => by cases z)
    obtain ⟨a, ws, rfl, h1, h2⟩ := h.tup
    exact ⟨a, ws, rfl, .inr ⟨h1.sq, q _ _ (Same.refl _) rr (fun _ z => by cases z)⟩⟩
/-! ### all, any -/
def boolsOf : List D → Option (List Bool)
  | [] => some []
  | .bool i :: r => (boolsOf r).map (i :: ·)
  | _ => none
theorem boolsOf_rep {H : Hp} : ∀ {ds : List D} {ns : List Bool} {vs : List V}, boolsOf ds = some ns → RepL K p ds H vs → vs = ns.map V.bl
  | [], _, _, e, r => by cases e; exact r
  | d :: ds, ns, _, e, r => by
    obtain ⟨v, vr, rfl, h1, h2⟩ := r
    cases d with
    | bool i =>
      have e' : (boolsOf ds).map (i :: ·) = some ns := e
      cases z : boolsOf ds with
      | none => rw [z] at e'; cases e'
      | some ms =>
        rw [z] at e'; cases e'
        rw [show v = V.bl i from h1, boolsOf_rep z h2]; rfl
    | _ => cases e
def allD : List D → Option D
  | [.list ds] => (boolsOf ds).map fun bs => .bool (bs.all id)
  | _ => none
def anyD : List D → Option D
  | [.list ds] => (boolsOf ds).map fun bs => .bool (bs.any id)
  | _ => none
theorem boolsD_some {h : List Bool → Bool} {ds : List D} {d : D} (e : (match ds with | [.list ds] => (boolsOf ds).map fun bs => PyData.bool (h bs) | _ => none) = some d) : ∃ xs bs, ds = [.list xs] ∧ boolsOf xs = some bs ∧ d = .bool (h bs) := by
  split at e
  · rename_i xs
    cases z : boolsOf xs with
    | none => rw [z] at e; cases e
    | some bs => rw [z] at e; cases e; exact ⟨xs, bs, rfl, z, rfl⟩
  · cases e
theorem ok_all : OkN X.K p (rAll X.K) allD fr := fun F vs H B ds d Q hp nt hl r e q => by
  obtain ⟨xs, bs, rfl, z, rfl⟩ := boolsD_some (h := fun bs => bs.all id) e
  obtain ⟨v, rfl, h⟩ := resL1 r
  obtain ⟨a, ws, rfl, _, h1, h2⟩ := h.lst hp
  have e1 := boolsOf_rep z h2
  subst e1
  exact ⟨a, bs, rfl, .inl (.inl h1), q _ _ (Same.refl _) rfl (fun _ z => by cases z)⟩
theorem ok_any : OkN X.K p (rAny X.K) anyD fr := fun F vs H B ds d Q hp nt hl r e q => by
  obtain ⟨xs, bs, rfl, z, rfl⟩ := boolsD_some (h := fun bs => bs.any id) e
  obtain ⟨v, rfl, h⟩ := resL1 r
  obtain ⟨a, ws, rfl, _, h1, h2⟩ := h.lst hp
  have e1 := boolsOf_rep z h2
  subst e1
  exact ⟨a, bs, rfl, .inl (.inl h1), q _ _ (Same.refl _) rfl (fun _ z => by cases z)⟩
/-! ### subscripts -/
def atD (ds : List D) (i : Int) : Option D := atI ds i
def ixD (d i : D) : Option D := match items d, i with
  | some ds, .int k => atI ds k
  | _, _ => none
theorem RepL.atI {H : Hp} {ds : List D} {vs : List V} {i : Int} {d : D} (r : RepL K p ds H vs) (h : L2.atI ds i = some d) : ∃ v, L2.atI vs i = some v ∧ Rep K p d H v := by
  unfold L2.atI at h ⊢
  rw [r.length]
  cases z : ixN ds.length i with
  | none => rw [z] at h; cases h
  | some j =>
    rw [z] at h
    obtain ⟨v, h1, h2⟩ := r.get (show ds[j]? = some d from h)
    exact ⟨v, h1, h2⟩
theorem ok_ix : Ok2 X.K p (fun x y H Q => rIxL X.K x y H Q ∨ rIxT X.K x y H Q) ixD false := fun F x y H B d1 d2 d Q hp nt hl r1 r2 e q => by
  unfold ixD at e
  cases d2 with
  | int k =>
    cases d1 with
    | list ds =>
      obtain ⟨a, vs, rfl, _, h1, h2⟩ := r1.lst hp
      obtain ⟨v, g1, g2⟩ := h2.atI (show L2.atI ds k = some d from e)
      exact .inl ⟨a, vs, k, v, rfl, r2.int, .inl (.inl h1), g1, q _ _ (Same.refl _) g2 (fun z => by cases z)⟩
    | tuple ds =>
      obtain ⟨a, vs, rfl, h1, h2⟩ := r1.tup
      obtain ⟨v, g1, g2⟩ := h2.atI (show L2.atI ds k = some d from e)
      exact .inr ⟨a, vs, k, v, rfl, r2.int, h1.sq, g1, q _ _ (Same.refl _) g2 (fun z => by cases z)⟩
    | _ => cases e
  | _ => cases d1 <;> cases e
theorem d_ix {a b : Expr} {fa fb : Env → M D} {ca cb f1 f2 : Bool} {pos : Pos} (ha : DE X p a fa ca f1) (hb : DE X p b fb cb f2) (hs : PlainIx b := by exact fun _ _ => rfl) : DE X p (.Subscript a b pos) (ap2 ixD fa fb) false false := d_2 ok_ix ha hb fun x y => pe_ix (ix_list.or ix_tup) x y hs
/-- a slice -/
def cutD (xs : List D) (lo hi : Option Int) : List D := (xs.drop (HT.sIx xs.length 0 lo)).take (HT.sIx xs.length xs.length hi - HT.sIx xs.length 0 lo)
def slD (d : D) (lo hi : Option Int) : Option D := match d with
  | .list ds => some (.list (cutD ds lo hi))
  | .tuple ds => some (.tuple (cutD ds lo hi))
  | _ => none
theorem RepL.cut {H : Hp} {ds : List D} {vs : List V} (r : RepL K p ds H vs) (lo hi : Option Int) : RepL K p (cutD ds lo hi) H (cutV vs lo hi) := by
  unfold cutD cutV
  rw [r.length]
  exact RepL.take _ (RepL.drop _ r)
/-- an end of a slice: left out, or a number -/
abbrev OE := Env → M (Option Int)
def noO : OE := fun _ => M.pure none
def soO (f : Env → M D) : OE := fun ρ => M.bind (f ρ) fun d => match d with
  | .int i => M.pure (some i)
  | _ => M.fail
def tO (K : PySem.W.Frag) (p : Addr) (f : OE) : TO := fun σ H Q => HL H → ∃ (F : Addr → Prop) (ρ : Env) (B : List Addr) (q : Pot) (o : Option Int) (q' : Pot), Pre K p F H B σ ρ q ∧ f ρ q = some (o, q') ∧ ∀ H', HL H' → Stp p H H' → H' p = some (potV q') → Q o H'
structure DO (X : Cx) (p : Addr) (e : Option Expr) (f : OE) : Prop where
  po : PO X e (tO X.K p f)
theorem poHL {e : Option Expr} {t t' : TO} (h : PO X e t) (imp : ∀ σ H Q, HL H → t' σ H Q → t σ H (fun v H' => HL H' → Q v H')) : PO X e t' :=
  ⟨fun pins s σ H Q I hw => thn (h.run pins s σ H _ I (imp σ H Q (HL_of I.hok) hw)) fun _ _ ⟨v, H', I', r, q⟩ => ⟨v, H', I', r, q (HL_of I'.hok)⟩⟩
theorem do_none : DO X p none noO := ⟨poHL po_none fun σ H Q hl t => by
  obtain ⟨F, ρ, B, q, o, q', k1, k2, k3⟩ := t hl
  obtain ⟨rfl, rfl⟩ := M.pure_some k2
  exact fun l => k3 H l Stp.refl k1.pot⟩
theorem do_some (h : DE X p e f c fr) : DO X p (some e) (soO f) := ⟨poHL (po_some h.pe) fun σ H Q hl t => by
  obtain ⟨F, ρ, B, q, o, q', k1, k2, k3⟩ := t hl
  obtain ⟨d, q1, e1, k2⟩ := M.bind_some k2
  cases d with
  | int i =>
    obtain ⟨rfl, rfl⟩ := M.pure_some k2
    exact fun _ => ⟨F, ρ, B, q, _, _, k1, e1, fun v H1 l1 s1 p1 r1 _ => ⟨i, r1.cons.int, fun l => k3 H1 l s1 p1⟩⟩
  | _ => cases k2⟩
def sliE (f : Env → M D) (lo hi : OE) : Env → M D := fun ρ => M.bind (f ρ) fun d => M.bind (lo ρ) fun l => M.bind (hi ρ) fun h => M.of (slD d l h)
theorem d_sl {a : Expr} {lo hi : Option Expr} {fl fh : OE} {p2 pos : Pos} (ha : DE X p a f c fr) (hl : DO X p lo fl) (hh : DO X p hi fh) : DE X p (.Subscript a (.Slice lo hi none p2) pos) (sliE f fl fh) false false :=
  ⟨peHL (pe_slice (sl_list.or sl_tupO) ha.pe hl.po hh.po) fun σ H Q hl t => by
    obtain ⟨F, ρ, B, q, d, q', k1, k2, k3⟩ := t hl
    obtain ⟨d1, q1, e1, k2⟩ := M.bind_some k2
    obtain ⟨l, q2, e2, k2⟩ := M.bind_some k2
    obtain ⟨h, q3, e3, k2⟩ := M.bind_some k2
    obtain ⟨e4, rfl⟩ := M.of_some k2
    refine fun _ => ⟨F, ρ, B, q, d1, q1, k1, e1, fun x H1 l1 s1 p1 r1 _ _ => ⟨F, ρ, B, q1, l, q2, k1.stp s1 p1, e2, fun H2 l2 s2 p2 _ => ⟨F, ρ, B, q2, h, _, (k1.stp s1 p1).stp s2 p2, e3, fun H3 l3 s3 p3 => ?_⟩⟩⟩
    have nt := (((k1.stp s1 p1).stp s2 p2).stp s3 p3).nt
    have s13 := (s1.trans s2).trans s3
    have rc := RepC.stp (s2.trans s3) k1.pB r1.cons
    cases d1 with
    | list ds =>
      cases e4
      obtain ⟨a, vs, rfl, _, h1, h2⟩ := rc.lst k1.pB
      exact .inl ⟨a, vs, rfl, .inl (.inl h1), fun b nb l' => k3 _ _ l' (s13.trans (Stp.of (same_upd nb))) (same_upd nb _ _ p3) (rep_lst nt nb (h2.cut l h)) (fun z => by cases z)⟩
    | tuple ds =>
      cases e4
      have rr := rc.imm1 (fun _ z => by cases z) (fun _ z => by cases z)
      obtain ⟨a, vs, rfl, h1, h2⟩ := rc.tup
      refine .inr ⟨a, vs, rfl, h1.sq, fun w l' => k3 _ _ l' s13 p3 ?_ (fun z => by cases z), fun w b o nb ho l' => k3 _ _ l' (s13.trans (Stp.of (same_upd nb))) (same_upd nb _ _ p3) (rep_tup nt nb ho (h2.cut l h)) (fun z => by cases z)⟩
      have e : cutD ds l h = ds := by
        unfold cutD
        rw [h2.length] at w
        rw [w.1, w.2, List.drop_zero, Nat.sub_zero, List.take_length]
      rw [e]
      exact rr
    | _ => cases e4⟩
/-! ### a <= b <= c -/
def chainE (g1 g2 : D → D → Option D) (f1 f2 f3 : Env → M D) : Env → M D := fun ρ => M.bind (f1 ρ) fun x => M.bind (f2 ρ) fun y => M.bind (M.of (g1 x y)) fun z => match z with
  | .bool true => M.bind (f3 ρ) fun w => M.of (g2 y w)
  | .bool false => M.pure (.bool false)
  | _ => M.fail
theorem chain_read {r1 r2 : R2} {g1 g2 : D → D → Option D} {f1 f2 f3 : Env → M D} {c1 c2 c3 b1 b2 b3 : Bool} (ok1 : Ok2 X.K p r1 g1 true) (ok2 : Ok2 X.K p r2 g2 true) {σ : L2.St} {H : Hp} {Q Q' : VK}
    (t : ∃ (F : Addr → Prop) (ρ : Env) (B : List Addr) (q : Pot) (d : D) (q' : Pot), Pre X.K p F H B σ ρ q ∧ chainE g1 g2 f1 f2 f3 ρ q = some (d, q') ∧ ∀ v H', Stp p H H' → H' p = some (potV q') → Rep X.K p d (hide H' B) v → Q v H') :
    tChain r1 r2 (tE X.K p f1 c1 b1) (tE X.K p f2 c2 b2) (tE X.K p f3 c3 b3) σ H Q := by
  obtain ⟨F, ρ, B, q, d, q', k1, k2, k3⟩ := t
  obtain ⟨x, q1, e1, k2⟩ := M.bind_some k2
  obtain ⟨y, q2, e2, k2⟩ := M.bind_some k2
  obtain ⟨z, q3, e0, k4⟩ := M.bind_some k2
  clear k2
  obtain ⟨e3, rfl⟩ := M.of_some e0
  clear e0
  refine fun _ => ⟨F, ρ, B, q, x, q1, k1, e1, fun vx H1 l1 s1 p1 rx _ _ => ⟨F, ρ, B, q1, y, _, k1.stp s1 p1, e2, fun vy H2 l2 s2 p2 ry _ => ?_⟩⟩
  have K2 := (k1.stp s1 p1).stp s2 p2
  refine ok1 F vx vy H2 B x y z _ k1.pB K2.nt l2 (RepC.stp s2 k1.pB rx.cons) ry.cons e3 fun v H3 s3 rz _ => ?_
  have p3 : H3 p = some (potV _) := s3 _ _ p2
  have st : Stp p H H3 := (s1.trans s2).trans (Stp.of s3)
  cases z with
  | bool b =>
    refine ⟨b, rz, ?_⟩
    cases b with
    | false =>
      obtain ⟨rfl, rfl⟩ := M.pure_some k4
      rw [if_neg Bool.false_ne_true]
      exact k3 _ H3 st p3 rfl
    | true =>
      obtain ⟨w, q4, e4, k4⟩ := M.bind_some k4
      obtain ⟨e5, rfl⟩ := M.of_some k4
      rw [if_pos rfl]
      refine fun _ => ⟨F, ρ, B, _, w, _, K2.stp (Stp.of s3) p3, e4, fun vw H4 l4 s4 p4 rw4 _ => ?_⟩
      refine ok2 F vy vw H4 B y w d _ k1.pB ((K2.stp (Stp.of s3) p3).stp s4 p4).nt l4 (RepC.stp ((Stp.of s3).trans s4) k1.pB ry.cons) rw4.cons e5 fun v5 H5 s5 r5 _ => ?_
      exact k3 _ H5 (st.trans (s4.trans (Stp.of s5))) (s5 _ _ p4) r5
  | _ => cases k4
theorem d_chain {op op' : CmpOp} {r1 r2 : R2} {g1 g2 : D → D → Option D} {a b d : Expr} {f1 f2 f3 : Env → M D} {c1 c2 c3 b1 b2 b3 : Bool} {pos : Pos} (ok1 : Ok2 X.K p r1 g1 true) (ok2 : Ok2 X.K p r2 g2 true) (ha : DE X p a f1 c1 b1) (hb : DE X p b f2 c2 b2) (hc : DE X p d f3 c3 b3)
    (t : ∀ {ta tb tc : TE}, PE X a ta → PE X b tb → PE X d tc → PE X (.Compare a [op, op'] [b, d] pos) (tChain r1 r2 ta tb tc)) : DE X p (.Compare a [op, op'] [b, d] pos) (chainE g1 g2 f1 f2 f3) false false :=
  ⟨peHL (t ha.pe hb.pe hc.pe) fun σ H Q hl t => by
    obtain ⟨F, ρ, B, q, d, q', k1, k2, k3⟩ := t hl
    exact chain_read (Q' := Q) ok1 ok2 ⟨F, ρ, B, q, d, q', k1, k2, fun v H' s hq r l => k3 v H' l s hq r (fun z => by cases z)⟩⟩
theorem d_lele {a b d : Expr} {f1 f2 f3 : Env → M D} {c1 c2 c3 b1 b2 b3 : Bool} {pos : Pos} (ha : DE X p a f1 c1 b1) (hb : DE X p b f2 c2 b2) (hc : DE X p d f3 c3 b3) (hm : lastMarks [.LtE, .LtE] [b, d] = false := by rfl) : DE X p (.Compare a [.LtE, .LtE] [b, d] pos) (chainE leD leD f1 f2 f3) false false :=
  d_chain ok_cmp ok_cmp ha hb hc fun x y z => pe_chain op_le op_le x y z hm
theorem d_lelt {a b d : Expr} {f1 f2 f3 : Env → M D} {c1 c2 c3 b1 b2 b3 : Bool} {pos : Pos} (hu : X.A.units < cLine) (ha : DE X p a f1 c1 b1) (hb : DE X p b f2 c2 b2) (hc : DE X p d f3 c3 b3) (hm : lastMarks [.LtE, .Lt] [b, d] = false := by rfl) : DE X p (.Compare a [.LtE, .Lt] [b, d] pos) (chainE leD ltD f1 f2 f3) false false :=
  d_chain ok_cmp ok_lt ha hb hc fun x y z => pe_chain op_le (op_lt.or (op_ltT hu)) x y z hm
/-! ### isinstance -/
def tyD : D → String
  | .none => "NoneType"
  | .bool _ => "bool"
  | .int _ => "int"
  | .str _ => "str"
  | .list _ => "list"
  | .tuple _ => "tuple"
  | .dict _ => "dict"
def notPot : D → Bool
  | .dict kvs => !isPot kvs
  | _ => true
def isiD (n : String) (d : D) : Option D := if notPot d = true then (kitB (tyD d) n).map .bool else none
theorem RepC.ty {F : Addr → Prop} {H : Hp} {B : List Addr} {d : D} {v : V} (hp : p ∈ B) (hd : notPot d = true) (h : RepC K p F H B d v) : TyX K H v (.type (tyD d)) := by
  cases d with
  | none => rw [h.none]; exact .base .non
  | bool b => rw [h.bool]; exact .base (.bl b)
  | int b => rw [h.int]; exact .base (.int b)
  | str b => rw [h.str]; exact .base (.str b)
  | list ds => obtain ⟨a, vs, rfl, _, h1, _⟩ := h.lst hp; exact .base (.lst h1)
  | tuple ds =>
    obtain ⟨a, vs, rfl, h1, _⟩ := h.tup
    rcases h1.two with h1 | ⟨o, h1⟩
    · exact .base (.tup h1)
    · exact .fTuple h1
  | dict kvs =>
    obtain ⟨a, vs, rfl, h1, _⟩ := h.dic (by simpa [notPot] using hd)
    rcases h1 with ⟨_, _, _, h1⟩ | ⟨_, _, _, h1⟩
    · exact .base (.dK h1)
    · exact .base (.dT h1)
theorem isiD_some {n : String} {d r : D} (h : isiD n d = some r) : notPot d = true ∧ ∃ b, kitB (tyD d) n = some b ∧ r = .bool b := by
  unfold isiD at h
  by_cases z : notPot d = true
  · rw [if_pos z] at h
    cases y : kitB (tyD d) n with
    | none => rw [y] at h; cases h
    | some b => rw [y] at h; cases h; exact ⟨z, b, rfl, rfl⟩
  · rw [if_neg z] at h; cases h
theorem d_isi {e1 e2 : Expr} {np pos : Pos} (n : String) (hg : Gl X "isinstance") (hm : X.mg "isinstance" = none) (h1 : DE X p e1 f c fr) (h2 : PE X e2 (tC (.ty n)))
    (s1 : starEach [e1, e2] X.env = (false, eval e1 X.env) :: starEach [e2] X.env := by rfl) (s2 : starEach [e2] X.env = (false, eval e2 X.env) :: starEach [] X.env := by rfl) (hpl : (backTo pos (starEach [e2] X.env)).any (·.1) = false := by rfl) :
    DE X p (.Call (.Name "isinstance" np) [e1, e2] [] pos) (ap1 (isiD n) f) false true :=
  ⟨peHL (pe_callB call_isi hg hm (by decide +kernel) (pa_cons h1.pe (pa_cons h2 pa_nil s2) s1) (by decide) (by decide) s1 hpl) fun σ H Q hl t => by
    obtain ⟨F, ρ, B, q, d, q', k1, k2, k3⟩ := t hl
    obtain ⟨d1, q1, e3, k2⟩ := M.bind_some k2
    obtain ⟨e4, rfl⟩ := M.of_some k2
    obtain ⟨np, b, kb, rfl⟩ := isiD_some e4
    exact fun _ => ⟨F, ρ, B, q, d1, _, k1, e3, fun v H1 l1 s1 p1 r1 _ => ⟨v, .ty n, _, _, b, rfl, .ty n, r1.cons.ty k1.pB np, kit_ty kb, fun l => k3 _ H1 l s1 p1 (Res.of rfl) (fun _ z => by cases z)⟩⟩⟩
/-- isinstance(x, (S, T)) -/
def isiD2 (n m : String) (d : D) : Option D := if notPot d = true then (match kitB (tyD d) n, kitB (tyD d) m with
  | some a, some b => some (.bool (a || b))
  | _, _ => none) else none
theorem d_isi2 {e1 e2 e3 : Expr} {np pos tpos : Pos} {tk : Nat} (n m : String) (hg : Gl X "isinstance") (hm : X.mg "isinstance" = none) (h1 : DE X p e1 f c fr) (h2 : PE X e2 (tC (.ty n))) (h3 : PE X e3 (tC (.ty m)))
    (s1 : starEach [e1, .Tuple [e2, e3] tk tpos] X.env = (false, eval e1 X.env) :: starEach [.Tuple [e2, e3] tk tpos] X.env := by rfl) (s2 : starEach [.Tuple [e2, e3] tk tpos] X.env = (false, eval (.Tuple [e2, e3] tk tpos) X.env) :: starEach [] X.env := by rfl)
    (s3 : starEach [e2, e3] X.env = (false, eval e2 X.env) :: starEach [e3] X.env := by rfl) (s4 : starEach [e3] X.env = (false, eval e3 X.env) :: starEach [] X.env := by rfl) (hpl : (backTo pos (starEach [.Tuple [e2, e3] tk tpos] X.env)).any (·.1) = false := by rfl) :
    DE X p (.Call (.Name "isinstance" np) [e1, .Tuple [e2, e3] tk tpos] [] pos) (ap1 (isiD2 n m) f) false true :=
  ⟨peHL (pe_callB call_isiT hg hm (by decide +kernel) (pa_cons h1.pe (pa_cons (pe_tup (pa_cons h2 (pa_cons h3 pa_nil s4) s3)) pa_nil s2) s1) (by decide) (by decide) s1 hpl) fun σ H Q hl t => by
    obtain ⟨F, ρ, B, q, d, q', k1, k2, k3⟩ := t hl
    obtain ⟨d1, q1, e3, k2⟩ := M.bind_some k2
    obtain ⟨e4, rfl⟩ := M.of_some k2
    unfold isiD2 at e4
    by_cases z : notPot d1 = true
    · rw [if_pos z] at e4
      cases y1 : kitB (tyD d1) n with
      | none => rw [y1] at e4; cases e4
      | some a =>
        cases y2 : kitB (tyD d1) m with
        | none => rw [y1, y2] at e4; cases e4
        | some b =>
          rw [y1, y2] at e4
          cases e4
          refine fun _ => ⟨F, ρ, B, q, d1, _, k1, e3, fun v H1 l1 s1 p1 r1 _ => ⟨by show 2 ≤ sizeLine; decide, fun t nt => ?_⟩⟩
          have K1 := k1.stp s1 p1
          have st := same_upd (o := .tup [.ty n, .ty m]) nt
          have K2 := K1.stp (Stp.of st) (st _ _ p1)
          have rc := RepC.stp (Stp.of st) k1.pB r1.cons
          have kk : PySem.W.kitAny X.K (.type (tyD d1)) [.type n, .type m] = some (a || b) := by
            refine kitAny_cons (kit_ty y1) (fun ea => ?_) (fun ea => by rw [ea]; rfl)
            rw [ea, Bool.false_or]
            refine kitAny_cons (kit_ty y2) (fun eb => ?_) (fun eb => eb)
            rw [eb]; exact kitAny_nil
          exact ⟨v, t, [.ty n, .ty m], _, _, _, rfl, upd_same, .cons (.ty n) (.cons (.ty m) .nil), rc.ty k1.pB z, kk, fun l => k3 _ _ l (s1.trans (Stp.of st)) (st _ _ p1) (Res.of rfl) (fun _ z => by cases z)⟩
    · rw [if_neg z] at e4; cases e4⟩
/-! ### is -/
def rIs (neg : Bool) : R2 := fun x y H Q => (y = .non ∧ Q (.bl (neg != decide (x = .non))) H) ∨ ∃ a b, x = .bl a ∧ y = .bl b ∧ Q (.bl (neg != decide (a = b))) H
theorem op_isS : OpR X (compareOp .Is) (rIs false) := by
  intro pins s σ H x y v u Q I rx ry h
  rcases h with ⟨h1, h2⟩ | ⟨a, b, h1, h2, h3⟩
  · exact op_isN pins s σ H x y v u Q I rx ry ⟨h1, by simpa using h2⟩
  · exact op_is_bl pins s σ H x y v u Q I rx ry ⟨a, b, h1, h2, by simpa using h3⟩
theorem op_isnotS : OpR X (compareOp .IsNot) (rIs true) := by
  intro pins s σ H x y v u Q I rx ry h
  rcases h with ⟨h1, h2⟩ | ⟨a, b, h1, h2, h3⟩
  · exact op_notN pins s σ H x y v u Q I rx ry ⟨h1, by simpa using h2⟩
  · exact op_isnot_bl pins s σ H x y v u Q I rx ry ⟨a, b, h1, h2, by simpa using h3⟩
def isNone : D → Bool
  | .none => true
  | _ => false
def isG (neg : Bool) (d e : D) : Option D := match e with
  | .none => some (.bool (neg != isNone d))
  | .bool b => match d with
    | .bool a => some (.bool (neg != decide (a = b)))
    | _ => none
  | _ => none
theorem RepC.isN {F : Addr → Prop} {H : Hp} {B : List Addr} {d : D} {v : V} (h : RepC K p F H B d v) : decide (v = .non) = isNone d := by
  cases d with
  | none => rw [h.none]; rfl
  | bool b => rw [h.bool]; rfl
  | int b => rw [h.int]; rfl
  | str b => rw [h.str]; rfl
  | list ds => rcases h with ⟨a, vs, rfl, _⟩ | ⟨a, rfl, _⟩ <;> rfl
  | tuple ds => obtain ⟨a, vs, rfl, _⟩ := h.tup; rfl
  | dict kvs => rcases h with (⟨_, rfl⟩ | ⟨_, a, vs, rfl, _⟩) | ⟨a, rfl, _⟩ <;> rfl
theorem ok_is {neg : Bool} : Ok2 X.K p (rIs neg) (isG neg) fr := fun F x y H B d1 d2 d Q hp nt hl r1 r2 e q => by
  cases d2 with
  | none =>
    cases e
    exact .inl ⟨r2.none, q _ _ (Same.refl _) (by rw [r1.isN]; rfl) (fun _ z => by cases z)⟩
  | bool b =>
    cases d1 with
    | bool a => cases e; exact .inr ⟨a, b, r1.bool, r2.bool, q _ _ (Same.refl _) rfl (fun _ z => by cases z)⟩
    | _ => cases e
  | _ => cases e
theorem d_is {a b : Expr} {fa fb : Env → M D} {ca cb f1 f2 : Bool} {pos : Pos} (ha : DE X p a fa ca f1) (hb : DE X p b fb cb f2) : DE X p (.Compare a [.Is] [b] pos) (ap2 (isG false) fa fb) false true := d_2 ok_is ha hb fun x y => pe_cmpR op_isS x y (nomark _)
theorem dt_is {a b : Expr} {fa fb : Env → M D} {ca cb f1 f2 : Bool} {pos : Pos} (ha : DE X p a fa ca f1) (hb : DE X p b fb cb f2) : DT X p (.Compare a [.Is] [b] pos) (ap2 (isG false) fa fb) := dt_2 (fr := true) ok_is ha hb fun x y => pt_cmpR op_isS x y (nomark _)
theorem d_isnot {a b : Expr} {fa fb : Env → M D} {ca cb f1 f2 : Bool} {pos : Pos} (ha : DE X p a fa ca f1) (hb : DE X p b fb cb f2) : DE X p (.Compare a [.IsNot] [b] pos) (ap2 (isG true) fa fb) false true := d_2 ok_is ha hb fun x y => pe_cmpR op_isnotS x y (nomark _)
theorem dt_isnot {a b : Expr} {fa fb : Env → M D} {ca cb f1 f2 : Bool} {pos : Pos} (ha : DE X p a fa ca f1) (hb : DE X p b fb cb f2) : DT X p (.Compare a [.IsNot] [b] pos) (ap2 (isG true) fa fb) := dt_2 (fr := true) ok_is ha hb fun x y => pt_cmpR op_isnotS x y (nomark _)
/-! ### index -/
def firstAt (d : D) : List D → Nat → Option Nat
  | [], _ => none
  | x :: xs, i => if PyData.eqv x d = true then some i else firstAt d xs (i + 1)
def indexD (l d : D) : Option D := match items l with
  | some ds => if (SeqAt.shaped l && SeqAt.shaped d && (nod l && nod d)) = true then (firstAt d ds 0).map fun i => .int (i : Nat) else none
  | none => none
/-! ### repr -/
end
end Sd
/-! repr, sorted, index, ranges as values, lists that grow -/
namespace Sd
open PySem PySem.Spec PyProof.Rows L2
section
variable {X : Cx} {p : Addr} {K : PySem.W.Frag} {c fr : Bool} {f g : Env → M D} {e : Expr}
/-! ### repr -/
mutual
theorem nod_nodict : ∀ {d : D}, nod d = true → d.hasDict = false
  | .none, _ => by simp [PyData.hasDict]
  | .bool _, _ => by simp [PyData.hasDict]
  | .int _, _ => by simp [PyData.hasDict]
  | .str _, _ => by simp [PyData.hasDict]
  | .list ds, h => by simp only [PyData.hasDict]; exact nodL_nodict (by simpa [nod] using h)
  | .tuple ds, h => by simp only [PyData.hasDict]; exact nodL_nodict (by simpa [nod] using h)
  | .dict _, h => by simp [nod] at h
theorem nodL_nodict : ∀ {ds : List D}, nodL ds = true → PyData.hasDictAll ds = false
  | [], _ => by simp [PyData.hasDictAll]
  | d :: ds, h => by
    simp only [nodL, Bool.and_eq_true] at h
    simp only [PyData.hasDictAll, nod_nodict h.1, nodL_nodict h.2, Bool.or_false]
end
def okR (d : D) : Bool := (isLT d && nod d) && (d.showable && (decide (d.depth ≤ 60) && decide (d.shown.length ≤ 1000000)))
where isLT : D → Bool
  | .list _ => true
  | .tuple _ => true
  | _ => false
def reprD : List D → Option D
  | [d] => if okR d = true then some (.str d.shown) else none
  | _ => none
def rReprD (K : PySem.W.Frag) : List V → Hp → VK → Prop := fun xs H Q => ∃ x d, xs = [x] ∧ Dp K H x d ∧ okR d = true ∧ Q (.str d.shown) H
theorem cr_repr (hg : X.A.guards = some []) (hu : X.A.units + 64 < cLine) : CallR X (.builtin "repr") (rReprD X.K) := by
  intro pins s σ H xs us Q I r h
  obtain ⟨x, d, rfl, hd, ok, q⟩ := h
  obtain ⟨u, rfl, ru⟩ := vals1 r
  obtain ⟨as, rd⟩ := Dp.reads I d x u hd ru
  unfold okR at ok
  simp only [Bool.and_eq_true, decide_eq_true_eq] at ok
  obtain ⟨⟨lt, nd⟩, sh, dp, ln⟩ := ok
  have go : ∀ a, u = .ref a → wpAny (model X.prog X.w) X.A (call (.builtin "repr") [u]) (EP X pins σ Q) X.xe s := fun a ea => by
    subst ea
    refine repr_of_reads' (h₀ := s.heap) rd sh (fun z => by rw [nod_nodict nd] at z; cases z) hg (by omega) (fun _ _ z => z) (fun h' t tk hk => ?_) (by have := sz6; omega)
    exact ⟨.str d.shown, H, I.kept hk, ⟨_, rfl⟩, q⟩
  cases d with
  | list ds => cases hd with | lst _ _ => cases ru; exact go _ rfl
  | tuple ds => cases hd with | tup _ _ => cases ru; exact go _ rfl
  | _ => cases lt
theorem ok_repr : OkN X.K p (rReprD X.K) reprD fr := fun F vs H B ds d Q hp nt hl r e q => by
  match ds with
  | [d1] =>
    have e' : (if okR d1 = true then some (PyData.str d1.shown) else none) = some d := e
    by_cases z : okR d1 = true
    · rw [if_pos z] at e'
      cases e'
      obtain ⟨v, rfl, h⟩ := resL1 r
      have nd : nod d1 = true := by
        unfold okR at z
        simp only [Bool.and_eq_true] at z
        exact z.1.2
      exact ⟨v, d1, rfl, h.dp hp nd, z, q _ _ (Same.refl _) rfl (fun _ z => by cases z)⟩
    · rw [if_neg z] at e'; cases e'
  | [] => cases e
  | _ :: _ :: _ => cases e
/-! ### sorted -/
open PySem.W (AllAlike Sortable EachIs dataLe alike)
def alikeB (ds : List D) : Bool := ds.all fun d => ds.all fun e => PySem.W.alike d e
def sortB (ds : List D) : Bool := (ds.all fun d => match d with | .tuple (_ :: _) => true | _ => false) || (ds.all fun d => match d with | .none => false | .tuple _ => false | _ => true)
def okS (ds : List D) : Bool := alikeB ds && (sortB ds && (nodL ds && ds.all fun d => decide (d.depth ≤ 60)))
def leS : D → D → Bool := dataLe false (fun d : D => d)
theorem okS_some {ds : List D} (h : okS ds = true) : AllAlike ds ∧ Sortable ds ∧ nodL ds = true ∧ ∀ d ∈ ds, d.depth ≤ 60 := by
  unfold okS at h
  simp only [Bool.and_eq_true] at h
  obtain ⟨h1, h2, h3, h4⟩ := h
  refine ⟨fun d hd e he => ?_, ?_, h3, fun d hd => by simpa using List.all_eq_true.mp h4 d hd⟩
  · exact List.all_eq_true.mp (List.all_eq_true.mp h1 d hd) e he
  · unfold sortB at h2
    rw [Bool.or_eq_true] at h2
    rcases h2 with h2 | h2
    · refine .inl fun d hd => ?_
      have z := List.all_eq_true.mp h2 d hd
      cases d with
      | tuple xs =>
        cases xs with
        | nil => cases z
        | cons x r => exact ⟨x, r, rfl⟩
      | _ => cases z
    · refine .inr fun d hd => ?_
      have z := List.all_eq_true.mp h2 d hd
      cases d with
      | none => cases z
      | tuple _ => cases z
      | _ => exact ⟨fun z => (by cases z), fun xs z => (by cases z)⟩
def srt (ds : List D) : List D := ds.mergeSort leS
def sortedD : List D → Option D
  | [.list ds] => if okS ds = true then some (.list (srt ds)) else none
  | _ => none
/-- the values beside what they stand for -/
def srtV (xs : List V) (ds : List D) : List V := ((xs.zip ds).mergeSort (dataLe false (fun z : V × D => z.2))).map (·.1)
theorem srtV_data (xs : List V) (ds : List D) (h : xs.length = ds.length) : ((xs.zip ds).mergeSort (dataLe false (fun z : V × D => z.2))).map (·.2) = srt ds := by
  unfold srt leS
  rw [PySem.W.sort_maps (r := dataLe false (fun z : V × D => z.2)) (s := dataLe false (fun d : D => d)) (·.2) (fun _ _ _ _ => rfl), List.map_snd_zip (Nat.le_of_eq h.symm)]
def rSortedD (K : PySem.W.Frag) : List V → Hp → VK → Prop := fun vs H Q => ∃ (a : Addr) (xs : List V) (ds : List D), vs = [.ref a] ∧ SqL K H a xs ∧ DpAll K H xs ds ∧ okS ds = true ∧ ∀ l, H l = none → Q (.ref l) (upd H l (.lst (srtV xs ds)))
theorem dpAll_length : ∀ {xs : List V} {ds : List D} {H : Hp}, DpAll K H xs ds → xs.length = ds.length
  | _, _, _, .nil => rfl
  | _, _, _, .cons _ t => by rw [List.length_cons, List.length_cons, dpAll_length t]
theorem each_dp {pins : List (Addr × Obj)} {σ : L2.St} {H : Hp} {s : Shared} (I : Inv X pins σ H s) : ∀ {xs : List V} {ds : List D} {us : List Value}, DpAll X.K H xs ds → Vals xs us →
    EachIs (fun u (z : V × D) => RelV z.1 u ∧ ∃ as, Reads s.heap u z.2 as) us (xs.zip ds)
  | _, _, _, .nil, .nil => .nil
  | _, _, _, .cons h t, .cons r rt => .cons ⟨r, Dp.reads I _ _ _ h r⟩ (each_dp I t rt)
theorem each_vals {R : Value → V × D → Prop} (hR : ∀ u z, R u z → RelV z.1 u) : ∀ {us : List Value} {zs : List (V × D)}, EachIs R us zs → Vals (zs.map (·.1)) us
  | _, _, .nil => .nil
  | _, _, .cons h t => .cons (hR _ _ h) (each_vals hR t)
theorem cr_sortedD (hu : X.A.units + 70 < cLine) : CallR X (.builtin "sorted") (rSortedD X.K) := by
  intro pins s σ H vs us Q I r h
  obtain ⟨a, xs, ds, rfl, hs, hd, ok, q⟩ := h
  obtain ⟨hal, hso, nd, dp⟩ := okS_some ok
  obtain ⟨its, rv, pl, hz⟩ := I.list hs
  rw [Vals.ref1 r]
  have ln := dpAll_length hd
  have mm : (xs.zip ds).map (·.2) = ds := List.map_snd_zip (Nat.le_of_eq ln.symm)
  have ee := each_dp I hd rv
  refine PySem.W.sorted_data (R := fun u (z : V × D) => RelV z.1 u) (enc := (·.2)) (bs := xs.zip ds) (vs := its) pl.isList (ee.mono fun _ _ z => z.1) (ee.mono fun _ _ z => z.2) (by rw [mm]; exact hal) (by rw [mm]; exact hso)
    (by rw [List.length_zip]; omega) (fun b hb => by have := dp b.2 (by rw [← mm]; exact List.mem_map.mpr ⟨b, hb, rfl⟩); omega) fun out hlen eo => ?_
  obtain ⟨ep, he⟩ := PyProof.Rows.sortedAll_at s.heap its out.toArray
  have rl : Vals (srtV xs ds) out := each_vals (fun _ _ z => z) eo
  refine ⟨.ref _, upd H (s.heap.objs.size + 1) (.lst (srtV xs ds)), I.laid (t' := s.toks) (fun _ _ => PyProof.Rows.sortedAll_old) (Nat.le_succ _) ⟨?_, out, ep, rl, he⟩, rfl, q _ (I.hok.fresh (Nat.le_succ _))⟩
  rw [rl.length, hlen, List.length_zip]
  omega
theorem repL_zip {H : Hp} : ∀ {ds : List D} {xs : List V}, RepL K p ds H xs → ∀ z ∈ xs.zip ds, Rep K p z.2 H z.1
  | [], _, h, z, hz => by rw [show _ = [] from h] at hz; cases hz
  | d :: ds, _, h, z, hz => by
    obtain ⟨v, r, rfl, h1, h2⟩ := h
    rcases List.mem_cons.mp hz with e | e
    · rw [e]; exact h1
    · exact repL_zip h2 z e
theorem repL_of {H : Hp} : ∀ {zs : List (V × D)}, (∀ z ∈ zs, Rep K p z.2 H z.1) → RepL K p (zs.map (·.2)) H (zs.map (·.1))
  | [], _ => rfl
  | z :: zs, h => ⟨z.1, _, rfl, h z List.mem_cons_self, repL_of fun y hy => h y (List.mem_cons_of_mem _ hy)⟩
theorem rep_srt {H : Hp} {ds : List D} {xs : List V} (r : RepL K p ds H xs) : RepL K p (srt ds) H (srtV xs ds) := by
  rw [← srtV_data xs ds r.length]
  exact repL_of fun z hz => repL_zip r z ((List.mergeSort_perm _ _).mem_iff.mp hz)
theorem ok_sorted : OkN X.K p (rSortedD X.K) sortedD true := fun F vs H B ds d Q hp nt hl r e q => by
  unfold sortedD at e
  split at e
  · rename_i xs
    by_cases z : okS xs = true
    · rw [if_pos z] at e
      cases e
      obtain ⟨v, rfl, h⟩ := resL1 r
      obtain ⟨a, ws, rfl, _, h1, h2⟩ := h.lst hp
      exact ⟨a, ws, xs, rfl, .inl (.inl h1), RepL.dp (okS_some z).2.2.1 h2.out, z, fun l nl => q _ _ (same_upd nl) (rep_lst nt nl (rep_srt h2)) (fun _ => new_at nl)⟩
    · rw [if_neg z] at e; cases e
  · cases e
/-! ### tuple(range(..)), list(range(..)) -/
def rgD (a b : Int) : List D := (List.range (b - a).toNat).map fun i => .int (a + (i : Nat))
theorem rg_rep {H : Hp} (a b : Int) : RepL K p (rgD a b) H (rgV a b) := by
  refine RepL.of_get (by simp [rgD, rgV]) fun i d v e1 e2 => ?_
  unfold rgD at e1
  unfold rgV at e2
  rw [List.getElem?_map] at e1 e2
  cases z : (List.range (b - a).toNat)[i]? with
  | none => rw [z] at e1; cases e1
  | some j =>
    rw [z] at e1 e2
    cases e1; cases e2
    rfl
def rgT (f : Env → M D) : Env → M D := fun ρ => M.bind (f ρ) fun d => match d with
  | .int j => if 0 ≤ j ∧ j ≤ 1000000 then M.pure (.tuple (rgD 0 j)) else M.fail
  | _ => M.fail
def rgL (f : Env → M D) : Env → M D := fun ρ => M.bind (f ρ) fun d => match d with
  | .int j => if 0 ≤ j ∧ j ≤ 1000000 then M.pure (.list (rgD 0 j)) else M.fail
  | _ => M.fail
theorem rgT_some {mk : List D → D} {ρ : Env} {q q' : Pot} {d : D} (h : M.bind (f ρ) (fun d => match d with
  | .int j => if 0 ≤ j ∧ j ≤ 1000000 then M.pure (mk (rgD 0 j)) else M.fail
  | _ => M.fail) q = some (d, q')) : ∃ j, f ρ q = some (.int j, q') ∧ (0 ≤ j ∧ j ≤ 1000000) ∧ d = mk (rgD 0 j) := by
  obtain ⟨d1, q1, e1, h1⟩ := M.bind_some h
  clear h
  cases d1 with
  | int j =>
    dsimp only at h1
    by_cases c : 0 ≤ j ∧ j ≤ 1000000
    · rw [if_pos c] at h1
      obtain ⟨rfl, rfl⟩ := M.pure_some h1
      exact ⟨j, e1, c, rfl⟩
    · rw [if_neg c] at h1; cases h1
  | _ => cases h1
theorem d_tupRg {a : Expr} {np rp pos rpos : Pos} (hc : X.calm = true) (hg : Gl X "tuple") (hm : X.mg "tuple" = none) (hg2 : Gl X "range") (hm2 : X.mg "range" = none) (ha : DE X p a f c fr)
    (na : starEach [a] X.env = (false, eval a X.env) :: starEach [] X.env := by rfl) (nb : starEach [.Call (.Name "range" rp) [a] [] rpos] X.env = (false, eval (.Call (.Name "range" rp) [a] [] rpos) X.env) :: starEach [] X.env := by rfl) :
    DE X p (.Call (.Name "tuple" np) [.Call (.Name "range" rp) [a] [] rpos] [] pos) (rgT f) false true :=
  ⟨peHL (pe_tupRgO hc hg hm (prg_1 hg2 hm2 ha.pe na) nb) fun σ H Q hl t => by
    obtain ⟨F, ρ, B, q, d, q', k1, k2, k3⟩ := t hl
    obtain ⟨j, e1, ⟨h0, h1⟩, rfl⟩ := rgT_some (mk := .tuple) k2
    exact fun _ => ⟨F, ρ, B, q, _, q', k1, e1, fun v H1 l1 s1 p1 r1 _ => ⟨j, r1.cons.int, RgOk.of_le (by omega) (by omega) (by omega) h0, fun l o nl ho l' => k3 _ _ l' (s1.trans (Stp.of (same_upd nl))) (same_upd nl _ _ p1) (Res.of (rep_tup (k1.stp s1 p1).nt nl ho (rg_rep 0 j))) (fun _ z => by cases z)⟩⟩⟩
theorem d_lstRg {a : Expr} {np rp pos rpos : Pos} (hc : X.calm = true) (hg : Gl X "list") (hm : X.mg "list" = none) (hg2 : Gl X "range") (hm2 : X.mg "range" = none) (ha : DE X p a f c fr)
    (na : starEach [a] X.env = (false, eval a X.env) :: starEach [] X.env := by rfl) (nb : starEach [.Call (.Name "range" rp) [a] [] rpos] X.env = (false, eval (.Call (.Name "range" rp) [a] [] rpos) X.env) :: starEach [] X.env := by rfl) :
    DE X p (.Call (.Name "list" np) [.Call (.Name "range" rp) [a] [] rpos] [] pos) (rgL f) false true :=
  ⟨peHL (pe_listRg hc hg hm (prg_1 hg2 hm2 ha.pe na) nb) fun σ H Q hl t => by
    obtain ⟨F, ρ, B, q, d, q', k1, k2, k3⟩ := t hl
    obtain ⟨j, e1, ⟨h0, h1⟩, rfl⟩ := rgT_some (mk := .list) k2
    exact fun _ => ⟨F, ρ, B, q, _, q', k1, e1, fun v H1 l1 s1 p1 r1 _ => ⟨j, r1.cons.int, RgOk.of_le (by omega) (by omega) (by omega) h0, fun l nl l' => k3 _ _ l' (s1.trans (Stp.of (same_upd nl))) (same_upd nl _ _ p1) (Res.of (rep_lst (k1.stp s1 p1).nt nl (rg_rep 0 j))) (fun _ => new_of s1 p1 nl)⟩⟩⟩
end
end Sd
/-! sets of tuples of ints, up to 76 of them -/
namespace Sd
open PySem PySem.Spec PyProof.Rows L2
section
variable {pg : Program} {wd : World} {A : Around} {E : Value → Shared → Prop} {s : Shared}
/-- a set of tuples of ints: its table has at most 128 places -/
structure St8 (pg : Program) (wd : World) (h : Heap) (a : Addr) (L : List (Addr × List Int)) (es : Array (Int × Value)) (ep : Nat) (t : SetTable) : Prop where
  lies : ∃ o, h.get? a = some o ∧ o.ExactSet ∧ o.data = .set es ep t
  row : es.toList = rowsOf pg wd L
  tab : TabOk t (L.map fun z => thash pg wd z.2)
  once : (L.map (·.2)).Nodup
  tups : ∀ z ∈ L, IsT pg wd h z.2 z.1
  pln : t.plain = true
  ledd : wd.params.followText "set-order" = true ∨ t.led = true
  roomy : L.length * 5 < t.mask * 3
variable {a : Addr} {L : List (Addr × List Int)} {es : Array (Int × Value)} {ep : Nat} {t : SetTable}
theorem row_len {es : Array (Int × Value)} {L : List (Addr × List Int)} (h : es.toList = rowsOf pg wd L) : es.size = L.length := by
  have z := congrArg List.length h
  simpa [rowsOf] using z
theorem St8.size (R : St8 pg wd s.heap a L es ep t) : es.size = L.length := row_len R.row
theorem St8.places (R : St8 pg wd s.heap a L es ep t) : t.place.size = L.length := by simpa using R.tab.sz
theorem St8.few (R : St8 pg wd s.heap a L es ep t) : L.length ≤ 76 := by
  have z := R.roomy
  rcases R.tab.mok with e | e | e <;> rw [e] at z <;> omega
theorem fits_of (dm : t.dummies = #[]) (h1 : t.place.size = es.size) (h2 : es.size ≤ t.mask) : t.fits es.size = true := by
  have e : t.fill = t.place.size + 0 := by unfold SetTable.fill; rw [dm] <;> rfl
  unfold SetTable.fits
  simp only [Bool.and_eq_true, beq_iff_eq, decide_eq_true_eq]
  omega
theorem St8.fits (R : St8 pg wd s.heap a L es ep t) : t.fits es.size = true := fits_of R.tab.dm (by rw [R.places, R.size]) (by have := R.roomy; rw [R.size]; omega)
theorem St8.at_ (R : St8 pg wd s.heap a L es ep t) {i : Nat} {z : Addr × List Int} (h : L[i]? = some z) : es[i]? = some (thash pg wd z.2, Value.ref z.1) := by
  have e : es.toList[i]? = some (thash pg wd z.2, Value.ref z.1) := by
    rw [R.row]; unfold rowsOf; simp [List.getElem?_map, h]
  simpa using e
theorem St8.kept {h h' : Heap} (R : St8 pg wd h a L es ep t) (ka : ∀ o, h.get? a = some o → h'.get? a = some o) (kt : ∀ z ∈ L, IsT pg wd h' z.2 z.1) : St8 pg wd h' a L es ep t := by
  obtain ⟨o, ho, hx⟩ := R.lies
  exact ⟨⟨o, ka o ho, hx⟩, R.row, R.tab, R.once, kt, R.pln, R.ledd, R.roomy⟩
/-- where a search for the hash stands after n steps -/
abbrev pr (t : SetTable) (h : Int) (n : Nat) : SetTable.Probe := nth t.mask (t.probeStart h) n
theorem pr_way (t : SetTable) (h : Int) (n : Nat) : (pr t h n).j = way t.mask h n := rfl
theorem pr_add (t : SetTable) (h : Int) (n m : Nat) : nth t.mask (pr t h n) m = pr t h (n + m) := (nth_add t.mask n _ m).symm
theorem pr_dummy (t : SetTable) (h : Int) : ∀ n, (pr t h n).dummy = none
  | 0 => rfl
  | n + 1 => by
    have e : pr t h (n + 1) = adv t.mask (pr t h n) := nth_succ t.mask _ n
    rw [e]; unfold adv
    split
    · exact pr_dummy t h n
    · exact pr_dummy t h n
/-- the hashes as the model asks for them -/
abbrev hsh (es : Array (Int × Value)) : Nat → Int := fun i => (es[i]?.map (·.1)).getD 0
theorem seek (R : St8 pg wd s.heap a L es ep t) {x : Addr} {k : List Int} (hx : IsT pg wd s.heap k x) (hu : A.units < cLine) {n : Nat} (hn : n < 10 * SetTable.turns t.mask)
    (hfree : way t.mask (thash pg wd k) n ∉ t.place.toList) (hbusy : ∀ c, c < n → way t.mask (thash pg wd k) c ∈ t.place.toList) {Q : SetFound → Shared → Prop}
    (yes : k ∈ L.map (·.2) → Q (.there none) s) (no : k ∉ L.map (·.2) → Q (.free (way t.mask (thash pg wd k) n) false) s) :
    ∀ (fuel c : Nat) (from_ : Option SetTable.Probe), from_.getD (t.probeStart (thash pg wd k)) = pr t (thash pg wd k) c → c ≤ n → n - c < fuel →
      (∀ (i : Nat) z, L[i]? = some z → z.2 = k → ∃ m, c ≤ m ∧ m < n ∧ t.place.toList[i]? = some (way t.mask (thash pg wd k) m)) →
      wpAny (model pg wd) A (setSearchFrom a (.ref x) (thash pg wd k) true fuel from_) Q E s := by
  intro fuel
  induction fuel with
  | zero => exact fun c _ _ _ hf _ => absurd hf (Nat.not_lt_zero _)
  | succ fuel ih =>
    intro c from_ hst hc hf pend
    obtain ⟨o, ho, _, hd⟩ := R.lies
    have gaveNot : ¬ t.gaveWay = true := by unfold SetTable.gaveWay; rw [mask_odd R.tab.mok]; decide
    rw [setSearchFrom_succ]
    refine wpAny_bind (wpAny_setState_of ho hd R.fits ?_); dsimp only
    refine wp_if_neg gaveNot ?_
    try refine wpAny_bind (wpAny_pure ?_)
    have step : ∀ m, (nth t.mask (pr t (thash pg wd k) c) m).j = way t.mask (thash pg wd k) (c + m) := fun m => by rw [pr_add]; rfl
    have back : c + (n - c) = n := by omega
    have look := go_spec t R.tab.ris R.tab.dm (hsh es) (thash pg wd k) (10 * SetTable.turns t.mask) (n - c) (pr t (thash pg wd k) c) (pr_dummy t _ c) (by omega)
      (fun m hm => by rw [step]; exact hbusy _ (by omega)) (by rw [step, back]; exact hfree)
    have hshAt : ∀ (i : Nat) z, L[i]? = some z → hsh es i = thash pg wd z.2 := fun i z hz => by
      show (es[i]?.map (·.1)).getD 0 = _
      rw [R.at_ hz] <;> rfl
    have prob : t.probe (hsh es) (thash pg wd k) (from_.getD (t.probeStart (thash pg wd k))) = SetTable.probe.go t (hsh es) (thash pg wd k) (10 * SetTable.turns t.mask) (pr t (thash pg wd k) c) := by rw [hst] <;> rfl
    have passed : ∀ m i z, m < n - c ∨ True → L[i]? = some z → z.2 = k → hsh es i = thash pg wd k := fun _ i z _ hz e => by rw [hshAt i z hz, e]
    rcases look with ⟨m, i, hm, hi, hh, hno, hgo⟩ | ⟨hno, hgo⟩
    · rw [show t.probe (fun i => (es[i]?.map (·.1)).getD 0) (thash pg wd k) (from_.getD (t.probeStart (thash pg wd k))) = _ from prob.trans hgo]
      dsimp only
      rw [step] at hi
      have lt : i < L.length := by
        have z := (List.getElem?_eq_some_iff.mp hi).1
        rw [Array.length_toList, R.places] at z
        exact z
      obtain ⟨z, hz⟩ : ∃ z, L[i]? = some z := ⟨_, List.getElem?_eq_getElem lt⟩
      have hzL : z ∈ L := List.mem_of_getElem? hz
      have live : t.slot (way t.mask (thash pg wd k) (c + m)) = .live i := slot_live R.tab.ris hi
      have go2 : wpAny (model pg wd) A (searchRest a (.ref x) (thash pg wd k) true fuel es t (way t.mask (thash pg wd k) (c + m)) i (pr t (thash pg wd k) (c + (m + 1)))) Q E s := by
        unfold searchRest
        rw [R.at_ hz]
        refine wpAny_bind (wpAny_holding (wpAny_eqBool_tuple hu (R.tups z hzL) hx (wpAny_bind (wpAny_setState_of ho hd R.fits ?_))))
        dsimp only
        by_cases same : z.2 = k
        · exact wp_if_pos (by simp [same]) (wpAny_pure (yes (List.mem_map.mpr ⟨z, hzL, same⟩)))
        · refine wp_if_neg (by simp [same]) ?_
          try refine wpAny_bind (wpAny_pure ?_)
          rw [L2.sameMem]; dsimp only
          simp only [if_true, live, R.at_ hz]
          refine wpAny_bind (wpAny_isSame_ref_self (wpAny_bind (wpAny_pure ?_)))
          simp only [if_true]
          refine wp_if_neg (by simp [same]) (ih (c + (m + 1)) _ rfl (by omega) (by omega) fun j y hy ey => ?_)
          obtain ⟨r, r1, r2, r3⟩ := pend j y hy ey
          refine ⟨r, ?_, r2, r3⟩
          have ne1 : ¬ r < c + m := fun lt' => hno (r - c) j (by omega) (by rw [step, show c + (r - c) = r by omega]; exact r3) (passed 0 j y (.inr trivial) hy ey)
          have ne2 : r ≠ c + m := fun e => by
            rw [e] at r3
            have l2 := slot_live R.tab.ris r3
            rw [live] at l2
            cases l2
            rw [hz] at hy
            cases hy
            exact same ey
          omega
      have go3 : wpAny (model pg wd) A (searchRest a (.ref x) (thash pg wd k) true fuel es t (nth t.mask (pr t (thash pg wd k) c) m).j i (nth t.mask (pr t (thash pg wd k) c) (m + 1))) Q E s := by
        rw [step, pr_add]; exact go2
      by_cases hl : t.led = true
      · refine wp_if_neg (by simp [hl]) ?_
        try refine wpAny_bind (wpAny_pure ?_)
        exact go3
      · refine wp_if_pos (by simp [hl]) (wpAny_bind (seen_tup hx (fun y hy => ?_) ?_))
        · obtain ⟨e, he, rfl⟩ := List.mem_map.mp hy
          have he2 : e ∈ es.toList := by
            have z : e ∈ es ∧ e.1 = thash pg wd k := by simpa using he
            simpa using z.1
          rw [R.row] at he2
          obtain ⟨z2, hz2, rfl⟩ := List.mem_map.mp he2
          exact ⟨z2.2, z2.1, rfl, R.tups z2 hz2⟩
        · refine wp_if_neg (by decide) ?_
          try refine wpAny_bind (wpAny_pure ?_)
          exact go3
    · rw [show t.probe (fun i => (es[i]?.map (·.1)).getD 0) (thash pg wd k) (from_.getD (t.probeStart (thash pg wd k))) = _ from prob.trans hgo]
      dsimp only
      rw [step, back]
      refine wpAny_pure (no fun mem => ?_)
      obtain ⟨z, hz, ez⟩ := List.mem_map.mp mem
      obtain ⟨i, hi, e⟩ := List.getElem_of_mem hz
      have hi' : L[i]? = some z := by rw [List.getElem?_eq_getElem hi, e]
      obtain ⟨r, r1, r2, r3⟩ := pend i z hi' ez
      exact hno (r - c) i (by omega) (by rw [step, show c + (r - c) = r by omega]; exact r3) (passed 0 i z (.inr trivial) hi' ez)
theorem seek_add (R : St8 pg wd s.heap a L es ep t) {x : Addr} {k : List Int} (hx : IsT pg wd s.heap k x) (hu : A.units < cLine) {Q : SetFound → Shared → Prop} (yes : k ∈ L.map (·.2) → Q (.there none) s)
    (no : ∀ n, k ∉ L.map (·.2) → way t.mask (thash pg wd k) n ∉ t.place.toList → (∀ c, c < n → way t.mask (thash pg wd k) c ∈ t.place.toList) → Q (.free (way t.mask (thash pg wd k) n) false) s) :
    wpAny (model pg wd) A (setSearch a (.ref x) (thash pg wd k) true) Q E s := by
  have rm := R.roomy
  obtain ⟨n, h1, h2, h3⟩ := R.tab.first (by rw [List.length_map]; omega) (thash pg wd k)
  have small : n < 100000 := by
    have z : 10 * SetTable.turns t.mask ≤ 1420 := by unfold SetTable.turns; rcases R.tab.mok with e | e | e <;> rw [e] <;> decide
    omega
  refine seek R hx hu h1 h2 h3 yes (fun z => no n z h2 h3) 100000 0 none rfl (Nat.zero_le _) (by omega) fun i z hz e => ?_
  have lt : i < t.place.toList.length := by rw [Array.length_toList, R.places]; exact (List.getElem?_eq_some_iff.mp hz).1
  obtain ⟨m, m1, m2⟩ := R.tab.before h2 (i := i) (j := t.place.toList[i]) (by rw [List.getElem?_map, hz, ← e] <;> rfl) (List.getElem?_eq_getElem lt)
  exact ⟨m, Nat.zero_le _, m1, by rw [m2]; exact List.getElem?_eq_getElem lt⟩
/-- the table is laid anew -/
theorem relay8 {o : Obj} (ho : s.heap.get? a = some o) (hx : o.ExactSet) (hd : o.data = .set es ep t) (row : es.toList = rowsOf pg wd L) (hp : t.place.size = es.size) (dm : t.dummies = #[]) (hm : es.size ≤ t.mask) (once : (L.map (·.2)).Nodup)
    (tups : ∀ z ∈ L, IsT pg wd s.heap z.2 z.1) (pln : t.plain = true) (ledd : wd.params.followText "set-order" = true ∨ t.led = true) {want M : Nat} (hw : SetTable.sizeAbove want - 1 = M) (hM : MaskOk M) (h128 : SetTable.sizeAbove want ≤ 128)
    (roomy : L.length * 5 < M * 3) {Q : Unit → Shared → Prop} (k : ∀ h' L' es' ep' t', Heap.SameBut a s.heap h' → St8 pg wd h' a L' es' ep' t' → L'.Perm L → Q () { s with heap := h' }) : wpAny (model pg wd) A (setRelay a want) Q E s := by
  have len := row_len row
  obtain ⟨t', order, e, pm, tb, em, el, ep', ed⟩ := relaid_ok t (hs := es.map (·.1)) hw hM (by rw [Array.size_map]; omega)
  have pm' : order.toList.Perm (List.range L.length) := by rw [Array.size_map, len] at pm; exact pm
  obtain ⟨L', q1, q2, q3⟩ := order_rows L es order row pm'
  have hes : (order.filterMap (es[·]?)).size = es.size := by rw [row_len (pg := pg) (wd := wd) q1, q2.length_eq, len]
  have sb : Heap.SameBut a s.heap (s.heap.update a (Obj.putSet (order.filterMap (es[·]?)) t')) := Heap.SameBut.update ..
  have small : es.size ≤ sizeLine := by
    have z1 := sz6
    have z2 : L.length ≤ 76 := by rcases hM with c | c | c <;> rw [c] at roomy <;> omega
    omega
  rw [setRelay_eq]
  refine wpAny_bind (wpAny_setState_of ho hd (fits_of dm hp hm) ?_); dsimp only
  refine wp_if_neg (by have z := sz6; omega) ?_
  try refine wpAny_bind (wpAny_pure ?_)
  rw [e]; dsimp only
  refine wpAny_bind (wp_if_neg (by rw [hes]; simp) ?_)
  try refine wpAny_bind (wpAny_pure ?_)
  refine wpAny_pure ?_
  dsimp only
  refine wpAny_storeSet_of ho hd (k _ L' _ (ep + 1) t' sb ⟨⟨_, store_at ho hd, ⟨hx.1, hx.2.1, hx.2.2⟩, rfl⟩, q1, by rw [q3]; exact tb, (q2.map (·.2)).nodup_iff.mpr once, fun z hz => isT_same (tups z (q2.mem_iff.mp hz)) ho hd sb,
    by rw [ep']; exact pln, by rw [el]; exact ledd, by rw [q2.length_eq, em]; exact roomy⟩ q2) (by rw [hes]; exact small)
/-- one more -/
theorem add8 (R : St8 pg wd s.heap a L es ep t) {x : Addr} {k : List Int} (hx : IsT pg wd s.heap k x) (hu : A.units < cLine) (hfew : k ∉ L.map (·.2) → L.length < 76) {Q : Bool → Shared → Prop}
    (fin : ∀ b h' L' es' ep' t', Heap.SameBut a s.heap h' → St8 pg wd h' a L' es' ep' t' → (k ∈ L.map (·.2) → L' = L) → (k ∉ L.map (·.2) → L'.Perm ((x, k) :: L)) → Q b { s with heap := h' }) :
    wpAny (model pg wd) A (setAddHashed a (.ref x) (thash pg wd k)) Q E s := by
  obtain ⟨o, ho, hex, hd⟩ := R.lies
  have len := R.size
  have rm := R.roomy
  unfold setAddHashed
  refine wpAny_holding ?_
  rw [show (100000 : Nat) = 99999 + 1 from rfl, setAddHashedIn_succ]
  refine wpAny_bind (wpAny_setState_of ho hd R.fits ?_); dsimp only
  refine wp_if_neg (by simp [byScan, Value.scannable]) ?_
  try refine wpAny_bind (wpAny_pure ?_)
  refine wpAny_bind (seek_add R hx hu (fun mem => ?_) fun n nmem hn hb => ?_)
  · dsimp only
    exact wpAny_pure (fin false s.heap L es ep t (Heap.SameBut.refl a s.heap) R (fun _ => rfl) fun z => absurd mem z)
  · have hfew := hfew nmem
    dsimp only
    refine wpAny_bind (wpAny_setState_of ho hd R.fits ?_); dsimp only
    obtain ⟨q1, q2, q3, q4, q5, q6, q7, q8, q9⟩ := R.tab.put hn hb
    have pl1 : (t.put (way t.mask (thash pg wd k) n)).1.plain = true := by rw [q6]; exact R.pln
    generalize hput : t.put (way t.mask (thash pg wd k) n) = put at q1 q3 q4 q5 q6 q7 q8 q9 pl1 ⊢
    obtain ⟨t1, i⟩ := put
    dsimp only at q1 q3 q4 q5 q6 q7 q8 q9 pl1 ⊢
    subst q1
    first
      | (refine wpAny_bind ?_; refine wp_if_pos pl1 ?_; refine hashBy_tup hx ?_)
      | refine wp_if_pos pl1 (wpAny_bind (hashBy_tup hx ?_))
    simp only [if_true]
    generalize SetTable.below t.place (way t.mask (thash pg wd k) n) = i at q2 q3 ⊢
    have row1 : (SetTable.insertAt es i (thash pg wd k, Value.ref x)).toList = rowsOf pg wd (L.take i ++ (x, k) :: L.drop i) := by rw [SetTable.toList_insertAt, rows_put, R.row]
    have pm := put_perm L i (x, k)
    have len1 : (L.take i ++ (x, k) :: L.drop i).length = L.length + 1 := pm.length_eq
    have tab1 : TabOk t1 ((L.take i ++ (x, k) :: L.drop i).map fun z => thash pg wd z.2) := by
      rw [List.map_append, List.map_cons, List.map_take, List.map_drop]
      exact q3
    have once1 : ((L.take i ++ (x, k) :: L.drop i).map (·.2)).Nodup := (pm.map (·.2)).nodup_iff.mpr (by rw [List.map_cons]; exact List.nodup_cons.mpr ⟨nmem, R.once⟩)
    have es1 := row_len row1
    generalize SetTable.insertAt es i (thash pg wd k, Value.ref x) = es1' at row1 es1 ⊢
    generalize L.take i ++ (x, k) :: L.drop i = L1 at row1 pm len1 tab1 once1 es1
    have z6 := sz6
    refine wpAny_bind (wpAny_storeSet_of ho hd ?_ (by omega))
    have sb : Heap.SameBut a s.heap (s.heap.update a (Obj.putSet es1' t1)) := Heap.SameBut.update ..
    have ho1 := store_at (es' := es1') (t' := t1) ho hd
    generalize s.heap.update a (Obj.putSet es1' t1) = h1 at sb ho1 ⊢
    have tups1 : ∀ z ∈ L1, IsT pg wd h1 z.2 z.1 := fun z hz => by
      rcases List.mem_cons.mp (pm.mem_iff.mp hz) with c | c
      · rw [c]; exact isT_same hx ho hd sb
      · exact isT_same (R.tups z c) ho hd sb
    have led1 : wd.params.followText "set-order" = true ∨ t1.led = true := by rw [q5]; exact R.ledd
    have full_iff : t1.tooFull = decide ((L.length + 1) * 5 ≥ t1.mask * 3) := by unfold SetTable.tooFull; rw [q9, List.length_map]
    by_cases hf : t1.tooFull = true
    · first
        | (refine wpAny_bind ?_; refine wp_if_pos (by simp [hf]) ?_)
        | (refine wp_if_pos (by simp [hf]) ?_; refine wpAny_bind ?_)
      rw [full_iff, decide_eq_true_eq, q4] at hf
      have which : (t.mask = 7 ∧ L.length = 4) ∨ (t.mask = 31 ∧ L.length = 18) := by rcases R.tab.mok with c | c | c <;> rw [c] at hf rm ⊢ <;> omega
      have pl := tab1.sz
      rw [List.length_map, len1] at pl
      have anew : ∀ M, SetTable.sizeAbove (SetTable.grown (L.length + 1)) - 1 = M → MaskOk M → SetTable.sizeAbove (SetTable.grown (L.length + 1)) ≤ 128 → (L.length + 1) * 5 < M * 3 →
          wpAny (model pg wd) A (setRelay a (SetTable.grown (es.size + 1))) (fun _ s' => wpAny (model pg wd) A (pure true) Q E s') E { s with heap := h1 } := fun M e1 e2 e3 e4 => by
        rw [len]
        exact relay8 (s := { s with heap := h1 }) ho1 ⟨hex.1, hex.2.1, hex.2.2⟩ rfl row1 (by rw [pl, es1, len1]) tab1.dm (by rw [q4]; rcases which with ⟨c1, c2⟩ | ⟨c1, c2⟩ <;> omega) once1 tups1 pl1 led1 e1 e2 e3 (by rw [len1]; exact e4)
          fun h2 L2 es2 ep2 t2 sb2 R2 pm2 => wpAny_pure (fin true h2 L2 es2 ep2 t2 (sb.trans sb2) R2 (fun z => absurd z nmem) fun _ => pm2.trans pm)
      rcases which with ⟨_, c⟩ | ⟨_, c⟩
      · exact anew 31 (by rw [c, size_20]) (.inr (.inl rfl)) (by rw [c, size_20]; decide) (by omega)
      · exact anew 127 (by rw [c, size_76]) (.inr (.inr rfl)) (by rw [c, size_76]; decide) (by omega)
    · first
        | refine wp_if_neg (by simp [hf]) ?_
        | (refine wpAny_bind ?_; refine wp_if_neg (by simp [hf]) ?_; refine wpAny_pure ?_)
      refine wpAny_pure (fin true h1 L1 es1' (ep + 1) t1 sb ⟨⟨_, ho1, ⟨hex.1, hex.2.1, hex.2.2⟩, rfl⟩, row1, tab1, once1, tups1, pl1, led1, ?_⟩ (fun z => absurd z nmem) fun _ => pm)
      rw [full_iff, decide_eq_true_eq] at hf
      omega
/-- the keys are few -/
def Few (ks : List (Addr × List Int)) : Prop := ∀ l : List (List Int), l.Nodup → (∀ x ∈ l, x ∈ ks.map (·.2)) → l.length ≤ 76
theorem none_past {h : Heap} {b : Addr} (hb : h.objs.size ≤ b) : h.get? b = none := by
  cases e : h.get? b with
  | none => rfl
  | some o => exact absurd (Heap.lt_size e) (Nat.not_lt.mpr hb)
/-- the rest of the list goes in -/
theorem fill8 {I S : Addr} {fp wr : List Addr} {G : Array GenState → Array GenState → Prop} {n : Nat} {Y : Nat → Value → Prop} {St : Nat → Shared → Prop} {R : Result → Shared → Prop} (W : WalksS pg wd A.in1 I fp wr G n Y St) (hS : S ∉ fp)
    (ks : List (Addr × List Int)) (hn : n = ks.length) (hfew : Few ks) (items : ∀ i v, Y i v → ∃ z, ks[i]? = some z ∧ v = .ref z.1) (h0 : Heap) (h0t : ∀ z ∈ ks, IsT pg wd h0 z.2 z.1) (h0S : h0.get? S = none) (h0w : ∀ b ∈ wr, h0.get? b = none) (hu : A.in1.units < cLine)
    (done : ∀ s' L es ep t, Moved (S :: wr) G s s' → St8 pg wd s'.heap S L es ep t → Got ks n L → (∀ b o, h0.get? b = some o → s'.heap.get? b = some o) → R (.ok (.ret .none)) s') :
    ∀ (m i : Nat) (s1 : Shared), n - i = m → i ≤ n → St i s1 → Moved (S :: wr) G s s1 → (∀ b o, h0.get? b = some o → s1.heap.get? b = some o) → (∃ L es ep t, St8 pg wd s1.heap S L es ep t ∧ Got ks i L) →
      codeAny (model pg wd) A (.builtin "set.update.loop" ⟨[.ref S, .ref I], []⟩) R s1 := by
  have wide : ∀ b ∈ wr, b ∈ S :: wr := fun b hb => List.mem_cons_of_mem _ hb
  have Swr : S ∉ wr := fun c => hS (W.sub _ c)
  have old : ∀ {x y : Shared}, Moved wr G x y → (∀ b o, h0.get? b = some o → x.heap.get? b = some o) → ∀ b o, h0.get? b = some o → y.heap.get? b = some o := fun mv k b o e => mv.heap b o (fun c => by rw [h0w b c] at e; cases e) (k b o e)
  intro m
  induction m with
  | zero =>
    rintro i s1 e hi hst mv kp ⟨L, es, ep, t, hL, g⟩
    obtain rfl : i = n := by omega
    refine codeAny_builtin F.entry_set_update_loop ?_
    rw [Around.under_plainId F.plain_set_update_loop _]
    show wpAny _ A.in1 (pyNext (.ref I) >>= _) _ _ s1
    refine wpAny_bind (W.done s1 _ _ hst fun s2 mv2 => ?_)
    show wpAny _ A.in1 (ret Value.none) _ _ s2
    have kp2 := old mv2 kp
    exact wpAny_pure (done s2 L es ep t (Moved.trans W.gtrans mv (mv2.mono wide)) (hL.kept (fun o e => mv2.heap S o Swr e) fun z hz => isT_keep (h0t z (List.mem_of_mem_take (g.sub z hz))) kp2) g kp2)
  | succ m ih =>
    rintro i s1 e hi hst mv kp ⟨L, es, ep, t, hL, g⟩
    have lt : i < n := by omega
    refine codeAny_builtin F.entry_set_update_loop ?_
    rw [Around.under_plainId F.plain_set_update_loop _]
    show wpAny _ A.in1 (pyNext (.ref I) >>= _) _ _ s1
    refine wpAny_bind (W.item i s1 _ _ lt hst fun v s2 hv hst2 mv2 => ?_)
    obtain ⟨z, hz, rfl⟩ := items i v hv
    have kp2 := old mv2 kp
    have hL2 : St8 pg wd s2.heap S L es ep t := hL.kept (fun o e => mv2.heap S o Swr e) fun y hy => isT_keep (h0t y (List.mem_of_mem_take (g.sub y hy))) kp2
    have hx : IsT pg wd s2.heap z.2 z.1 := isT_keep (h0t z (List.mem_of_getElem? hz)) kp2
    show wpAny _ A.in1 (holding [Value.ref z.1] (setAdd S (.ref z.1)) >>= _) _ _ s2
    refine wpAny_bind (wpAny_holding ?_)
    unfold setAdd
    refine wpAny_holding (wpAny_bind (wpAny_pyHash_tuple hu hx (add8 (s := { s2 with toks := s2.toks + (z.2.length + 1) }) hL2 hx hu (fun c => ?_) fun b h3 L' es' ep' t' sb hL3 c1 c2 => ?_)))
    · have e := hfew (z.2 :: L.map (·.2)) (List.nodup_cons.mpr ⟨c, hL2.once⟩) fun x hx => by
        rcases List.mem_cons.mp hx with y | y
        · rw [y]; exact List.mem_map.mpr ⟨z, List.mem_of_getElem? hz, rfl⟩
        · obtain ⟨q, hq, rfl⟩ := List.mem_map.mp y
          exact List.mem_map.mpr ⟨q, List.mem_of_mem_take (g.sub q hq), rfl⟩
      rw [List.length_cons, List.length_map] at e
      exact e
    · have g' : Got ks (i + 1) L' := by
        by_cases c : z.2 ∈ L.map (·.2)
        · rw [c1 c]; exact g.same hz c
        · exact g.more hz (c2 c)
      have kp3 : ∀ b o, h0.get? b = some o → h3.get? b = some o := fun b o e => by
        rw [sb.2 b fun c => by rw [c, h0S] at e; cases e]
        exact kp2 b o e
      refine wpAny_pure ⟨plainId_quiet F.plain_set_update_loop _, ih (i + 1) _ (by omega) lt (W.frame _ s2 _ _ hst2 (Nat.le_add_right _ _) fun b hb o e => ?_) ?_ kp3 ⟨L', es', ep', t', hL3, g'⟩⟩
      · rw [sb.2 b fun c => hS (c ▸ hb)]; exact e
      · refine Moved.trans W.gtrans mv ((mv2.mono wide).then_heap (Nat.le_add_right _ _) fun b o hb e => ?_)
        rw [sb.2 b fun c => hb (by rw [c]; exact List.mem_cons_self)]; exact e
/-- an empty set's object -/
abbrev emptyS (wd : World) : Obj := { cls := .type "set", dict := none, data := .set #[] 0 (.fresh 0 0 (!wd.params.followText "set-order")) }
theorem st8_new {h : Heap} (ha : h.get? a = some (emptyS wd)) : St8 pg wd h a [] #[] 0 (.fresh 0 0 (!wd.params.followText "set-order")) := by
  refine ⟨⟨_, ha, ⟨rfl, rfl, rfl⟩, rfl⟩, rfl, ⟨.nil, rfl, rfl, .inl rfl, fun _ z => (by cases z), fun _ _ _ z => (by simp at z)⟩, .nil, fun _ z => (by cases z), rfl, ?_, (by show 0 * 5 < 7 * 3; decide)⟩
  show _ ∨ (!wd.params.followText "set-order") = true
  cases wd.params.followText "set-order" with
  | true => exact .inl rfl
  | false => exact .inr rfl
end
end Sd
/-! set(xs) -/
namespace Sd
open PySem PySem.Spec PyProof.Rows L2
section
variable {pg : Program} {wd : World} {A : Around} {E : Value → Shared → Prop} {s : Shared}
variable {a : Addr} {L : List (Addr × List Int)} {es : Array (Int × Value)} {ep : Nat} {t : SetTable}
/-- set(xs), xs a list, by what the loop leaves -/
theorem call_setG {l : Addr} {its : Array Value} {Z : Heap → Prop} {Q : Value → Shared → Prop} (hh : A.handled = none) (hl : s.heap.IsList l its) (hu : A.units + 3 < cLine)
    (loop : ∀ (A1 : Around) (I : Addr) (fp wr : List Addr) (G : Array GenState → Array GenState → Prop) (St : Nat → Shared → Prop) (s0 : Shared), WalksS pg wd A1.in1 I fp wr G its.size (fun i v => its[i]? = some v) St → s.heap.objs.size ∉ fp → (∀ b ∈ wr, s.heap.get? b = none) → A1.in1.units < cLine →
      St 0 s0 → s0.heap.get? s.heap.objs.size = some (emptyS wd) → (∀ b o, s.heap.get? b = some o → s0.heap.get? b = some o) → ∀ R : Result → Shared → Prop, (∀ s', Moved (s.heap.objs.size :: wr) G s0 s' → Z s'.heap → R (.ok (.ret .none)) s') →
      codeAny (model pg wd) A1 (.builtin "set.update.loop" ⟨[.ref s.heap.objs.size, .ref I], []⟩) R s0)
    (fin : ∀ (h' : Heap) (tk : Nat), Z h' → (∀ b o, s.heap.get? b = some o → h'.get? b = some o) → Q (.ref s.heap.objs.size) { s with heap := h', toks := tk }) :
    wpAny (model pg wd) A (call (.type "set") [.ref l]) Q E s := by
  obtain ⟨c, tl, hmro⟩ := F.called_set.mro
  have hmade := F.called_set.made
  have hsub := F.called_set.sub
  refine wpAny_call (codeAny_of_tree ?_)
  show wpAny _ _ (callAny (.type "set") _) _ _ _
  refine wpAny_pure ⟨Code.quiet_builtin _ (by decide +kernel), codeAny_builtin F.entry_type_call ?_⟩
  rw [Around.under_plain (weight_type_call_type "set" [.ref l] []) rfl]
  have h1 := F.called_set.notType
  have h2 := F.called_set.canCreate
  have h3 := F.typeCall_set_1 (.ref l)
  repeat (any_goals (first | assumption | wp_step))
  refine codeAny_mono (code_set_led1 (.ref l) (E := E) (Q₁ := fun u s1 => u = .ref s.heap.objs.size ∧ s1 = { s with heap := s.heap.push (emptyS wd) }) ⟨rfl, rfl⟩) fun r s1 hr => ?_
  match r, hr with
  | .error e, hr => exact hr
  | .ok .next, hr => exact hr.elim
  | .ok .brk, hr => exact hr.elim
  | .ok .cont, hr => exact hr.elim
  | .ok (.ret u), hr =>
    obtain ⟨rfl, rfl⟩ := hr
    have hS : (s.heap.push (emptyS wd)).get? s.heap.objs.size = some (emptyS wd) := Heap.get?_push_size _ rfl
    have hT : Shared.TypeIs { s with heap := s.heap.push (emptyS wd) } (.ref s.heap.objs.size) "set" := ⟨_, hS, rfl⟩
    have h4 := F.called_set.init.lookup
    have h5 := F.called_set.init.bind (.ref s.heap.objs.size)
    repeat (any_goals (first | assumption | wp_step))
    refine codeAny_mono (codeAny_call_builtin (R := wants (fun r s2 => r = .none ∧ ∃ h' tk, s2 = { s with heap := h', toks := tk } ∧ Z h' ∧ (∀ b o, s.heap.get? b = some o → h'.get? b = some o)) E)
      F.called_set.init.plain F.entry_set_init (check_set_init_1 hT ?_)) fun r2 s2 hr2 => ?_
    · obtain ⟨ob, hob, hcl, nl, hdl⟩ := hl
      obtain ⟨ocls, odict, odata, oslots⟩ := ob
      simp only at hcl hdl
      subst hcl; subst hdl
      have hob1 := Heap.get?_push_of_some (emptyS wd) hob
      have hls := F.sub_list_set
      have hlf := F.sub_list_frozenset
      have hne : (Value.type "list" == Value.type "dict") = false := by decide
      have hl1 : (s.heap.push (emptyS wd)).IsList l its := ⟨_, hob1, rfl, nl, rfl⟩
      unfold Builtin.«set.__init__» noKeywords Builtin.Frozenset.updateFrom
      generalize hPI : pyIter = PI
      wp_walk
      subst hPI
      refine wpAny_pyIter_list hl1 (wpAny_bind (wpAny_runValue ?_))
      have lS : l < s.heap.objs.size := Heap.lt_size hob
      have hh3 : A.in1.in1.in1.handled = none := by simp [hh]
      have sz : (s.heap.push (emptyS wd)).objs.size = s.heap.objs.size + 1 := Heap.size_push ..
      have nI : l ≠ (s.heap.push (emptyS wd)).objs.size := fun e => by rw [sz] at e; exact absurd lS (by rw [e]; exact Nat.not_lt.mpr (Nat.le_succ _))
      have nS : s.heap.objs.size ∉ [(s.heap.push (emptyS wd)).objs.size, l] := fun e => by
        rw [sz] at e
        rcases List.mem_cons.mp e with c | c
        · exact absurd c (Nat.ne_of_lt (Nat.lt_succ_self _))
        · exact absurd (List.mem_singleton.mp c) (Nat.ne_of_gt lS)
      have wrN : ∀ b ∈ [(s.heap.push (emptyS wd)).objs.size], s.heap.get? b = none := fun b hb => none_past (by rw [List.mem_singleton.mp hb, sz]; exact Nat.le_succ _)
      refine loop _ _ _ _ _ _ _ ((Walks.list hh3 _ l nI its).toS) nS wrN hu ⟨⟨_, Heap.get?_push_size _ rfl, rfl, rfl⟩, hl1.push _⟩ (Heap.get?_push_of_some _ hS) (fun b o e => Heap.get?_push_of_some _ (Heap.get?_push_of_some _ e)) _ fun s3 mv hz => ?_
      · obtain ⟨h', g2, d', tk', os'⟩ := s3
        have eg : g2 = s.gens := mv.gens
        have ed : d' = s.drawn := mv.drawn
        have eo : os' = s.os := mv.os
        subst eg; subst ed; subst eo
        refine wpAny_pure ?_
        show wpAny _ _ (ret Value.none) _ _ _
        refine wpAny_pure ⟨rfl, h', tk', rfl, hz, fun b o e => ?_⟩
        refine mv.heap b o (fun c => ?_) (Heap.get?_push_of_some _ (Heap.get?_push_of_some _ e))
        rcases List.mem_cons.mp c with c | c
        · rw [c, none_past (Nat.le_refl _)] at e; cases e
        · rw [wrN b c] at e; cases e
    · match r2, hr2 with
      | .error e, hr2 => exact hr2
      | .ok .next, hr2 => exact hr2.elim
      | .ok .brk, hr2 => exact hr2.elim
      | .ok .cont, hr2 => exact hr2.elim
      | .ok (.ret u), hr2 =>
        obtain ⟨rfl, h', tk, rfl, hz, kp⟩ := hr2
        repeat (any_goals (first | assumption | wp_step))
        exact fin _ _ hz kp
theorem call_set8 {l : Addr} {its : Array Value} (ks : List (Addr × List Int)) {Q : Value → Shared → Prop} (hh : A.handled = none) (hl : s.heap.IsList l its) (eits : its.toList = ks.map fun z => Value.ref z.1) (hk : ∀ z ∈ ks, IsT pg wd s.heap z.2 z.1) (hfew : Few ks) (hu : A.units + 3 < cLine)
    (fin : ∀ (h' : Heap) (tk : Nat) L es ep t, St8 pg wd h' s.heap.objs.size L es ep t → Got ks ks.length L → (∀ b o, s.heap.get? b = some o → h'.get? b = some o) → Q (.ref s.heap.objs.size) { s with heap := h', toks := tk }) :
    wpAny (model pg wd) A (call (.type "set") [.ref l]) Q E s := by
  have size : its.size = ks.length := by
    have z := congrArg List.length eits
    simpa using z
  refine call_setG (Z := fun h' => ∃ L es ep t, St8 pg wd h' s.heap.objs.size L es ep t ∧ Got ks ks.length L) hh hl hu (fun A1 I fp wr G St s0 W nS wrN hu1 st0 hS kp R hR => ?_) fun h' tk ⟨L, es, ep, t, h8, g⟩ kp => fin h' tk L es ep t h8 g kp
  refine fill8 (s := s0) W nS ks size hfew (fun i v hv => ?_) s.heap hk (none_past (Nat.le_refl _)) wrN hu1 (fun s3 L es ep t mv h8 g _ => hR s3 mv ⟨L, es, ep, t, h8, by rw [← size]; exact g⟩) (its.size - 0) 0 _ (by omega) (Nat.zero_le _) st0 ⟨fun b o _ e => e, W.grefl _, rfl, rfl, Nat.le_refl _⟩ kp ⟨[], #[], 0, _, st8_new hS, Got.zero ks⟩
  have q : its.toList[i]? = some v := by rw [Array.getElem?_toList]; exact hv
  rw [eits, List.getElem?_map] at q
  cases hq : ks[i]? with
  | none => rw [hq] at q; cases q
  | some z => rw [hq] at q; cases q; exact ⟨z, rfl, rfl⟩
/-- set(xs), xs a list of ints -/
theorem call_setI {l : Addr} {its : Array Value} (ns : List Int) {Q : Value → Shared → Prop} (hh : A.handled = none) (hl : s.heap.IsList l its) (hi : IntsAre its.toList ns) (hb : ns.length + 1 < scanBound) (hu : A.units + 3 < cLine)
    (fin : ∀ (h' : Heap) (tk c : Nat), SetR wd h' s.heap.objs.size (fun j => decide (j ∈ ns)) c → (∀ b o, s.heap.get? b = some o → h'.get? b = some o) → Q (.ref s.heap.objs.size) { s with heap := h', toks := tk }) :
    wpAny (model pg wd) A (call (.type "set") [.ref l]) Q E s := by
  have size : its.size = ns.length := by
    have z := IntsAre.length hi
    rwa [Array.length_toList] at z
  refine call_setG (Z := fun h' => ∃ c, SetR wd h' s.heap.objs.size (fun j => decide (j ∈ ns)) c) hh hl hu (fun A1 I fp wr G St s0 W nS wrN hu1 st0 hS kp R hR => ?_) fun h' tk ⟨c, h8⟩ kp => fin h' tk c h8 kp
  refine set_update_ints W s.heap.objs.size nS ns size hb (fun i v hv => ?_) (its.size - 0) 0 _ (by omega) (Nat.zero_le _) st0 ⟨0, Nat.le_refl 0, setR_new_at hS⟩ fun s3 c mv _ h8 => hR s3 mv ⟨c, h8⟩
  have lt : i < ns.length := by rw [← size]; exact (Array.getElem?_eq_some_iff.mp hv).1
  obtain ⟨t, e⟩ := PyProof.Rows.IntsAre.int_at hi i v (by rw [Array.getElem?_toList]; exact hv)
  exact ⟨ns[i], t, List.getElem?_eq_getElem lt, by rw [e, List.getD_eq_getElem?_getD, List.getElem?_eq_getElem lt] <;> rfl⟩
end
end Sd
/-! sorted(set(xs)) -/
namespace Sd
open PySem PySem.Spec PyProof.Rows L2
/-! ### orders of keys -/
def ded : List (List Int) → List (List Int)
  | [] => []
  | x :: r => if x ∈ r then ded r else x :: ded r
theorem mem_ded {x : List Int} : ∀ {l : List (List Int)}, x ∈ ded l ↔ x ∈ l
  | [] => Iff.rfl
  | y :: r => by
    unfold ded
    by_cases c : y ∈ r
    · rw [if_pos c, mem_ded]
      exact ⟨fun h => List.mem_cons_of_mem _ h, fun h => (List.mem_cons.mp h).elim (fun e => e ▸ c) id⟩
    · rw [if_neg c]
      simp only [List.mem_cons, mem_ded (l := r)]
theorem nodup_ded : ∀ l : List (List Int), (ded l).Nodup
  | [] => .nil
  | y :: r => by
    unfold ded
    by_cases c : y ∈ r
    · rw [if_pos c]; exact nodup_ded r
    · rw [if_neg c]; exact List.nodup_cons.mpr ⟨fun h => c (mem_ded.mp h), nodup_ded r⟩
def dedI : List Int → List Int
  | [] => []
  | x :: r => if x ∈ r then dedI r else x :: dedI r
theorem mem_dedI {x : Int} : ∀ {l : List Int}, x ∈ dedI l ↔ x ∈ l
  | [] => Iff.rfl
  | y :: r => by
    unfold dedI
    by_cases c : y ∈ r
    · rw [if_pos c, mem_dedI]
      exact ⟨fun h => List.mem_cons_of_mem _ h, fun h => (List.mem_cons.mp h).elim (fun e => e ▸ c) id⟩
    · rw [if_neg c]
      simp only [List.mem_cons, mem_dedI (l := r)]
theorem nodup_dedI : ∀ l : List Int, (dedI l).Nodup
  | [] => .nil
  | y :: r => by
    unfold dedI
    by_cases c : y ∈ r
    · rw [if_pos c]; exact nodup_dedI r
    · rw [if_neg c]; exact List.nodup_cons.mpr ⟨fun h => c (mem_dedI.mp h), nodup_dedI r⟩
def sortK (l : List (List Int)) : List (List Int) := l.mergeSort fun a b => decide (a ≤ b)
def sortI (l : List Int) : List Int := l.mergeSort fun a b => decide (a ≤ b)
theorem sortK_perm (l : List (List Int)) : (sortK l).Perm l := List.mergeSort_perm _ _
theorem sortI_perm (l : List Int) : (sortI l).Perm l := List.mergeSort_perm _ _
theorem sortK_pw (l : List (List Int)) : (sortK l).Pairwise (· ≤ ·) := by
  have h := List.pairwise_mergeSort (le := fun a b : List Int => decide (a ≤ b)) (fun a b c h1 h2 => by simp only [decide_eq_true_eq] at *; exact List.le_trans h1 h2) (fun a b => by
    simp only [Bool.or_eq_true, decide_eq_true_eq]; exact List.le_total a b) l
  exact h.imp fun h => by simpa using h
theorem sortI_pw (l : List Int) : (sortI l).Pairwise (· ≤ ·) := by
  have h := List.pairwise_mergeSort (le := fun a b : Int => decide (a ≤ b)) (fun a b c h1 h2 => by simp only [decide_eq_true_eq] at *; omega) (fun a b => by
    simp only [Bool.or_eq_true, decide_eq_true_eq]; omega) l
  exact h.imp fun h => by simpa using h
theorem sortK_of_perm {a b : List (List Int)} (h : a.Perm b) : sortK a = sortK b :=
  List.Perm.eq_of_pairwise (le := (· ≤ ·)) (fun _ _ _ _ h1 h2 => List.le_antisymm h1 h2) (sortK_pw a) (sortK_pw b) (((sortK_perm a).trans h).trans (sortK_perm b).symm)
theorem perm_of_mem {α : Type} [BEq α] [LawfulBEq α] {a b : List α} (ha : a.Nodup) (hb : b.Nodup) (h : ∀ x, x ∈ a ↔ x ∈ b) : a.Perm b := (List.perm_ext_iff_of_nodup ha hb).mpr h
theorem sortI_eq {a b : List Int} (ha : a.Pairwise (· < ·)) (h : ∀ x, x ∈ a ↔ x ∈ b) : a = sortI (dedI b) := by
  have na : a.Nodup := ha.imp fun h e => by omega
  exact List.Perm.eq_of_pairwise (le := (· ≤ ·)) (fun _ _ _ _ h1 h2 => by omega) (ha.imp fun h => by omega) (sortI_pw _) ((perm_of_mem na (nodup_dedI b) fun x => by rw [h, mem_dedI]).trans (sortI_perm _).symm)
/-! ### as data -/
def tupOf (k : List Int) : D := .tuple (k.map .int)
def keysOf : List D → Option (List (List Int))
  | [] => some []
  | .tuple ds :: r => match intsOf ds, keysOf r with
    | some k, some ks => some (k :: ks)
    | _, _ => none
  | _ => none
theorem leS_tup (a b : List Int) : leS (tupOf a) (tupOf b) = decide (a ≤ b) := by
  have e := PySem.W.dataLt_ints b a
  show (!PySem.W.dataLt (.tuple (b.map .int)) (.tuple (a.map .int))) = _
  rw [PySem.W.dataLt_tuple]
  unfold PySem.W.rowLt at e
  rw [e]
  by_cases h : b < a
  · have h' : ¬ a ≤ b := fun r => List.not_lt.mpr r h
    simp [h, h']
  · have h' : a ≤ b := List.not_lt.mp h
    simp [h, h']
theorem srt_tups (l : List (List Int)) : srt (l.map tupOf) = (sortK l).map tupOf := by
  unfold srt sortK
  rw [List.map_mergeSort fun a _ b _ => (leS_tup a b).symm]
theorem nodL_all : ∀ l : List D, nodL l = l.all nod
  | [] => rfl
  | x :: l => by simp only [nodL, List.all_cons, nodL_all l]
theorem okS_perm {a b : List D} (h : a.Perm b) (ok : okS b = true) : okS a = true := by
  unfold okS alikeB sortB at ok ⊢
  have e : ∀ f : D → Bool, a.all f = b.all f := fun f => List.Perm.all_eq h
  rw [nodL_all] at ok ⊢
  simp only [e]
  exact ok
section
variable {pg : Program} {wd : World} {A : Around} {E : Value → Shared → Prop} {s : Shared}
variable {a : Addr} {L : List (Addr × List Int)} {es : Array (Int × Value)} {ep : Nat} {t : SetTable}
open PySem.W (AllAlike Sortable EachIs dataLe alike)
theorem each_refs {R : Value → Addr × List Int → Prop} : ∀ {L : List (Addr × List Int)}, (∀ z ∈ L, R (.ref z.1) z) → EachIs R (L.map fun z => Value.ref z.1) L
  | [], _ => .nil
  | z :: L, h => .cons (h z List.mem_cons_self) (each_refs fun y hy => h y (List.mem_cons_of_mem _ hy))
theorem refs_each : ∀ {us : List Value} {L : List (Addr × List Int)}, EachIs (fun u (z : Addr × List Int) => u = Value.ref z.1) us L → us = L.map fun z => Value.ref z.1
  | _, _, .nil => rfl
  | _, _, .cons h t => by rw [h, refs_each t] <;> rfl
/-- sorted(set) -/
theorem sorted8 (R : St8 pg wd s.heap a L es ep t) (hh : A.handled = none) (hu : A.units + 70 < cLine) (ok : okS ((L.map (·.2)).map tupOf) = true) {Q : Value → Shared → Prop}
    (fin : ∀ s' p (out : Array Value) (c : Nat) (L' : List (Addr × List Int)), (∀ b o, s.heap.get? b = some o → s'.heap.get? b = some o) → s'.gens = s.gens → s'.os = s.os → s.heap.objs.size ≤ p → s'.heap.get? p = some (seqObj "list" out c) → out.toList = L'.map (fun z => Value.ref z.1) →
      L'.Perm L → L'.map (·.2) = sortK (L.map (·.2)) → Q (.ref p) s') : wpAny (model pg wd) A (call (.builtin "sorted") [.ref a]) Q E s := by
  obtain ⟨o, ho, hex, hd⟩ := R.lies
  have few := R.few
  have z6 := sz6
  have es_len := R.size
  refine Calls.call_function_entry kind_sorted plain_sorted entry_sorted (args_sorted1 _) ?_
  unfold Builtin.«sorted»
  refine wpAny_bind (m := checkCount "sorted" 1 1 _) (wpAny_pure (wpAny_bind (collect_set (A := A.in1) hh ⟨o, ho, hex.1, hd⟩ R.fits (by unfold scanBound; omega) R.tab.ris R.ledd fun s1 vs kp hz g1 o1 pm => ?_)))
  rw [R.row, show (rowsOf pg wd L).map (·.2) = L.map fun z => Value.ref z.1 by unfold rowsOf; rw [List.map_map]; rfl] at pm
  obtain ⟨L1, e1, pm1⟩ : ∃ L1 : List (Addr × List Int), vs = L1.map (fun z => Value.ref z.1) ∧ L1.Perm L := by
    have key : ∀ (vs : List Value) (L : List (Addr × List Int)), vs.Perm (L.map fun z => Value.ref z.1) → ∃ L1 : List (Addr × List Int), vs = L1.map (fun z => Value.ref z.1) ∧ L1.Perm L := by
      intro vs
      induction vs with
      | nil =>
        intro L h
        have e : L = [] := by have := h.length_eq; simpa using this.symm
        exact ⟨[], rfl, by rw [e]⟩
      | cons v vs ih =>
        intro L h
        have hv : v ∈ L.map fun z => Value.ref z.1 := h.mem_iff.mp List.mem_cons_self
        obtain ⟨z, hz, rfl⟩ := List.mem_map.mp hv
        obtain ⟨L1, L2, rfl⟩ := List.append_of_mem hz
        have h2 : (Value.ref z.1 :: vs).Perm (Value.ref z.1 :: (L1 ++ L2).map fun z => Value.ref z.1) := h.trans (by
          rw [List.map_append, List.map_cons, List.map_append]; exact List.perm_middle)
        obtain ⟨L3, e3, p3⟩ := ih _ h2.cons_inv
        exact ⟨z :: L3, by rw [e3] <;> rfl, (p3.cons z).trans List.perm_middle.symm⟩
    exact key vs L pm
  subst e1
  have len1 : L1.length = L.length := pm1.length_eq
  refine wpAny_bind (wpAny_newList ?_ (by rw [List.length_map]; omega))
  have hl : (s1.heap.push (seqObj "list" (L1.map fun z => Value.ref z.1).toArray 0)).get? s1.heap.objs.size = some (seqObj "list" (L1.map fun z => Value.ref z.1).toArray 0) := Heap.get?_push_size _ rfl
  have rd : ∀ z ∈ L1, Reads (s1.heap.push (seqObj "list" (L1.map fun z => Value.ref z.1).toArray 0)) (.ref z.1) (tupOf z.2) [] := fun z hz => by
    obtain ⟨b, its, e, hT, hI⟩ := tupInts_of (isT_keep (R.tups z (pm1.mem_iff.mp hz)) fun b u e => Heap.get?_push_of_some _ (kp b u e))
    cases e
    exact reads_tuple_ints (vr := its.toList) (by simpa using hT) hI
  have eqm : L1.map (fun z => tupOf z.2) = (L1.map (·.2)).map tupOf := by rw [List.map_map]; rfl
  have ok1 : okS (L1.map fun z => tupOf z.2) = true := by rw [eqm]; exact okS_perm ((pm1.map _).map _) ok
  obtain ⟨hal, hso, _, dp⟩ := okS_some ok1
  refine wpAny_bind (wpAny_holding (PySem.W.list_sort_data (s := { s1 with heap := s1.heap.push (seqObj "list" (L1.map fun z => Value.ref z.1).toArray 0) }) (R := fun u (z : Addr × List Int) => u = Value.ref z.1) (enc := fun z => tupOf z.2) (bs := L1) hl (each_refs fun _ _ => rfl)
    (each_refs fun z hz => ⟨[], rd z hz, fun c => by cases c⟩) hal hso (by omega) (fun z hz => by have := dp (tupOf z.2) (List.mem_map.mpr ⟨z, hz, rfl⟩); show A.units + 1 + 1 + _ < _; omega) fun out hlen eo => ?_))
  have eo' := refs_each eo
  obtain ⟨c, hc⟩ := sortedHeap_at (vs := L1.map fun z => Value.ref z.1) (out := out.toArray) hl
  have pmS : (L1.mergeSort (dataLe false fun z : Addr × List Int => tupOf z.2)).Perm L1 := List.mergeSort_perm _ _
  refine wpAny_pure ⟨_, rfl, fin _ s1.heap.objs.size out.toArray c _ (fun b u e => ?_) g1 o1 hz hc (by simpa using eo') (pmS.trans pm1) ?_⟩
  · have z := kp b u e
    show (sortedHeap (s1.heap.push (seqObj "list" (L1.map fun z => Value.ref z.1).toArray 0)) s1.heap.objs.size (L1.map fun z => Value.ref z.1) out.toArray).get? b = some u
    rw [sortedHeap_old (Nat.ne_of_lt (Heap.lt_size z)) (by rw [size_push']; exact Nat.lt_succ_of_lt (Heap.lt_size z))]
    exact Heap.get?_push_of_some _ z
  · rw [← sortK_of_perm (pm1.map (·.2))]
    exact List.map_mergeSort (s := fun a b : List Int => decide (a ≤ b)) fun a _ b _ => leS_tup a.2 b.2
end
end Sd

namespace Sd
open PySem PySem.Spec PyProof.Rows L2
section
variable {X : Cx} {p : Addr} {K : PySem.W.Frag} {c fr : Bool} {f g : Env → M D} {e : Expr}
theorem few_of {ks : List (Addr × List Int)} (h : (ded (ks.map (·.2))).length ≤ 76) : Few ks := fun l nd sub => Nat.le_trans (List.Nodup.length_le_of_subset nd fun x hx => mem_ded.mpr (sub x hx)) h
where List.Nodup.length_le_of_subset : ∀ {a b : List (List Int)}, a.Nodup → (∀ x ∈ a, x ∈ b) → a.length ≤ b.length
  | [], _, _, _ => Nat.zero_le _
  | x :: a, b, h, s => by
    obtain ⟨h1, h2⟩ := List.nodup_cons.mp h
    have z := List.Nodup.length_le_of_subset (b := b.erase x) h2 fun y hy => (List.mem_erase_of_ne (fun e : y = x => h1 (e ▸ hy))).mpr (s y (List.mem_cons_of_mem _ hy))
    have hx := s x List.mem_cons_self
    rw [List.length_erase_of_mem hx] at z
    have hp : 0 < b.length := List.length_pos_of_mem hx
    rw [List.length_cons]
    omega
/-- sorted(set(xs)), xs a list of ints, of tuples of ints -/
def tSrtSet (K : PySem.W.Frag) (ta : TE) : TE := fun σ H Q => ta σ H fun x H1 => ∃ l, x = V.ref l ∧
  ((∃ ns : List Int, SqL K H1 l (ns.map V.int) ∧ ns.length ≤ 4000 ∧ (dedI ns).length < 64 ∧ ∀ b, H1 b = none → Q (.ref b) (upd H1 b (.lst ((sortI (dedI ns)).map V.int)))) ∨
   (∃ ks : List (Addr × List Int), SqL K H1 l (ks.map fun z => V.ref z.1) ∧ (∀ z ∈ ks, SqT K H1 z.1 (z.2.map V.int)) ∧ (ded (ks.map (·.2))).length ≤ 76 ∧ okS ((ded (ks.map (·.2))).map tupOf) = true ∧
     ∀ (b : Addr) (L : List (Addr × List Int)), H1 b = none → (∀ z ∈ L, z ∈ ks) → L.map (·.2) = sortK (ded (ks.map (·.2))) → Q (.ref b) (upd H1 b (.lst (L.map fun z => V.ref z.1)))))
theorem same_shared {s s' : Shared} (o : s'.os = s.os) : s' = { s with heap := s'.heap, gens := s'.gens, drawn := s'.drawn, toks := s'.toks } := by
  cases s'
  cases s
  cases o
  rfl
theorem pe_srtSet {a : Expr} {ta : TE} {p1 p2 p3 pos : Pos} (hc : X.calm = true) (hu : X.A.units + 80 < cLine) (hg : Gl X "sorted") (hm : X.mg "sorted" = none) (hg2 : Gl X "set") (hm2 : X.mg "set" = none) (ha : PE X a ta)
    (na : starEach [a] X.env = (false, eval a X.env) :: starEach [] X.env := by rfl) : PE X (.Call (.Name "sorted" p1) [.Call (.Name "set" p2) [a] [] p3] [] pos) (tSrtSet X.K ta) := by
  constructor
  intro pins s σ H Q I h
  refine Call_ (ld_blt I hg hm PyProof.Rows.boot_sorted ?_)
  refine PyProof.Rows.callWith_builtin1 (PyProof.Rows.args_cons ?_ rfl) rfl rfl
  refine Call_ (ld_blt I hg2 hm2 PyProof.Rows.boot_set ?_)
  refine PyProof.Rows.callWith_type1 (PyProof.Rows.args_cons (thn (ha.run pins s σ H _ I h) fun v s1 ⟨x, H1, I1, r1, q1⟩ => PyProof.Rows.args_nil ?_) na) na rfl
  obtain ⟨l, rfl, q1⟩ := q1
  cases r1
  have fin : ∀ (h' : Heap) (tk : Nat) (s2 : Shared) (b : Addr) (xs : List V) (its : Array Value) (ep : Nat), (∀ b o, s1.heap.get? b = some o → h'.get? b = some o) → (∀ b o, h'.get? b = some o → s2.heap.get? b = some o) → s2.gens = s1.gens → s2.os = s1.os → h'.objs.size ≤ b →
      s2.heap.get? b = some (seqObj "list" its ep) → Vals xs its.toList → xs.length ≤ sizeLine → (∀ b, H1 b = none → Q (.ref b) (upd H1 b (.lst xs))) → EP X pins σ Q (.ref b) s2 := by
    intro h' tk s2 b xs its ep k1 k2 g2 o2 hb hl rv hz q
    have I2 : Inv X pins σ H1 { s1 with heap := h', toks := tk } := I1.kept k1
    have hn : H1 b = none := I2.hok.fresh hb
    have J : Inv X pins σ (upd H1 b (.lst xs)) { ({ s1 with heap := h', toks := tk } : Shared) with heap := s2.heap, gens := s2.gens, drawn := s2.drawn, toks := s2.toks } :=
      I2.call (ch := []) (Un.laid (h := h') k2 hb hn) (I2.hok.laid k2 hb ⟨hz, its.toList, ep, rv, hl⟩) (by rw [g2]; exact I2.bare) (fun _ z => nomatch z)
    rw [same_shared o2]
    exact ⟨.ref b, _, J, rfl, q b hn⟩
  rcases q1 with ⟨ns, hq, hlen, hded, q⟩ | ⟨ks, hq, ht, h76, hok, q⟩
  · obtain ⟨its, r, pl, hz⟩ := I1.list hq
    refine call_setI ns (I1.ok.hd hc) pl.isList (by simpa using ints_of_vals r) (by unfold scanBound; omega) (by omega) fun h' tk c R kp => PyProof.Rows.args_nil ?_
    have mem : ∀ (l : List Int), l.Pairwise (· < ·) → (∀ k, k ∈ l ↔ decide (k ∈ ns) = true) → l = sortI (dedI ns) := fun l pw hk => sortI_eq pw fun x => by rw [hk]; simp
    have small : c < 64 := by
      obtain ⟨o, es, ep, t, ho, hex, hd, gd, nd, hm, hb, hf, hn, hr, hl⟩ := R
      have e : (es.toList.map keyOf).length = c := by rw [List.length_map, Array.length_toList, hn]
      rw [← e]
      have pp : (es.toList.map keyOf).Perm (dedI ns) := perm_of_mem nd (nodup_dedI ns) fun x => by rw [← hm, mem_dedI]; simp
      rw [pp.length_eq]
      exact hded
    refine sorted_set (s := { s1 with heap := h', toks := tk }) R (I1.ok.hd hc) small fun s2 b out ep l k2 g2 o2 hb hl hi pw hk hn => ?_
    have e := mem l pw hk
    refine fin h' tk s2 b (l.map V.int) out ep kp k2 g2 o2 hb hl (L2.vals_of_ints hi) (by have := sz6; rw [List.length_map, hn]; omega) ?_
    rw [e]; exact q
  · obtain ⟨its, r, pl, hz⟩ := I1.list hq
    refine call_set8 (pg := X.prog) (wd := X.w) ks (I1.ok.hd hc) pl.isList (by simpa using refs_of_vals r) (fun z hz => I1.isT (ht z hz)) (few_of h76) (by omega) fun h' tk L es ep t R g kp => PyProof.Rows.args_nil ?_
    have sub : ∀ z ∈ L, z ∈ ks := fun z hz => List.mem_of_mem_take (g.sub z hz)
    have pm : (L.map (·.2)).Perm (ded (ks.map (·.2))) := perm_of_mem R.once (nodup_ded _) fun x => by
      rw [mem_ded]
      constructor
      · intro hx
        obtain ⟨z, hz, rfl⟩ := List.mem_map.mp hx
        exact List.mem_map.mpr ⟨z, sub z hz, rfl⟩
      · intro hx
        obtain ⟨z, hz, rfl⟩ := List.mem_map.mp hx
        exact g.all z (by rw [List.take_length]; exact hz)
    refine sorted8 (s := { s1 with heap := h', toks := tk }) R (I1.ok.hd hc) (by show X.A.units + 70 < _; omega) (okS_perm (pm.map tupOf) hok) fun s2 b out ep L' k2 g2 o2 hb hl eo pL eK => ?_
    refine fin h' tk s2 b (L'.map fun z => V.ref z.1) out ep kp k2 g2 o2 hb hl (by rw [eo]; exact vals_of_refs L') (by have := sz6; have := St8.few (s := { s1 with heap := h', toks := tk }) R; rw [List.length_map, pL.length_eq]; omega) fun b hb => q b L' hb (fun z hz => sub z (pL.mem_iff.mp hz)) (by rw [eK]; exact sortK_of_perm pm)
/-! over data -/
def srtSetD : D → Option D
  | .list ds => match intsOf ds with
    | some ns => if ns.length ≤ 4000 ∧ (dedI ns).length < 64 then some (.list ((sortI (dedI ns)).map .int)) else none
    | none => match keysOf ds with
      | some ks => if (ded ks).length ≤ 76 ∧ okS ((ded ks).map tupOf) = true then some (.list ((sortK (ded ks)).map tupOf)) else none
      | none => none
  | _ => none
theorem rep_ints {H : Hp} : ∀ ns : List Int, RepL K p (ns.map .int) H (ns.map V.int)
  | [] => rfl
  | n :: ns => ⟨.int n, _, rfl, rfl, rep_ints ns⟩
theorem ints_map : ∀ {ds : List D} {ns : List Int}, intsOf ds = some ns → ds = ns.map .int
  | [], _, e => by cases e; rfl
  | d :: ds, ns, e => by
    cases d with
    | int i =>
      have e' : (intsOf ds).map (i :: ·) = some ns := e
      cases z : intsOf ds with
      | none => rw [z] at e'; cases e'
      | some ms => rw [z] at e'; cases e'; rw [ints_map z]; rfl
    | _ => cases e
theorem keys_rep {H : Hp} : ∀ {ds : List D} {kk : List (List Int)} {ws : List V}, keysOf ds = some kk → RepL K p ds H ws → ∃ ks : List (Addr × List Int), ks.map (·.2) = kk ∧ ws = ks.map (fun z => V.ref z.1) ∧ ∀ z ∈ ks, Rep K p (tupOf z.2) H (.ref z.1)
  | [], _, _, e, r => by cases e; exact ⟨[], rfl, r, fun _ z => by cases z⟩
  | d :: ds, kk, _, e, r => by
    obtain ⟨v, vr, rfl, h1, h2⟩ := r
    cases d with
    | tuple xs =>
      have e' : (match intsOf xs, keysOf ds with
        | some k, some ks => some (k :: ks)
        | _, _ => none) = some kk := e
      cases z1 : intsOf xs with
      | none => rw [z1] at e'; cases e'
      | some k =>
        cases z2 : keysOf ds with
        | none => rw [z1, z2] at e'; cases e'
        | some ks =>
          rw [z1, z2] at e'; cases e'
          obtain ⟨L, e1, e2, e3⟩ := keys_rep z2 h2
          have h1' := h1
          obtain ⟨a, vs, rfl, _, _⟩ := h1
          refine ⟨(a, k) :: L, by rw [List.map_cons, e1], by rw [List.map_cons, e2], fun z hz => ?_⟩
          rcases List.mem_cons.mp hz with c | c
          · rw [c]; unfold tupOf; rw [← ints_map z1]; exact h1'
          · exact e3 z c
    | _ => cases e
theorem repL_refs {H : Hp} : ∀ {L : List (Addr × List Int)}, (∀ z ∈ L, Rep K p (tupOf z.2) H (.ref z.1)) → RepL K p ((L.map (·.2)).map tupOf) H (L.map fun z => V.ref z.1)
  | [], _ => rfl
  | z :: L, h => ⟨.ref z.1, _, rfl, h z List.mem_cons_self, repL_refs fun y hy => h y (List.mem_cons_of_mem _ hy)⟩
theorem d_srtSet {a : Expr} {c1 f1 : Bool} {p1 p2 p3 pos : Pos} (hc : X.calm = true) (hu : X.A.units + 80 < cLine) (hg : Gl X "sorted") (hm : X.mg "sorted" = none) (hg2 : Gl X "set") (hm2 : X.mg "set" = none) (ha : DE X p a f c1 f1)
    (na : starEach [a] X.env = (false, eval a X.env) :: starEach [] X.env := by rfl) : DE X p (.Call (.Name "sorted" p1) [.Call (.Name "set" p2) [a] [] p3] [] pos) (ap1 srtSetD f) false true :=
  ⟨peHL (pe_srtSet hc hu hg hm hg2 hm2 ha.pe na) fun σ H Q hl t => by
    obtain ⟨F, ρ, B, q, d, q', k1, k2, k3⟩ := t hl
    obtain ⟨d1, q1, e1, k2⟩ := M.bind_some k2
    obtain ⟨e2, rfl⟩ := M.of_some k2
    refine fun _ => ⟨F, ρ, B, q, d1, _, k1, e1, fun x H1 l1 s1 p1 r1 _ => ?_⟩
    have nt := (k1.stp s1 p1).nt
    cases d1 with
    | list ds =>
      obtain ⟨l, ws, rfl, _, h1, h2⟩ := r1.cons.lst k1.pB
      refine ⟨l, rfl, ?_⟩
      unfold srtSetD at e2
      dsimp only at e2
      cases z : intsOf ds with
      | some ns =>
        rw [z] at e2
        dsimp only at e2
        by_cases ok : ns.length ≤ 4000 ∧ (dedI ns).length < 64
        · rw [if_pos ok] at e2
          cases e2
          have ew := intsOf_rep z h2
          subst ew
          exact .inl ⟨ns, .inl (.inl h1), ok.1, ok.2, fun b nb l' => k3 _ _ l' (s1.trans (Stp.of (same_upd nb))) (same_upd nb _ _ p1) (rep_lst nt nb (rep_ints _)) (fun _ => new_of s1 p1 nb)⟩
        · rw [if_neg ok] at e2; cases e2
      | none =>
        rw [z] at e2
        dsimp only at e2
        cases z2 : keysOf ds with
        | none => rw [z2] at e2; cases e2
        | some kk =>
          rw [z2] at e2
          dsimp only at e2
          by_cases ok : (ded kk).length ≤ 76 ∧ okS ((ded kk).map tupOf) = true
          · rw [if_pos ok] at e2
            cases e2
            obtain ⟨ks, rfl, rfl, h3⟩ := keys_rep z2 h2
            refine .inr ⟨ks, .inl (.inl h1), fun z hz => ?_, ok.1, ok.2, fun b L nb sub eL l' => k3 _ _ l' (s1.trans (Stp.of (same_upd nb))) (same_upd nb _ _ p1) ?_ (fun _ => new_of s1 p1 nb)⟩
            · obtain ⟨a, vs, ea, g1, g2⟩ := Rep.out (h3 z hz)
              cases ea
              have ev := intsOf_rep (ns := z.2) (by
                have key : ∀ l : List Int, intsOf (l.map .int) = some l := fun l => by
                  induction l with
                  | nil => rfl
                  | cons n l ih => show (intsOf (l.map .int)).map (n :: ·) = _; rw [ih]; rfl
                exact key z.2) g2
              rw [ev] at g1
              exact g1.sq
            · have r := repL_refs (L := L) fun z hz => h3 z (sub z hz)
              rw [eL] at r
              exact rep_lst nt nb r
          · rw [if_neg ok] at e2; cases e2
    | _ => cases e2⟩
end
end Sd
/-! sum(lists, []) -/
namespace Sd
open PySem PySem.Spec PyProof.Rows L2
section
variable {pg : Program} {wd : World} {A : Around} {E : Value → Shared → Prop} {s : Shared}
abbrev lstO (vs : List Value) (n : Nat) : Obj := { cls := .type "list", data := .seq vs.toArray n }
/-- the items of the lists, one list behind another -/
def catV (ls : List (Addr × List Value)) : List Value := (ls.map (·.2)).flatten
theorem catV_snoc {ls : List (Addr × List Value)} {i : Nat} {z : Addr × List Value} (h : ls[i]? = some z) : catV (ls.take (i + 1)) = catV (ls.take i) ++ z.2 := by
  unfold catV
  rw [List.take_succ, h]
  simp
theorem catV_le {ls : List (Addr × List Value)} (i : Nat) : (catV (ls.take i)).length ≤ (catV ls).length := by
  conv => rhs; rw [← List.take_append_drop i ls]
  unfold catV
  rw [List.map_append, List.flatten_append, List.length_append]
  omega
theorem sumL_loop {I S : Addr} {fp wr : List Addr} {G : Array GenState → Array GenState → Prop} {n : Nat} {Y : Nat → Value → Prop} {St : Nat → Shared → Prop} {R : Result → Shared → Prop} (W : WalksS pg wd A.in1 I fp wr G n Y St) (hS : S ∉ fp)
    (ls : List (Addr × List Value)) (hn : n = ls.length) (hY : ∀ i v, Y i v → ∃ z, ls[i]? = some z ∧ v = .ref z.1) (h0 : Heap) (h0l : ∀ z ∈ ls, ∃ c, h0.get? z.1 = some (lstO z.2 c)) (h0S : h0.get? S = none) (h0w : ∀ b ∈ wr, h0.get? b = none) (wS : ∀ b ∈ wr, b < S) (S0 : h0.objs.size ≤ S)
    (small : (catV ls).length ≤ sizeLine) (s0 : Shared) (T0 : Addr) (done : ∀ s' T c, Moved (S :: wr) G s0 s' → s'.heap.get? T = some (lstO (catV ls) c) → (ls = [] → T = T0) → (ls ≠ [] → h0.objs.size ≤ T) → R (.ok (.ret (.ref T))) s') :
    ∀ (m i : Nat) (s1 : Shared) (T : Addr) (c c1 : Nat), n - i = m → i ≤ n → St i s1 → Moved (S :: wr) G s0 s1 → (∀ b o, h0.get? b = some o → s1.heap.get? b = some o) → s1.heap.get? S = some { cls := .type "list", dict := none, data := .seq #[.ref T] c, slots := #[] } →
      s1.heap.get? T = some (lstO (catV (ls.take i)) c1) → T ∉ S :: wr → (i = 0 → T = T0) → (i ≠ 0 → h0.objs.size ≤ T) → (∀ b o, s1.heap.get? b = some o → b < s1.heap.objs.size) →
      codeAny (model pg wd) A (.builtin "sum.loop" ⟨[.ref I, .ref S, rawInt 2, rawInt 0], []⟩) R s1 := by
  have wide : ∀ b ∈ wr, b ∈ S :: wr := fun b hb => List.mem_cons_of_mem _ hb
  have Swr : S ∉ wr := fun c => hS (W.sub _ c)
  intro m
  induction m with
  | zero =>
    intro i s1 T c c1 e hi hst mv kp hSl hT nT t0 t1 _
    obtain rfl : i = n := by omega
    refine codeAny_builtin F.entry_sum_loop ?_
    rw [Around.under_plainId F.plain_sum_loop _]
    show wpAny _ A.in1 (seqItems? (.ref S) >>= _) _ _ s1
    refine wpAny_bind (wpAny_seqItems hSl rfl ?_)
    show wpAny _ A.in1 (tryCatch (pyNext (.ref I)) _ >>= _) _ _ s1
    refine wpAny_bind (wpAny_tryCatch (W.done s1 _ _ hst fun s2 mv2 => ?_))
    rw [hn, List.take_length] at hT
    exact wpAny_pure (done s2 T c1 (Moved.trans W.gtrans mv (mv2.mono wide)) (mv2.heap T _ (fun z => nT (wide _ z)) hT) (fun z => t0 (by rw [hn, z] <;> rfl)) fun z => t1 (by rw [hn]; exact fun y => z (List.length_eq_zero_iff.mp y)))
  | succ m ih =>
    intro i s1 T c c1 e hi hst mv kp hSl hT nT t0 t1 _
    have lt : i < n := by omega
    refine codeAny_builtin F.entry_sum_loop ?_
    rw [Around.under_plainId F.plain_sum_loop _]
    show wpAny _ A.in1 (seqItems? (.ref S) >>= _) _ _ s1
    refine wpAny_bind (wpAny_seqItems hSl rfl ?_)
    show wpAny _ A.in1 (tryCatch (pyNext (.ref I)) _ >>= _) _ _ s1
    refine wpAny_bind (wpAny_tryCatch (W.item i s1 _ _ lt hst fun v s2 hv hst2 mv2 => ?_))
    obtain ⟨z, hz, rfl⟩ := hY i v hv
    have kp2 : ∀ b o, h0.get? b = some o → s2.heap.get? b = some o := fun b o e => mv2.heap b o (fun y => by rw [h0w b y] at e; cases e) (kp b o e)
    have hS2 := mv2.heap S _ Swr hSl
    have hT2 := mv2.heap T _ (fun y => nT (wide _ y)) hT
    obtain ⟨c2, hz2⟩ := h0l z (List.mem_of_getElem? hz)
    have hz3 := kp2 _ _ hz2
    have len := catV_snoc hz
    have le := catV_le (ls := ls) (i + 1)
    rw [len, List.length_append] at le
    show wpAny _ A.in1 ((holding [Value.ref z.1] (binaryOp .Add (.ref T) (.ref z.1))).attempt >>= _) _ _ _
    refine wpAny_bind (wpAny_attempt (wpAny_holding (PySem.P.add_list hT2 hz3 ?_ (by rw [List.size_toArray, List.size_toArray]; omega))))
    rw [show (catV (ls.take i)).toArray ++ z.2.toArray = (catV (ls.take (i + 1))).toArray by rw [len]; simp]
    have ltS : S < s2.heap.objs.size := Heap.lt_size hS2
    have hS3 : (s2.heap.push (lstO (catV (ls.take (i + 1))) 0)).get? S = some { cls := .type "list", dict := none, data := .seq #[.ref T] c, slots := #[] } := Heap.get?_push_of_some _ hS2
    show wpAny _ A.in1 (updateSeq S (fun _ => #[.ref s2.heap.objs.size]) >>= _) _ _ { s2 with heap := s2.heap.push (lstO (catV (ls.take (i + 1))) 0) }
    refine wpAny_bind (wpAny_updateSeq hS3 rfl (wpAny_bind (wpAny_letGo ?_)))
    have hS4 := Heap.get?_update_self (Obj.mapSeq fun _ => #[Value.ref s2.heap.objs.size]) hS3 rfl
    refine wpAny_bind (wpAny_updateSeq hS4 rfl ?_)
    have hS5 := Heap.get?_update_self (Obj.mapSeq fun _ => #[Value.ref s2.heap.objs.size]) hS4 rfl
    have other : ∀ b, b ≠ S → ∀ o, (s2.heap.push (lstO (catV (ls.take (i + 1))) 0)).get? b = some o → (((s2.heap.push (lstO (catV (ls.take (i + 1))) 0)).update S (Obj.mapSeq fun _ => #[Value.ref s2.heap.objs.size])).update S (Obj.mapSeq fun _ => #[Value.ref s2.heap.objs.size])).get? b = some o := fun b nb o e =>
      (Heap.get?_update_other _ _ (Ne.symm nb)).trans ((Heap.get?_update_other _ _ (Ne.symm nb)).trans e)
    have wrlt : ∀ b ∈ wr, b ≠ s2.heap.objs.size := fun b hb y => absurd (Nat.lt_trans (wS b hb) ltS) (by rw [y]; exact Nat.lt_irrefl _)
    refine wpAny_pure ⟨plainId_quiet F.plain_sum_loop _, ih (i + 1) _ s2.heap.objs.size _ 0 (by omega) lt (W.frame _ s2 _ _ hst2 (Nat.le_refl _) fun b hb o e => ?_) ?_ (fun b o e => ?_) hS5 (other _ (Nat.ne_of_gt ltS) _ (Heap.get?_push_size _ rfl)) (fun y => ?_) (fun y => by omega) (fun _ => ?_) (fun b o e => Heap.lt_size e)⟩
    · exact other b (fun y => hS (y ▸ hb)) o (Heap.get?_push_of_some _ e)
    · exact Moved.trans W.gtrans mv ((mv2.mono wide).then_heap (Nat.le_refl _) fun b o hb e => other b (fun y => hb (by rw [y]; exact List.mem_cons_self)) o (Heap.get?_push_of_some _ e))
    · exact other b (fun y => by rw [y, h0S] at e; cases e) o (Heap.get?_push_of_some _ (kp2 b o e))
    · rcases List.mem_cons.mp y with y | y
      · exact absurd ltS (by rw [y]; exact Nat.lt_irrefl _)
      · exact wrlt _ y rfl
    · exact Nat.le_of_lt (Nat.lt_of_le_of_lt S0 ltS)
theorem args_sum2 (a b : Value) : argsOk "sum" ⟨[a, b], []⟩ := by unfold argsOk; kernel_rfl
/-- sum(xs, []), xs a list of lists -/
theorem call_sumL {l b : Addr} {c0 cb : Nat} (ls : List (Addr × List Value)) {Q : Value → Shared → Prop} (hh : A.handled = none) (hl : s.heap.get? l = some (lstO (ls.map fun z => Value.ref z.1) c0)) (hb : s.heap.get? b = some (lstO [] cb)) (hls : ∀ z ∈ ls, ∃ c, s.heap.get? z.1 = some (lstO z.2 c))
    (small : (catV ls).length ≤ sizeLine) (fin : ∀ (h' : Heap) (tk : Nat) (T : Addr) (c : Nat), (∀ b o, s.heap.get? b = some o → h'.get? b = some o) → h'.get? T = some (lstO (catV ls) c) → (ls = [] → T = b) → (ls ≠ [] → s.heap.objs.size ≤ T) → Q (.ref T) { s with heap := h', toks := tk }) :
    wpAny (model pg wd) A (call (.builtin "sum") [.ref l, .ref b]) Q E s := by
  refine call_function_tree F.kind_sum F.plain_sum F.entry_sum (args_sum2 _ _) ?_
  unfold Builtin.«sum»
  simp only [List.length_cons, List.length_nil]
  rw [if_neg (by decide)]
  refine wpAny_bind (wpAny_of_eq (show Builtin.Builtins.bindParams "sum" ["start"] 0 ⟨[.ref b], []⟩ = pure [some (.ref b)] from rfl) ?_)
  have hL : s.heap.IsList l (ls.map fun z => Value.ref z.1).toArray := ⟨_, hl, rfl, c0, rfl⟩
  refine wpAny_bind (wpAny_pyIter_list hL ?_)
  have TI : ∀ h' : Heap, (∀ b o, s.heap.get? b = some o → h'.get? b = some o) → Shared.TypeIs { s with heap := h' } (.ref b) "list" := fun h' k => ⟨_, k _ _ hb, rfl⟩
  have hb1 := Heap.get?_push_of_some { cls := .type "list_iterator", data := .fields #[.ref l, .int 0 0] } hb
  refine wpAny_bind (wpAny_pure ?_)
  simp only [List.forIn_cons, List.forIn_nil]
  refine wpAny_bind (wpAny_bind (wpAny_bind (wpAny_isInstance (T := "list") (b := false) ⟨_, hb1, rfl⟩ F.sub_list_str ?_)))
  simp only [Bool.false_eq_true, if_false]
  refine wpAny_pure (wpAny_bind (wpAny_bind (wpAny_isInstance (T := "list") (b := false) ⟨_, hb1, rfl⟩ F.sub_list_bytes ?_)))
  simp only [Bool.false_eq_true, if_false]
  refine wpAny_pure (wpAny_bind (wpAny_bind (wpAny_isInstance (T := "list") (b := false) ⟨_, hb1, rfl⟩ F.sub_list_bytearray ?_)))
  simp only [Bool.false_eq_true, if_false]
  refine wpAny_pure (wpAny_pure (wpAny_bind (wpAny_newObj_type ?_)))
  have nI : l ≠ s.heap.objs.size := Nat.ne_of_lt (Heap.lt_size hl)
  have sz : (s.heap.push { cls := .type "list_iterator", data := .fields #[.ref l, .int 0 0] }).objs.size = s.heap.objs.size + 1 := Heap.size_push ..
  have W := (Walks.list (prog := pg) (w := wd) (A := A.in1) (by simp [hh]) s.heap.objs.size l nI (ls.map fun z => Value.ref z.1).toArray).toS
  have old : ∀ b o, s.heap.get? b = some o → ((s.heap.push { cls := .type "list_iterator", data := .fields #[.ref l, .int 0 0] }).push { cls := .type "list", data := .seq #[.ref b] }).get? b = some o := fun b o e => Heap.get?_push_of_some _ (Heap.get?_push_of_some _ e)
  have hit : ∀ {d : Addr}, d < s.heap.objs.size → d ∈ (s.heap.push { cls := .type "list_iterator", data := .fields #[.ref l, .int 0 0] }).objs.size :: [s.heap.objs.size] → False := fun {d} lt y => by
    rw [sz] at y
    rcases List.mem_cons.mp y with y | y
    · rw [y] at lt; exact absurd lt (Nat.not_lt.mpr (Nat.le_succ _))
    · rw [List.mem_singleton.mp y] at lt; exact Nat.lt_irrefl _ lt
  have hsize : (ls.map fun z => Value.ref z.1).toArray.size = ls.length := by simp
  refine wpAny_pure ⟨plainId_quiet F.plain_sum_loop _, sumL_loop (W := W) (S := (s.heap.push { cls := .type "list_iterator", data := .fields #[.ref l, .int 0 0] }).objs.size) (fun y => ?_) ls hsize (fun i v hv => ?_) s.heap hls (none_past (by rw [sz]; exact Nat.le_succ _)) (fun b hb => none_past (by rw [List.mem_singleton.mp hb]; exact Nat.le_refl _)) (fun b hb => by rw [List.mem_singleton.mp hb, sz]; exact Nat.lt_succ_self _) (by rw [sz]; exact Nat.le_succ _) small
    { s with heap := (s.heap.push { cls := .type "list_iterator", data := .fields #[.ref l, .int 0 0] }).push { cls := .type "list", data := .seq #[.ref b] } } b (fun s3 T c mv hT t0 t1 => ?_) _ 0 _ b 0 cb rfl (Nat.zero_le _) ?_ ⟨fun b o _ e => e, rfl, rfl, rfl, Nat.le_refl _⟩ (fun b o e => Heap.get?_push_of_some _ (Heap.get?_push_of_some _ e)) (Heap.get?_push_size _ rfl) (Heap.get?_push_of_some _ (by simpa [catV] using hb1)) (fun y => ?_) (fun _ => rfl) (fun y => absurd rfl y) (fun b o e => Heap.lt_size e)⟩
  · rw [sz] at y
    have lt := Heap.lt_size hl
    rcases List.mem_cons.mp y with y | y
    · exact absurd y (Nat.succ_ne_self _)
    · rw [← List.mem_singleton.mp y] at lt; exact absurd lt (Nat.not_lt.mpr (Nat.le_succ _))
  · have q : (ls.map fun z => Value.ref z.1)[i]? = some v := by simpa using hv
    rw [List.getElem?_map] at q
    cases hq : ls[i]? with
    | none => rw [hq] at q; cases q
    | some z => rw [hq] at q; cases q; exact ⟨z, rfl, rfl⟩
  · obtain ⟨h', g2, d', tk', os'⟩ := s3
    have eg : g2 = s.gens := mv.gens
    have ed : d' = s.drawn := mv.drawn
    have eo : os' = s.os := mv.os
    subst eg; subst ed; subst eo
    refine fin h' tk' T c (fun d o e => ?_) hT t0 t1
    have lt := Heap.lt_size e
    refine mv.heap d o (fun y => ?_) (Heap.get?_push_of_some _ (Heap.get?_push_of_some _ e))
    exact hit lt y
  · exact ⟨⟨_, Heap.get?_push_of_some _ (Heap.get?_push_size _ rfl), rfl, rfl⟩, (hL.push _).push _⟩
  · exact hit (Heap.lt_size hb) y
end
end Sd

namespace Sd
open PySem PySem.Spec PyProof.Rows L2
section
variable {X : Cx} {p : Addr} {K : PySem.W.Frag} {c fr : Bool} {f g : Env → M D} {e : Expr}
/-- sum(xs, []): xs holds lists -/
def rSumL (K : PySem.W.Frag) : List V → Hp → VK → Prop := fun vs H Q => ∃ (l b : Addr) (ls : List (Addr × List V)), vs = [.ref l, .ref b] ∧ H l = some (.lst (ls.map fun z => V.ref z.1)) ∧ H b = some (.lst []) ∧ (∀ z ∈ ls, H z.1 = some (.lst z.2)) ∧ ((ls.map (·.2)).flatten).length ≤ sizeLine ∧
  (ls = [] → Q (.ref b) H) ∧ (ls ≠ [] → ∀ t, H t = none → Q (.ref t) (upd H t (.lst (ls.map (·.2)).flatten)))
theorem raw_lists {pins : List (Addr × Obj)} {σ : L2.St} {H : Hp} {s : Shared} (I : Inv X pins σ H s) : ∀ {ls : List (Addr × List V)}, (∀ z ∈ ls, H z.1 = some (.lst z.2)) →
    ∃ rs : List (Addr × List Value), rs.map (·.1) = ls.map (·.1) ∧ (∀ z ∈ rs, ∃ c, s.heap.get? z.1 = some (lstO z.2 c)) ∧ Vals ((ls.map (·.2)).flatten) (catV rs)
  | [], _ => ⟨[], rfl, fun _ h => (by cases h), .nil⟩
  | z :: ls, h => by
    obtain ⟨rs, h1, h2, h3⟩ := raw_lists I (ls := ls) fun y hy => h y (List.mem_cons_of_mem _ hy)
    obtain ⟨_, its, n, r, _, e⟩ := I.lstM (h z List.mem_cons_self)
    refine ⟨(z.1, its) :: rs, by simp [h1], fun y hy => ?_, ?_⟩
    · rcases List.mem_cons.mp hy with c | c
      · rw [c]; exact ⟨n, e⟩
      · exact h2 y c
    · show Vals (z.2 ++ (ls.map (·.2)).flatten) (its ++ catV rs)
      exact r.append h3
theorem refs_map : ∀ {ls : List (Addr × List V)} {us : List Value}, Vals (ls.map fun z => V.ref z.1) us → us = (ls.map (·.1)).map Value.ref
  | [], _, .nil => rfl
  | z :: ls, _, .cons r t => by
    cases r
    rw [refs_map t] <;> rfl
theorem cr_sumL (hc : X.calm = true) : CallR X (.builtin "sum") (rSumL X.K) := by
  intro pins s σ H vs us Q I r h
  obtain ⟨l, b, ls, rfl, hl, hb, hls, small, q0, q1⟩ := h
  obtain ⟨u, v, rfl, ru, rv⟩ := r.two
  cases ru
  cases rv
  obtain ⟨rs, e1, e2, e3⟩ := raw_lists I hls
  obtain ⟨_, its, n, ri, _, e4⟩ := I.lstM hl
  obtain ⟨_, its2, n2, ri2, _, e5⟩ := I.lstM hb
  cases ri2
  have ei := refs_map ri
  rw [← e1, List.map_map] at ei
  have len := e3.length
  refine call_sumL (s := s) rs (I.ok.hd hc) (c0 := n) (cb := n2) (by rw [e4, ei]; rfl) e5 e2 (by rw [← len]; exact small) fun h' tk T c kp hT t0 t1 => ?_
  have nil_iff : rs = [] ↔ ls = [] := by
    constructor
    · intro z; rw [z] at e1; exact List.map_eq_nil_iff.mp e1.symm
    · intro z; rw [z] at e1; exact List.map_eq_nil_iff.mp e1
  by_cases z : ls = []
  · rw [t0 (nil_iff.mpr z)]
    exact ⟨.ref b, H, I.kept kp, rfl, q0 z⟩
  · have hn : s.heap.objs.size ≤ T := t1 fun y => z (nil_iff.mp y)
    exact ⟨.ref T, upd H T (.lst (ls.map (·.2)).flatten), I.laid (t' := tk) kp hn ⟨small, catV rs, c, e3, hT⟩, rfl, q1 z T (I.hok.fresh hn)⟩
end
end Sd
/-! more statements, methods, walks -/
namespace Sd
open PySem PySem.Spec PyProof.Rows L2
section
variable {X : Cx} {p : Addr} {K : PySem.W.Frag} {H0 H H' H1 : Hp} {Ext own B : List Addr} {σ : L2.St} {ρ : Env} {q q' : Pot} {E : Ends} {F : Addr → Prop} {c fr : Bool} {f g : Env → M D} {e : Expr}
/-! ### sum(lists, []) -/
def listsOf : List D → Option (List (List D))
  | [] => some []
  | .list xs :: r => (listsOf r).map (xs :: ·)
  | _ => none
def sumLD : List D → Option D
  | [.list ds, .list []] => match listsOf ds with
    | some xs => if xs.flatten.length ≤ 1000000 then some (.list xs.flatten) else none
    | none => none
  | _ => none
theorem lists_rep {R : Hp} : ∀ {ds : List D} {xs : List (List D)} {ws : List V}, listsOf ds = some xs → RepL K p ds R ws → ∃ ls : List (Addr × List V), ws = ls.map (fun z => V.ref z.1) ∧ (∀ z ∈ ls, R z.1 = some (.lst z.2)) ∧ RepL K p xs.flatten R (ls.map (·.2)).flatten ∧ (ls = [] ↔ xs = [])
  | [], _, _, e, r => by cases e; exact ⟨[], r, fun _ h => (by cases h), rfl, by simp⟩
  | d :: ds, xs, _, e, r => by
    obtain ⟨v, vr, rfl, h1, h2⟩ := r
    cases d with
    | list ys =>
      have e' : (listsOf ds).map (ys :: ·) = some xs := e
      cases z : listsOf ds with
      | none => rw [z] at e'; cases e'
      | some yss =>
        rw [z] at e'; cases e'
        obtain ⟨ls, e1, e2, e3, _⟩ := lists_rep z h2
        obtain ⟨a, vs, rfl, g1, g2⟩ := h1
        refine ⟨(a, vs) :: ls, by rw [e1] <;> rfl, fun y hy => ?_, ?_, by simp⟩
        · rcases List.mem_cons.mp hy with c | c
          · rw [c]; exact g1
          · exact e2 y c
        · show RepL K p (ys ++ yss.flatten) R (vs ++ (ls.map (·.2)).flatten)
          exact RepL.app (RepL.out g2) e3
    | _ => cases e
/-- values that are data, not changing -/
def OkC (K : PySem.W.Frag) (p : Addr) (r : List V → Hp → VK → Prop) (g : List D → Option D) (fr : Bool) : Prop :=
  ∀ (vs : List V) (H : Hp) (B : List Addr) (ds : List D) (d : D) (Q : VK), p ∈ B → (∀ a ∈ B, ∃ o, H a = some o ∧ nontup o = true) → HL H → RepL K p ds (hide H B) vs → g ds = some d →
    (∀ v H', Same H H' → Rep K p d (hide H' B) v → (fr = true → New H v d) → Q v H') → r vs H Q
theorem d_callR0 {es : List Expr} {fs : List (Env → M D)} {r : List V → Hp → VK → Prop} {g : List D → Option D} (t : ∀ {ta : TA}, PA X es ta → PE X e (tCB r ta)) (ok : OkC X.K p r g fr) (ha : DA X p es fs false) : DE X p e (ap g fs) false fr :=
  ⟨peHL (t ha.pa) fun σ H Q hl t => by
    obtain ⟨F, ρ, B, q, d, q', k1, k2, k3⟩ := t hl
    obtain ⟨ds, q1, e1, k2⟩ := M.bind_some k2
    obtain ⟨e2, rfl⟩ := M.of_some k2
    exact fun _ => ⟨F, ρ, B, q, ds, _, k1, e1, fun vs H1 l1 s1 p1 r1 => ok vs H1 B ds d _ k1.pB (k1.stp s1 p1).nt l1 r1.rep e2 fun v H' s' rep new l' =>
      k3 v H' l' (s1.trans (Stp.of s')) (s' _ _ p1) rep fun z y => by
        obtain ⟨a, ea, na⟩ := new z y
        refine ⟨a, ea, ?_⟩
        by_cases hp : a = p
        · subst hp; rw [na] at p1; cases p1
        · exact s1.free hp na⟩⟩
theorem ok_sumL : OkC X.K p (rSumL X.K) sumLD false := fun vs H B ds d Q hp nt hl r e q => by
  unfold sumLD at e
  split at e
  · rename_i ds
    cases z : listsOf ds with
    | none => rw [z] at e; cases e
    | some xs =>
      rw [z] at e
      dsimp only at e
      by_cases ok : xs.flatten.length ≤ 1000000
      · rw [if_pos ok] at e
        cases e
        obtain ⟨v, _, rfl, h1, w, _, rfl, h2, rfl⟩ := r
        obtain ⟨l, ws, rfl, g1, g2⟩ := h1
        have h2' := h2
        obtain ⟨b, us, rfl, b1, b2⟩ := h2
        rw [show us = [] from b2] at b1
        obtain ⟨ls, e1, e2, e3, e4⟩ := lists_rep z (RepL.out g2)
        have z6 := sz6
        refine ⟨l, b, ls, rfl, by rw [← e1]; exact (hide_some g1).2, (hide_some b1).2, fun y hy => (hide_some (e2 y hy)).2, by rw [e3.length]; omega, fun y => ?_, fun y t nt' => q _ _ (same_upd nt') (rep_lst nt nt' e3) (fun z => by cases z)⟩
        have ex : xs.flatten = [] := by rw [e4.mp y]; rfl
        rw [ex] at q
        exact q _ _ (Same.refl _) h2' (fun z => by cases z)
      · rw [if_neg ok] at e; cases e
  · cases e
/-! ### x = [.. for ..] -/
section
variable {x : Str} {elt tg iter : Expr} {ifs : List Expr} {scope : Scope} {pos pos' spos : Pos} {it : IE} {ci cr pr tk : Bool} {gd : Gd} {ft fe : Env → M D}
theorem ds_setLc (i : Nat) (lcs : List (Str × Nat)) (hpt : pr = true → tk = true) (hc : X.calm = true) (hN : X.N.Nodup) (hi : X.N[i]? = some x) (hx : X.env.scope.names.lookup x = some .local)
    (hsw : swapsWith (.ListComp elt [⟨tg, iter, ifs, 0⟩] scope pos) (some (.Name x pos')) spos.line X.env = pure true) (ok : BlkOk X.N X.env.scope scope lcs) (hit : DI X p tg iter it ci pr)
    (hgo : Gin gd (lcs.map (·.2))) (hg : ∀ (s : Shared) (H : Hp) (C : Addr) (cl : List (Str × Addr)) (fp : List Addr), DG (X.blk s H scope (compEnvC scope cl C X.env) fp) p tk tg gd)
    (ht : ∀ (s : Shared) (H : Hp) (C : Addr) (cl : List (Str × Addr)) (fp : List Addr), DTs (X.blk s H scope (compEnvC scope cl C X.env) fp) p ifs ft)
    (he : ∀ (s : Shared) (H : Hp) (C : Addr) (cl : List (Str × Addr)) (fp : List Addr), DE (X.blk s H scope (compEnvC scope cl C X.env) fp) p elt fe false cr) (hs : ∀ x, foldedSetIterable iter X.env x = pure x := by intro _; rfl) :
    DS X p (.Assign [.Name x pos'] (.ListComp elt [⟨tg, iter, ifs, 0⟩] scope pos) spos) (setS i (lcE (lcs.map (·.2)) it gd ft fe)) :=
  ⟨psHL (ps_setLc hc hN hi hx hsw hit.pi ok (fun s H C cl fp => (hg s H C cl fp).pg) (fun s H C cl fp => (ht s H C cl fp).pts) (fun s H C cl fp => (he s H C cl fp).pe) hs) fun E σ H hl t => by
    obtain ⟨H0, Ext, own, ρ, q, r, q', S, e, a⟩ := t hl
    obtain ⟨d, q1, e1, e⟩ := M.bind_some e
    obtain ⟨rfl, rfl⟩ := M.pure_some e
    exact lc_read (cr := cr) (Q := fun v H' => E.nx (σ.set i (some v)) H') hpt hgo hl fun _ => ⟨_, ρ, _, q, d, _, S.pre, e1, fun v H1 l1 s1 p1 r1 _ => a _ H1 own l1 ((S.stp s1 p1).set i r1)⟩⟩
theorem ds_setLcB (i : Nat) (lcs : List (Str × Nat)) (hpt : pr = true → tk = true) (hc : X.calm = true) (hN : X.N.Nodup) (hi : X.N[i]? = some x) (hx : X.env.scope.names.lookup x = some .local)
    (hsw : swapsWith (.ListComp elt [⟨tg, iter, ifs, 0⟩] scope pos) (some (.Name x pos')) spos.line X.env = pure true) (ok : BlkOk X.N X.env.scope scope lcs) (hit : DI X p tg iter it ci pr)
    (hgo : Gin gd (lcs.map (·.2))) (hg : ∀ (s : Shared) (H : Hp) (C : Addr) (cl : List (Str × Addr)) (fp : List Addr), DG (X.blk s H scope (compEnvC scope cl C X.env) fp) p tk tg gd)
    (ht : ∀ (s : Shared) (H : Hp) (C : Addr) (cl : List (Str × Addr)) (fp : List Addr), DTs (X.blk s H scope (compEnvC scope cl C X.env) fp) p ifs ft)
    (he : ∀ (s : Shared) (H : Hp) (C : Addr) (cl : List (Str × Addr)) (fp : List Addr), DE (X.blk s H scope (compEnvC scope cl C X.env) fp) p elt fe false cr) (hs : ∀ x, foldedSetIterable iter X.env x = pure x := by intro _; rfl) :
    DS X p (.Assign [.Name x pos'] (.ListComp elt [⟨tg, iter, ifs, 0⟩] scope pos) spos) (setB i (lcE (lcs.map (·.2)) it gd ft fe)) :=
  ⟨psHL (ps_setLc hc hN hi hx hsw hit.pi ok (fun s H C cl fp => (hg s H C cl fp).pg) (fun s H C cl fp => (ht s H C cl fp).pts) (fun s H C cl fp => (he s H C cl fp).pe) hs) fun E σ H hl t => by
    obtain ⟨H0, Ext, own, ρ, q, r, q', S, e, a⟩ := t hl
    obtain ⟨d, q1, e1, e⟩ := M.bind_some e
    by_cases ld : isLD d = true
    · rw [if_pos ld] at e
      obtain ⟨rfl, rfl⟩ := M.pure_some e
      refine lc_read (cr := cr) (Q := fun v H' => E.nx (σ.set i (some v)) H') hpt hgo hl fun _ => ⟨_, ρ, _, q, d, _, S.pre, e1, fun v H1 l1 s1 p1 r1 n1 => ?_⟩
      obtain ⟨b, S'⟩ := S.setB s1 p1 i (n1 rfl) ld r1
      exact a _ H1 _ l1 S'
    · rw [if_neg ld] at e; cases e⟩
end
/-! ### a changing list is written -/
theorem hide_put {H : Hp} {a : Addr} {o : HO} (h : a ∈ B) : hide (upd H a o) B = hide H B := funext fun b => by
  unfold hide
  by_cases c : b ∈ B
  · rw [if_pos c, if_pos c]
  · rw [if_neg c, if_neg c, upd_ne (fun e : b = a => c (e ▸ h))]
theorem StR.put {i : Nat} {ds ds' : List D} {a : Addr} {vs : List V} (S : StR K p H0 Ext own H σ ρ q) (e : ρ[i]? = some (some (true, .list ds))) (es : σ[i]? = some (some (.ref a))) (r : RepL K p ds' (hide H (own ++ Ext)) vs) :
    StR K p H0 Ext own (upd H a (.lst vs)) σ (ρ.set i (some (true, .list ds'))) q := by
  obtain ⟨w, g1, _, g3⟩ := S.pre.env i true _ e
  rw [es] at g1; cases g1
  obtain ⟨a', ea, hB, hne, hF, _⟩ := g3 rfl
  cases ea
  have hid : hide (upd H a (.lst vs)) (own ++ Ext) = hide H (own ++ Ext) := hide_put hB
  refine ⟨fun b o eb nb => ?_, ⟨?_, S.pre.pB, fun b hb => ?_, fun j b d ej => ?_, by simp [S.len]⟩, S.pX, S.own0, S.ext0, fun j k d1 d2 c h1 h2 h3 h4 => ?_, by simp [S.len]⟩
  · rw [upd_ne (fun z => by rw [z, hF] at eb; cases eb)]; exact S.keep b o eb nb
  · rw [upd_ne (Ne.symm hne)]; exact S.pre.pot
  · by_cases z : b = a
    · rw [z]; exact ⟨_, upd_same, rfl⟩
    · rw [upd_ne z]; exact S.pre.nt b hb
  · rcases set_get ej with ⟨rfl, e1, hj⟩ | ⟨ne, ej⟩
    · cases e1
      refine ⟨.ref a, es, fun z => (by cases z), fun _ => ⟨a, rfl, hB, hne, hF, .inl ⟨ds', vs, rfl, upd_same, by rw [hid]; exact r⟩⟩⟩
    · obtain ⟨w, h1, h2, h3⟩ := S.pre.env j b d ej
      refine ⟨w, h1, fun z => by rw [hid]; exact h2 z, fun z => ?_⟩
      subst z
      obtain ⟨c, ec, cB, cne, cF, z⟩ := h3 rfl
      subst ec
      have nc : c ≠ a := fun y => ne (S.uniq i j _ d a e ej es (y ▸ h1))
      refine ⟨c, rfl, cB, cne, cF, ?_⟩
      rw [hid]
      rcases z with ⟨xs, us, e1, z1, z2⟩ | ⟨kvs, us, e1, z0, z1, z2⟩
      · exact .inl ⟨xs, us, e1, by rw [upd_ne nc]; exact z1, z2⟩
      · refine .inr ⟨kvs, us, e1, z0, ?_, z2⟩
        rcases z1 with ⟨kk, y1, y2, y3⟩ | ⟨kk, y1, y2, y3⟩
        · exact .inl ⟨kk, y1, y2, by rw [upd_ne nc]; exact y3⟩
        · exact .inr ⟨kk, y1, y2, by rw [upd_ne nc]; exact y3⟩
  · rcases set_get h1 with ⟨i1, _, _⟩ | ⟨n1, h1⟩
    · rcases set_get h2 with ⟨i2, _, _⟩ | ⟨n2, h2⟩
      · rw [← i1, ← i2]
      · subst i1
        exact S.uniq _ _ _ _ c e h2 h3 h4
    · rcases set_get h2 with ⟨i2, _, _⟩ | ⟨n2, h2⟩
      · subst i2
        exact S.uniq _ _ _ _ c h1 e h3 h4
      · exact S.uniq j k d1 d2 c h1 h2 h3 h4
/-- what a changing list becomes, by the value given -/
def bldS (i : Nat) (h : List D → D → Option (List D)) (f : Env → M D) : SE := fun ρ => M.bind (f ρ) fun d => match ρ[i]? with
  | some (some (true, .list ds)) => match h ds d with
    | some ds' => if ds'.length ≤ 1000000 then M.pure (.nx, ρ.set i (some (true, .list ds'))) else M.fail
    | none => M.fail
  | _ => M.fail
theorem bldS_some {i : Nat} {h : List D → D → Option (List D)} {ρ : Env} {r : Fl × Env} (e : bldS i h f ρ q = some (r, q')) : ∃ d ds ds', f ρ q = some (d, q') ∧ ρ[i]? = some (some (true, .list ds)) ∧ h ds d = some ds' ∧ ds'.length ≤ 1000000 ∧ r = (.nx, ρ.set i (some (true, .list ds'))) := by
  obtain ⟨d, q1, e1, e2⟩ := M.bind_some e
  clear e
  cases hr : ρ[i]? with
  | none => rw [hr] at e2; cases e2
  | some o =>
    rw [hr] at e2
    match o, e2 with
    | none, e2 => cases e2
    | some (false, _), e2 => cases e2
    | some (true, .none), e2 => cases e2
    | some (true, .bool _), e2 => cases e2
    | some (true, .int _), e2 => cases e2
    | some (true, .str _), e2 => cases e2
    | some (true, .tuple _), e2 => cases e2
    | some (true, .dict _), e2 => cases e2
    | some (true, .list ds), e2 =>
      dsimp only at e2
      cases z : h ds d with
      | none => rw [z] at e2; cases e2
      | some ds' =>
        rw [z] at e2
        dsimp only at e2
        by_cases c : ds'.length ≤ 1000000
        · rw [if_pos c] at e2
          obtain ⟨rfl, rfl⟩ := M.pure_some e2
          exact ⟨d, ds, ds', e1, rfl, z, c, rfl⟩
        · rw [if_neg c] at e2; cases e2
def appH : List D → D → Option (List D) := fun ds d => some (ds ++ [d])
def extL (ds : List D) (d : D) : Option (List D) := match d with
  | .list xs => some (ds ++ xs)
  | _ => none
theorem extL_some {ds : List D} {d : D} {ds' : List D} (h : extL ds d = some ds') : ∃ xs, d = .list xs ∧ ds' = ds ++ xs := by
  cases d with
  | list xs => cases h; exact ⟨xs, rfl, rfl⟩
  | _ => cases h
section
variable {x : Str} {np ap cp pos : Pos}
/-- x.append(e) -/
theorem ds_append (i : Nat) (hi : X.N[i]? = some x) (hv : Vis X.env.scope x) (he : DE X p e f false fr) (hd : (x == ("__debug__" : Str)) = false := by decide) (hcd : (x == ("__classdict__" : Str)) = false := by decide)
    (hbase : attributeBase (.Name x np) "append" X.env (eval (.Name x np) X.env) = eval (.Name x np) X.env := by rfl)
    (hfew : ((backTo cp (starEach [e] X.env)).all (fun x => !x.1) && (backToKw cp (keywordEach [] X.env)).all (fun x => x.1.isSome) && decide ([e].length + ([] : List Keyword).length + (if ([] : List Keyword).isEmpty then 0 else 1) < 30)) = true := by rfl)
    (hline : (ap.endLine == cp.line) = true := by rfl) (hs : starEach [e] X.env = (false, eval e X.env) :: starEach [] X.env := by rfl)
    (hw : swapsWith (.Call (.Attribute (.Name x np) "append" ap) [e] [] cp) none pos.line X.env = pure false := by rfl) :
    DS X p (.Expr (.Call (.Attribute (.Name x np) "append" ap) [e] [] cp) pos) (bldS i appH f) :=
  ⟨psHL (ps_expr (pe_bm PySem.F.plainAttrs_list PySem.F.slot_list_append PySem.F.type_list_append mt_append (pe_var hi hv hd hcd) (pa_cons he.pe pa_nil hs) hbase hfew hline hs) hw) fun E σ H hl t => by
    obtain ⟨H0, Ext, own, ρ, q, r, q', S, e, a⟩ := t hl
    obtain ⟨d, ds, ds', e1, hr, eh, small, rfl⟩ := bldS_some e
    cases eh
    obtain ⟨v, g1, _, g3⟩ := S.pre.env i true _ hr
    obtain ⟨b, rfl, hB, hne, hF, z⟩ := g3 rfl
    have here : ∀ {H' : Hp}, Bld X.K p (fun a => H0 a = none) H' (own ++ Ext) (.list ds) (.ref b) → ∃ vs, H' b = some (.lst vs) ∧ RepL X.K p ds (hide H' (own ++ Ext)) vs := fun h => by
      obtain ⟨c, ec, _, _, _, ⟨xs, vs, e1, z1, z2⟩ | ⟨_, _, e1, _⟩⟩ := h
      · cases ec; cases e1; exact ⟨vs, z1, z2⟩
      · cases e1
    obtain ⟨vs0, h0, _⟩ := here (g3 rfl)
    refine ⟨.ref b, g1, .inl ⟨rfl, vs0, .inl (.inl h0)⟩, fun _ => ⟨_, ρ, _, q, d, _, S.pre, e1, fun w H1 l1 s1 p1 r1 _ => ?_⟩⟩
    obtain ⟨vs, h1, h2⟩ := here ((g3 rfl).stp s1 S.pre.pB)
    have z6 := sz6
    rw [List.length_append, List.length_singleton] at small
    refine ⟨b, vs, w, rfl, rfl, h1, by rw [h2.length]; omega, fun l2 => a _ _ own l2 ((S.stp s1 p1).put hr g1 (RepL.app h2 (RepL.one r1)))⟩⟩
/-- x.extend(e), e a list -/
theorem ds_extend (i : Nat) (hi : X.N[i]? = some x) (hv : Vis X.env.scope x) (he : DE X p e f c fr) (hd : (x == ("__debug__" : Str)) = false := by decide) (hcd : (x == ("__classdict__" : Str)) = false := by decide)
    (hbase : attributeBase (.Name x np) "extend" X.env (eval (.Name x np) X.env) = eval (.Name x np) X.env := by rfl)
    (hfew : ((backTo cp (starEach [e] X.env)).all (fun x => !x.1) && (backToKw cp (keywordEach [] X.env)).all (fun x => x.1.isSome) && decide ([e].length + ([] : List Keyword).length + (if ([] : List Keyword).isEmpty then 0 else 1) < 30)) = true := by rfl)
    (hline : (ap.endLine == cp.line) = true := by rfl) (hs : starEach [e] X.env = (false, eval e X.env) :: starEach [] X.env := by rfl)
    (hw : swapsWith (.Call (.Attribute (.Name x np) "extend" ap) [e] [] cp) none pos.line X.env = pure false := by rfl) :
    DS X p (.Expr (.Call (.Attribute (.Name x np) "extend" ap) [e] [] cp) pos) (bldS i extL f) :=
  ⟨psHL (ps_expr (pe_bm PySem.F.plainAttrs_list PySem.F.slot_list_extend PySem.F.type_list_extend mt_extend (pe_var hi hv hd hcd) (pa_cons he.pe pa_nil hs) hbase hfew hline hs) hw) fun E σ H hl t => by
    obtain ⟨H0, Ext, own, ρ, q, r, q', S, e, a⟩ := t hl
    obtain ⟨d, ds, ds', e1, hr, eh, small, rfl⟩ := bldS_some e
    obtain ⟨xs, rfl, rfl⟩ := extL_some eh
    obtain ⟨v, g1, _, g3⟩ := S.pre.env i true _ hr
    obtain ⟨b, rfl, hB, hne, hF, z⟩ := g3 rfl
    have here : ∀ {H' : Hp}, Bld X.K p (fun a => H0 a = none) H' (own ++ Ext) (.list ds) (.ref b) → ∃ vs, H' b = some (.lst vs) ∧ RepL X.K p ds (hide H' (own ++ Ext)) vs := fun h => by
      obtain ⟨c, ec, _, _, _, ⟨xs, vs, e1, z1, z2⟩ | ⟨_, _, e1, _⟩⟩ := h
      · cases ec; cases e1; exact ⟨vs, z1, z2⟩
      · cases e1
    obtain ⟨vs0, h0, _⟩ := here (g3 rfl)
    refine ⟨.ref b, g1, .inl ⟨rfl, vs0, .inl (.inl h0)⟩, fun _ => ⟨_, ρ, _, q, _, _, S.pre, e1, fun w H1 l1 s1 p1 r1 _ => ?_⟩⟩
    obtain ⟨vs, h1, h2⟩ := here ((g3 rfl).stp s1 S.pre.pB)
    obtain ⟨b2, us, rfl, _, h3, h4⟩ := r1.cons.lst S.pre.pB
    have z6 := sz6
    rw [List.length_append] at small
    refine ⟨b, b2, vs, us, rfl, rfl, h1, h3, by rw [h2.length, h4.length]; omega, fun l2 => a _ _ own l2 ((S.stp s1 p1).put hr g1 (RepL.app h2 h4))⟩⟩
end
end
end Sd
/-! .index, zip -/
namespace Sd
open PySem PySem.Spec PyProof.Rows L2 RZ
section
variable {X : Cx} {p : Addr} {K : PySem.W.Frag} {H0 H H' H1 : Hp} {Ext own B : List Addr} {σ : L2.St} {ρ : Env} {q q' : Pot} {E : Ends} {F : Addr → Prop} {c fr : Bool} {f g : Env → M D} {e : Expr}
/-! ### xs.index(k) -/
def Ixd (b : Bool) (H : Hp) (a : Addr) (xs : List V) : Prop := if b = true then H a = some (.lst xs) else ∃ o, H a = some (.frz o (.tup xs)) ∧ o.dict = none
def tIdx (to : TE) (t : TA) : TE := fun σ H Q => to σ H fun x H1 => ∃ (b : Bool) (a : Addr) (xs : List V), x = .ref a ∧ Ixd b H1 a xs ∧ t σ H1 fun ys H2 => ∃ (ns : List Int) (k : Int), ys = [.int k] ∧ Ixd b H2 a (ns.map V.int) ∧ k ∈ ns ∧ Q (.int (ns.idxOf k : Nat)) H2
theorem Ixd.rawL {pins : List (Addr × Obj)} {s : Shared} {a : Addr} {xs : List V} (I : Inv X pins σ H s) (h : Ixd true H a xs) : ∃ (o : Obj) (its : List Value), s.heap.IsList a its.toArray ∧ s.heap.get? a = some o ∧ o.cls = .type "list" ∧ o.dict = none ∧ Vals xs its := by
  obtain ⟨_, its, n, r, _, e⟩ := I.lstM (show H a = some (.lst xs) from h)
  exact ⟨_, its, ⟨_, e, rfl, n, rfl⟩, e, rfl, rfl, r⟩
theorem Ixd.rawT {pins : List (Addr × Obj)} {s : Shared} {a : Addr} {xs : List V} (I : Inv X pins σ H s) (h : Ixd false H a xs) : ∃ (o : Obj) (its : List Value), s.heap.IsTuple a its.toArray ∧ s.heap.get? a = some o ∧ o.cls = .type "tuple" ∧ o.dict = none ∧ Vals xs its := by
  obtain ⟨o, h, hd⟩ := h
  obtain ⟨e, _, its, r, ht⟩ := (show ObjOk X.prog X.w H s.heap a (.frz o (.tup xs)) from I.hok a _ h)
  have ht' := ht
  obtain ⟨o', e', hc, _⟩ := ht'
  rw [e] at e'; cases e'
  exact ⟨o, its, ht, e, hc, hd, r⟩
theorem pe_idx {o : Expr} {to : TE} {t : TA} {ap cp : Pos} (ho : PE X o to) (ha : PA X [e] t) (hbase : attributeBase o "index" X.env (eval o X.env) = eval o X.env := by rfl)
    (hfew : ((backTo cp (starEach [e] X.env)).all (fun x => !x.1) && (backToKw cp (keywordEach [] X.env)).all (fun x => x.1.isSome) && decide ([e].length + ([] : List Keyword).length + (if ([] : List Keyword).isEmpty then 0 else 1) < 30)) = true := by rfl)
    (hline : (ap.endLine == cp.line) = true := by rfl) (hs : starEach [e] X.env = (false, eval e X.env) :: starEach [] X.env := by rfl) : PE X (.Call (.Attribute o "index" ap) [e] [] cp) (tIdx to t) := by
  constructor
  intro pins s σ H Q I h
  refine wpAny_Call_method_late hbase hfew hline rfl (thn (ho.run pins s σ H _ I h) fun v s1 ⟨x, H1, I1, r1, b, a, xs, ex, hx, q1⟩ => ?_)
  subst ex
  cases r1
  have hA := ha.run cp pins s1 σ H1 _ I1 q1
  rw [hs] at hA ⊢
  cases b with
  | true =>
    obtain ⟨ob, its, hl, ho1, hc, hd, r⟩ := hx.rawL I1
    refine ⟨"list", "list.index", PySem.F.plainAttrs_list, PySem.F.slot_list_index, PySem.F.type_list_index, ⟨ob, ho1, hc⟩, fun b eb => (by cases eb; exact ⟨ob, ho1, hd⟩), Calls.callWith_builtin rfl (Calls.evalArgs_plain (thn hA fun us s2 ⟨ys, H2, I2, r2, ns, k, ey, hn, hk, q2⟩ => ?_))⟩
    subst ey
    obtain ⟨u, rfl, ru⟩ := r2.one
    obtain ⟨tk, rfl⟩ := ru
    obtain ⟨_, its2, hl2, _, _, _, r3⟩ := hn.rawL I2
    have small := (HL_of I2.hok).lst (show H2 a = some (.lst (ns.map V.int)) from hn)
    rw [List.length_map] at small
    exact SeqAt.list_index_ints hl2 (ints_of_vals r3) small hk ⟨.int _, H2, I2.tok _, ⟨_, rfl⟩, q2⟩
  | false =>
    obtain ⟨ob, its, hl, ho1, hc, hd, r⟩ := hx.rawT I1
    refine ⟨"tuple", "tuple.index", PySem.F.plainAttrs_tuple, PySem.F.slot_tuple_index, PySem.F.type_tuple_index, ⟨ob, ho1, hc⟩, fun b eb => (by cases eb; exact ⟨ob, ho1, hd⟩), Calls.callWith_builtin rfl (Calls.evalArgs_plain (thn hA fun us s2 ⟨ys, H2, I2, r2, ns, k, ey, hn, hk, q2⟩ => ?_))⟩
    subst ey
    obtain ⟨u, rfl, ru⟩ := r2.one
    obtain ⟨tk, rfl⟩ := ru
    obtain ⟨_, its2, hl2, _, _, _, r3⟩ := hn.rawT I2
    exact SeqAt.tuple_index_ints hl2 (ints_of_vals r3) hk ⟨.int _, H2, I2.tok _, ⟨_, rfl⟩, q2⟩
/-- by data -/
def idxD (d e : D) : Option D := match items d, e with
  | some ds, .int k => match intsOf ds with
    | some ns => if k ∈ ns ∧ (match d with | .tuple _ => frzOk | _ => true) = true then some (.int (ns.idxOf k : Nat)) else none
    | none => none
  | _, _ => none
theorem TupAt.frz (hf : frzOk = true) {a : Addr} {vs : List V} (h : TupAt H a vs) : ∃ o, H a = some (.frz o (.tup vs)) ∧ o.dict = none := by
  obtain ⟨o, ⟨z, _⟩ | ⟨_, ob, rfl, hd⟩, e⟩ := h
  · rw [hf] at z; cases z
  · exact ⟨ob, e, hd⟩
theorem d_idx {a b : Expr} {fa fb : Env → M D} {ca cb f1 f2 : Bool} {ap cp : Pos} (ha : DE X p a fa ca f1) (hb : DE X p b fb cb f2) (hbase : attributeBase a "index" X.env (eval a X.env) = eval a X.env := by rfl)
    (hfew : ((backTo cp (starEach [b] X.env)).all (fun x => !x.1) && (backToKw cp (keywordEach [] X.env)).all (fun x => x.1.isSome) && decide ([b].length + ([] : List Keyword).length + (if ([] : List Keyword).isEmpty then 0 else 1) < 30)) = true := by rfl)
    (hline : (ap.endLine == cp.line) = true := by rfl) (hs : starEach [b] X.env = (false, eval b X.env) :: starEach [] X.env := by rfl) : DE X p (.Call (.Attribute a "index" ap) [b] [] cp) (ap2 idxD fa fb) false true :=
  ⟨peHL (pe_idx ha.pe (pa_cons hb.pe pa_nil hs) hbase hfew hline hs) fun σ H Q hl t => by
    obtain ⟨F, ρ, B, q, d, q', k1, k2, k3⟩ := t hl
    obtain ⟨d1, q1, e1, k2⟩ := M.bind_some k2
    obtain ⟨d2, q2, e2, k2⟩ := M.bind_some k2
    obtain ⟨e3, rfl⟩ := M.of_some k2
    refine fun _ => ⟨F, ρ, B, q, d1, q1, k1, e1, fun x H1 l1 s1 p1 r1 _ => ?_⟩
    have K1 := k1.stp s1 p1
    unfold idxD at e3
    have fin : ∀ (b : Bool) (a : Addr) (ns : List Int) (k : Int), d2 = .int k → d = .int (ns.idxOf k : Nat) → k ∈ ns → Ixd b H1 a (ns.map V.int) → (∀ H2, Stp p H1 H2 → Ixd b H2 a (ns.map V.int)) → x = .ref a →
        ∃ (b : Bool) (a : Addr) (xs : List V), x = .ref a ∧ Ixd b H1 a xs ∧ (tCons (tE X.K p fb cb f2) tNil) σ H1 fun ys H2 => ∃ (ns : List Int) (k : Int), ys = [.int k] ∧ Ixd b H2 a (ns.map V.int) ∧ k ∈ ns ∧ (HL H2 → Q (.int (ns.idxOf k : Nat)) H2) := by
      rintro b a ns k rfl rfl hk h1 h2 ex
      refine ⟨b, a, _, ex, h1, fun _ => ⟨F, ρ, B, q1, _, _, K1, e2, fun y H2 l2 s2 p2 r2 _ => ⟨ns, k, by rw [r2.cons.int], h2 H2 s2, hk, fun l => k3 _ H2 l (s1.trans s2) p2 rfl (fun _ z => by cases z)⟩⟩⟩
    cases d1 with
    | list ds =>
      cases d2 with
      | int k =>
        dsimp only [items] at e3
        cases z : intsOf ds with
        | none => rw [z] at e3; cases e3
        | some ns =>
          rw [z] at e3
          dsimp only at e3
          by_cases ok : k ∈ ns ∧ true = true
          · rw [if_pos ok] at e3
            cases e3
            obtain ⟨a, vs, ex, hne, h1, h2⟩ := r1.cons.lst k1.pB
            have ev := intsOf_rep z h2
            subst ev
            exact fin true a ns k rfl rfl ok.1 h1 (fun H2 s2 => s2 _ _ h1 hne) ex
          · rw [if_neg ok] at e3; cases e3
      | _ => cases e3
    | tuple ds =>
      cases d2 with
      | int k =>
        dsimp only [items] at e3
        cases z : intsOf ds with
        | none => rw [z] at e3; cases e3
        | some ns =>
          rw [z] at e3
          dsimp only at e3
          by_cases ok : k ∈ ns ∧ frzOk = true
          · rw [if_pos ok] at e3
            cases e3
            obtain ⟨a, vs, ex, h1, h2⟩ := r1.cons.tup
            have ev := intsOf_rep z h2
            subst ev
            refine fin false a ns k rfl rfl ok.1 (h1.frz ok.2) (fun H2 s2 => ?_) ex
            obtain ⟨o, g1, g2⟩ := h1.frz ok.2
            exact ⟨o, s2 _ _ g1 (fun y => by rw [y, p1] at g1; cases g1), g2⟩
          · rw [if_neg ok] at e3; cases e3
      | _ => cases e3
    | _ => cases e3⟩
/-! ### zip(xs, ys) -/
def zipD : List D → Option (List D)
  | [.list a, .list b] => some ((a.zip b).map fun z => .tuple [z.1, z.2])
  | [.tuple a, .tuple b] => some ((a.zip b).map fun z => .tuple [z.1, z.2])
  | _ => none
def zipE (fs : List (Env → M D)) : IE := fun ρ => M.bind (seqE fs ρ) fun ds => M.of (zipD ds)
theorem walk_zipT {a b : Addr} {xs ys : List V} {n : Nat} (hn : n = min xs.length ys.length) : Walk (ItzT K a b) n (fun H => SqT K H a xs ∧ SqT K H b ys) (YPair (fun i => xs[i]?) (fun i => ys[i]?)) := by
  subst hn
  refine ⟨fun i H hi h => ?_, fun H h => ⟨xs, ys, h.1, h.2, by omega⟩, fun i H v H' hi h y => ?_⟩
  · obtain ⟨h1, h2⟩ : i < xs.length ∧ i < ys.length := by omega
    exact ⟨xs, ys, xs[i], ys[i], h.1, h.2, List.getElem?_eq_getElem h1, List.getElem?_eq_getElem h2⟩
  · obtain ⟨T, x, y, e1, e2, e3, e4, e5⟩ := y
    exact ⟨T, x, y, e1, e2, e3, e4 _ h.1, e5 _ h.2⟩
/-- pairs of what stands -/
theorem wk_pair {J : It} {G : Hp → Prop} {xs ys : List V} {a b : List D} (hW : Walk J (min xs.length ys.length) G (YPair (fun i => xs[i]?) (fun i => ys[i]?))) (hG : ∀ H, Lt p c B H1 H → G H) (ra : RepL K p a (hide H1 B) xs) (rb : RepL K p b (hide H1 B) ys) :
    WkD K p c true J ((a.zip b).map fun z => .tuple [z.1, z.2]) B H1 := by
  have len : ((a.zip b).map fun z => (.tuple [z.1, z.2] : D)).length = min xs.length ys.length := by rw [List.length_map, List.length_zip, ra.length, rb.length]
  refine ⟨G, _, by rw [len]; exact hW, hG, fun i H v H' d lt y e => ?_⟩
  obtain ⟨T, x, y, rfl, nT, rfl, e1, e2⟩ := y
  refine ⟨same_upd nT, fun B' s hB => .inr ⟨rfl, ?_⟩⟩
  rw [List.getElem?_map] at e
  cases z : (a.zip b)[i]? with
  | none => rw [z] at e; cases e
  | some w =>
    rw [z] at e; cases e
    obtain ⟨z1, z2⟩ := List.getElem?_zip_eq_some.mp z
    have up : Same (hide H1 B) (hide (upd H T (.tup [x, y])) B') := fun b o e => hide_same B' (same_upd nT) _ _ (s _ _ e)
    exact ⟨_, T, [x, y], rfl, rfl, .inl (.inl upd_same), x, _, rfl, Rep.mono up (ra.nth z1 e1), y, _, rfl, Rep.mono up (rb.nth z2 e2), rfl⟩
theorem lst_stays {d : List D} {a : Addr} {vs : List V} (h1 : H1 a = some (.lst vs)) (hne : a ≠ p) (r1 : Res K p F c H1 B (.list d) (.ref a)) (lt : Lt p c B H1 H') : H' a = some (.lst vs) := by
  unfold Lt at lt
  cases c with
  | true => rw [if_pos rfl] at lt; exact lt _ _ h1 hne
  | false =>
    rw [if_neg Bool.false_ne_true] at lt
    unfold Res at r1
    rw [if_neg Bool.false_ne_true] at r1
    obtain ⟨a', _, ea, g1, _⟩ := r1
    cases ea
    exact lt _ _ (hide_some g1).1 h1
theorem di_zip {a b : Expr} {fs : List (Env → M D)} {np pos tpos : Pos} {elts : List Expr} {kk : Nat} (hg : Gl X "zip") (hm : X.mg "zip" = none) (ha : DA X p [a, b] fs c) (hs : starEach [a, b] X.env = (false, eval a X.env) :: starEach [b] X.env := by rfl)
    (hpl : (backTo pos (starEach [b] X.env)).any (·.1) = false := by rfl) : DI X p (.Tuple elts kk tpos) (.Call (.Name "zip" np) [a, b] [] pos) (zipE fs) c true :=
  ⟨piHL (pi_zipA hg hm ha.pa hs hpl) fun σ H R hl t => by
    obtain ⟨F, ρ, B, q, xs, q', k1, k2, k3⟩ := t hl
    obtain ⟨ds, q1, e1, k2⟩ := M.bind_some k2
    obtain ⟨e2, rfl⟩ := M.of_some k2
    refine fun _ => ⟨F, ρ, B, q, ds, _, k1, e1, fun vs H1 l1 s1 p1 r1 => ?_⟩
    have nt := (k1.stp s1 p1).nt
    unfold zipD at e2
    split at e2
    · rename_i a b
      cases e2
      obtain ⟨v, _, rfl, ra, w, _, rfl, rb, rfl⟩ := r1
      obtain ⟨l1', us, rfl, n1, h1, h2⟩ := ra.cons.lst k1.pB
      obtain ⟨l2', ws, rfl, n2, g1, g2⟩ := rb.cons.lst k1.pB
      refine ⟨l1', l2', us, ws, rfl, .inl ⟨.inl (.inl h1), .inl (.inl g1), fun l => k3 _ H1 l s1 p1 ?_ (wk_pair (walk_zip rfl) (fun H' lt => ?_) h2 g2)⟩⟩
      · have z := l1.lst h1
        rw [List.length_map, List.length_zip, ← h2.length]; omega
      · refine ⟨.inl (.inl (lst_stays h1 n1 ra lt)), .inl (.inl (lst_stays g1 n2 rb lt))⟩
    · rename_i a b
      cases e2
      obtain ⟨v, _, rfl, ra, w, _, rfl, rb, rfl⟩ := r1
      obtain ⟨l1', us, rfl, h1, h2⟩ := ra.cons.tup
      obtain ⟨l2', ws, rfl, g1, g2⟩ := rb.cons.tup
      refine ⟨l1', l2', us, ws, rfl, .inr ⟨h1.sq, g1.sq, fun l => k3 _ H1 l s1 p1 ?_ (wk_pair (walk_zipT rfl) (fun H' lt => ⟨(tup_nt X.K nt h1 (lt.le k1.pB)).sq, (tup_nt X.K nt g1 (lt.le k1.pB)).sq⟩) h2 g2)⟩⟩
      have z := l1.tup h1
      rw [List.length_map, List.length_zip, ← h2.length]; omega
    · cases e2⟩
end
end Sd
/-! enumerate(tuple), dicts -/
namespace Sd
open PySem PySem.Spec PyProof.Rows L2
section
variable {pg : Program} {wd : World} {A : Around} {E : Value → Shared → Prop} {s : Shared}
theorem meets_enumT (l : Addr) (its : Array Value) (n : Nat) (dct : Option Addr) (sl : Array (Option Value)) :
    Meets (Builtin.«enumerate.__new__» ⟨[.type "enumerate", .ref l], []⟩) (fun _ R s => s.heap.get? l = some { cls := .type "tuple", dict := dct, data := .seq its n, slots := sl } ∧
      R (.ok (.ret (.ref (s.heap.push { cls := .type "tuple_iterator", data := .fields #[.ref l, .int 0 0] }).objs.size)))
        { s with heap := (s.heap.push { cls := .type "tuple_iterator", data := .fields #[.ref l, .int 0 0] }).push { cls := .type "enumerate", data := .fields #[.none, .bool false, .ref s.heap.objs.size, rawInt 0, .none, .none] } }) :=
  .of_wp fun pg wd A R s h => by
    obtain ⟨hp, gg, dd, tk, os⟩ := s
    obtain ⟨hl, h⟩ := h
    have hsub := sub_enumerate
    have hT : Heap.IsTuple (Shared.heap ⟨hp, gg, dd, tk, os⟩) l its := ⟨_, hl, rfl, n, rfl⟩
    wp_walk using AutoSeq1.wpAny_loadPart' hl
    refine wpAny_stack_any fun st => wpAny_pure ?_
    split
    · rename_i c _ _ _ _ _
      cases (c == Value.type "enumerate")
      · wp_walk using AutoSeq1.wpAny_loadPart' hl, wpAny_pyIter_tuple hT
        exact ⟨_, rfl, h⟩
      · wp_walk using AutoSeq1.wpAny_loadPart' hl, wpAny_pyIter_tuple hT
        exact ⟨_, rfl, h⟩
    · wp_walk using AutoSeq1.wpAny_loadPart' hl, wpAny_pyIter_tuple hT
      exact ⟨_, rfl, h⟩
theorem call_enumT {l : Addr} {its : Array Value} {Q : Value → Shared → Prop} (hT : s.heap.IsTuple l its)
    (h : ∀ h', IsEnum h' (s.heap.objs.size + 1) s.heap.objs.size 0 .none → h'.IsTupleIter s.heap.objs.size l 0 → h'.objs.size = s.heap.objs.size + 2 → (∀ b o, s.heap.get? b = some o → h'.get? b = some o) → Q (.ref (s.heap.objs.size + 1)) { s with heap := h' }) :
    wpAny (model pg wd) A (call (.type "enumerate") [.ref l]) Q E s := by
  obtain ⟨⟨cl, dct, dt, sl⟩, hl, hc, n, hd⟩ := hT
  obtain rfl : cl = .type "tuple" := hc
  obtain rfl : dt = .seq its n := hd
  refine callType_new F.called_enumerate (by decide) (F.typeCall_enumerate_1 _) (F.newCall_enumerate_1 _) (fun u => F.args_object_init_2 u _) F.entry_enumerate_new (meets_enumT l its n dct sl) ⟨hl, ?_⟩
  have sz : (s.heap.push { cls := .type "tuple_iterator", data := .fields #[.ref l, .int 0 0] }).objs.size = s.heap.objs.size + 1 := Heap.size_push ..
  show _ ∧ _
  rw [sz]
  have en : IsEnum ((s.heap.push { cls := .type "tuple_iterator", data := .fields #[.ref l, .int 0 0] }).push { cls := .type "enumerate", data := .fields #[.none, .bool false, .ref s.heap.objs.size, rawInt 0, .none, .none] }) (s.heap.objs.size + 1) s.heap.objs.size 0 .none := by
    have z := Heap.get?_push_size (s.heap.push { cls := .type "tuple_iterator", data := .fields #[.ref l, .int 0 0] }) (o := { cls := .type "enumerate", data := .fields #[.none, .bool false, .ref s.heap.objs.size, rawInt 0, .none, .none] }) rfl
    rw [sz] at z
    exact z
  exact ⟨⟨_, en, rfl⟩, h _ en ⟨_, Heap.get?_push_of_some _ (Heap.get?_push_size _ rfl), rfl, rfl⟩ (by rw [Heap.size_push, sz]) fun b o e => Heap.get?_push_of_some _ (Heap.get?_push_of_some _ e)⟩
end
/-- the tuple at a at each turn, each item in a new pair -/
def IteT (K : PySem.W.Frag) (a : Addr) : It :=
  ⟨fun i H => ∃ (xs : List V) (x : V), SqT K H a xs ∧ xs[i]? = some x, fun i H v H' => ∃ T x, v = .ref T ∧ H T = none ∧ H' = upd H T (.tup [.int (i : Nat), x]) ∧ ∀ xs, SqT K H a xs → xs[i]? = some x, fun i H => ∃ xs : List V, SqT K H a xs ∧ xs.length = i⟩
theorem turn_enumT {P : Program} {w : World} {K : PySem.W.Frag} {elts : List Expr} {kk : Nat} {tpos : Pos} (a e it : Addr) :
    Turn P w K (.Tuple elts kk tpos) (IteT K a) [e, it] e (fun i h => (∃ old, IsEnum h e it ((i : Nat) : Int) old) ∧ h.IsTupleIter it a i ∧ e ≠ it ∧ a ≠ it ∧ a ≠ e) where
  mem := by simp
  obj := fun i h st b hb => by
    obtain ⟨⟨old, he⟩, ⟨o, ho, hc, hd⟩, _⟩ := st
    rcases List.mem_cons.mp hb with z | z
    · rw [z]; exact ⟨_, he, fun v q => nomatch q⟩
    · rw [List.mem_singleton.mp z]; exact ⟨o, ho, fun v q => by rw [hd] at q; cases q⟩
  keep := fun i h h' st k => let ⟨⟨old, he⟩, hi, hne⟩ := st; ⟨⟨old, k e (by simp) _ he⟩, hi.at fun o q => k it (by simp) o q, hne⟩
  item := by
    intro X hP hw hK hc i pins s σ H E I hf st hg
    subst hP hw hK
    obtain ⟨⟨old, he⟩, hit, hne, nit, nae⟩ := st
    obtain ⟨xs, x, hq, hx⟩ := hg
    obtain ⟨its, rv, pt, hz⟩ := I.tuple hq
    obtain ⟨u, hu, ru⟩ := rv.get hx
    have el : e < s.heap.objs.size := Heap.lt_size he
    have il : it < s.heap.objs.size := by obtain ⟨_, q, _⟩ := hit; exact Heap.lt_size q
    have lt : i < its.toArray.size := by rw [List.size_toArray]; exact (List.getElem?_eq_some_iff.mp hu).1
    refine wpAny_pyNext_enum_itemC (Draws.tuple (A := X.A.in1) (by simp [I.ok.hd hc]) it a nit its.toArray) he ⟨hit, pt⟩ lt hne (fun z => ?_) fun y h' tk hy ho st' hT hsz hk => ?_
    · rcases List.mem_cons.mp z with z | z
      · exact hne z
      · exact nae (List.mem_singleton.mp z).symm
    have ey : y = u := by
      have z : its[i]? = some y := by simpa using hy
      rw [hu] at z
      exact (Option.some.inj z).symm
    subst ey
    refine ⟨_, rfl, wpAny_letOwnedTupleGo_enum (s := { s with heap := h', toks := tk + 1 }) ho fun h2 he2 sb => ?_⟩
    have hT2 : h2.get? s.heap.objs.size = some { cls := .type "tuple", data := .seq #[.int i tk, y] } := (sb.2 _ (Nat.ne_of_gt el)).trans hT
    have new : ObjOk X.prog X.w (upd H s.heap.objs.size (.tup [.int (i : Nat), x])) h2 s.heap.objs.size (.tup [.int (i : Nat), x]) := ⟨by have := sz6; show 2 ≤ sizeLine; omega, [.int i tk, y], .cons ⟨_, rfl⟩ (.cons ru .nil), ⟨_, hT2, rfl, _, rfl⟩⟩
    have J : Inv X pins σ (upd H s.heap.objs.size (.tup [.int (i : Nat), x])) { s with heap := h2, toks := tk + 1 } :=
      I.turnedNew (ch := [e, it]) (fun b ob hb q => (sb.2 b (fun z => hb (by simp [z]))).trans (hk b ob (fun z => hb (by simp [z])) (fun z => hb (by simp [z])) q)) hf (Nat.le_refl _) new
    refine ⟨.ref s.heap.objs.size, _, J, rfl, ⟨_, x, rfl, I.hok.fresh (Nat.le_refl _), rfl, fun ys hy2 => by rw [I.tuple_inj hy2 hq]; exact hx⟩, ⟨⟨y, ?_⟩, st'.1.at fun o q => (sb.2 it (Ne.symm hne)).trans q, hne, nit, nae⟩, fun b hb => ?_⟩
    · have e1 : ((i + 1 : Nat) : Int) = (i : Int) + 1 := by omega
      rw [e1]; exact he2
    · have bl : b < s.heap.objs.size := by
        rcases List.mem_cons.mp hb with z | z
        · rw [z]; exact el
        · rw [List.mem_singleton.mp z]; exact il
      rw [upd_ne (Nat.ne_of_lt bl)]
      exact (hf b hb).1
  done := by
    intro X hP hw hK hc i pins s σ H E I hf st hg
    subst hP hw hK
    obtain ⟨⟨old, he⟩, hit, hne, nit, nae⟩ := st
    obtain ⟨xs, hq, hx⟩ := hg
    obtain ⟨its, rv, pt, hz⟩ := I.tuple hq
    obtain ⟨f0, f1, f2, f3, f4, f5⟩ := hf it (by simp)
    have len : its.toArray.size = i := by rw [List.size_toArray, ← rv.length, hx]
    exact wpAny_pyNext_enum_endD (Draws.tuple (A := X.A.in1) (by simp [I.ok.hd hc]) it a nit its.toArray) he (by rw [len]; exact ⟨hit, pt⟩) fun h' eb => ⟨rfl, I.turned (t' := s.toks) (fun b o hb q => eb b o hb q) f0 f1 f3 f4 f5⟩
  self := fun A i s Q E st h => let ⟨⟨_, he⟩, _⟩ := st; wpAny_pyIter_enum he h
section
variable {X : Cx} {p : Addr} {K : PySem.W.Frag} {H0 H H' H1 : Hp} {Ext own B : List Addr} {σ : L2.St} {ρ : Env} {q q' : Pot} {E : Ends} {F : Addr → Prop} {c fr : Bool} {f g : Env → M D} {e : Expr}
def iEnumO (K : PySem.W.Frag) (ta : TA) : TI := fun σ H R => ta σ H fun vs H1 => ∃ a xs, vs = [.ref a] ∧ ((SqL K H1 a xs ∧ R (Ite K a) H1) ∨ (SqT K H1 a xs ∧ R (IteT K a) H1))
theorem pi_enumO {ta : TA} {np pos tpos : Pos} {elts : List Expr} {kk : Nat} (hg : Gl X "enumerate") (hm : X.mg "enumerate" = none) (ha : PA X [e] ta) (hs : starEach [e] X.env = [(false, eval e X.env)] := by rfl) :
    PI X (.Tuple elts kk tpos) (.Call (.Name "enumerate" np) [e] [] pos) (iEnumO X.K ta) := by
  constructor
  intro pins s σ H R I h
  refine Call_ (ld_blt I hg hm boot_enumerate (PyProof.Rows.callWith_type1 (thn (ha.run pos pins s σ H _ I h) fun us s1 ⟨vs, H1, I1, r1, a, xs, ex, z⟩ => ?_) hs rfl))
  subst ex
  rw [Vals.ref1 r1]
  have fp : ∀ b ∈ [s1.heap.objs.size + 1, s1.heap.objs.size], s1.heap.objs.size ≤ b := fun b hb => by
    rcases List.mem_cons.mp hb with z | z
    · rw [z]; exact Nat.le_succ _
    · rw [List.mem_singleton.mp z]; exact Nat.le_refl _
  rcases z with ⟨hq, r⟩ | ⟨hq, r⟩
  · obtain ⟨its, rv, pl, hz⟩ := I1.list hq
    refine call_enumerate_list pl.isList fun h' he hit hsz hk => wpAny_pyIter_enum he ?_
    exact ⟨s1.heap.objs.size + 1, [s1.heap.objs.size + 1, s1.heap.objs.size], _, _, H1, rfl, I1.kept (t' := s1.toks) hk, turn_enum a (s1.heap.objs.size + 1) s1.heap.objs.size, ⟨⟨.none, he⟩, hit, Nat.succ_ne_self _⟩, fun b hb => I1.fpOk (fp b hb) (I1.hok.fresh (fp b hb)), r⟩
  · obtain ⟨its, rv, pl, hz⟩ := I1.tuple hq
    have al : a < s1.heap.objs.size := by obtain ⟨o, ho, _⟩ := pl; exact Heap.lt_size ho
    refine call_enumT pl fun h' he hit hsz hk => wpAny_pyIter_enum he ?_
    exact ⟨s1.heap.objs.size + 1, [s1.heap.objs.size + 1, s1.heap.objs.size], _, _, H1, rfl, I1.kept (t' := s1.toks) hk, turn_enumT a (s1.heap.objs.size + 1) s1.heap.objs.size, ⟨⟨.none, he⟩, hit, Nat.succ_ne_self _, Nat.ne_of_lt al, Nat.ne_of_lt (Nat.lt_succ_of_lt al)⟩, fun b hb => I1.fpOk (fp b hb) (I1.hok.fresh (fp b hb)), r⟩
theorem walk_enumT {a : Addr} {xs : List V} : Walk (IteT K a) xs.length (fun H => SqT K H a xs) (YPair (fun i => some (.int (i : Nat))) (fun i => xs[i]?)) := by
  refine ⟨fun i H hi h => ⟨xs, xs[i], h, List.getElem?_eq_getElem hi⟩, fun H h => ⟨xs, h, rfl⟩, fun i H v H' hi h y => ?_⟩
  obtain ⟨T, x, e1, e2, e3, e4⟩ := y
  exact ⟨T, .int (i : Nat), x, e1, e2, e3, rfl, e4 _ h⟩
def numFrom (i : Nat) : List D → List D
  | [] => []
  | d :: ds => .tuple [.int i, d] :: numFrom (i + 1) ds
theorem numFrom_get : ∀ (ds : List D) (i j : Nat), (numFrom i ds)[j]? = (ds[j]?).map fun d => .tuple [.int ((i + j : Nat)), d]
  | [], _, _ => by simp [numFrom]
  | d :: ds, i, 0 => by simp [numFrom]
  | d :: ds, i, j + 1 => by
    show (numFrom (i + 1) ds)[j]? = _
    rw [numFrom_get ds (i + 1) j, List.getElem?_cons_succ, show i + 1 + j = i + (j + 1) by omega]
theorem numFrom_len : ∀ (ds : List D) (i : Nat), (numFrom i ds).length = ds.length
  | [], _ => rfl
  | d :: ds, i => by simp [numFrom, numFrom_len ds]
def enuE (f : Env → M D) : IE := fun ρ => M.bind (f ρ) fun d => M.of ((items d).map (numFrom 0))
theorem wk_enum {J : It} {G : Hp → Prop} {xs : List V} {ds : List D} (hW : Walk J xs.length G (YPair (fun i => some (.int (i : Nat))) (fun i => xs[i]?))) (hG : ∀ H, Lt p c B H1 H → G H) (ra : RepL K p ds (hide H1 B) xs) : WkD K p c true J (numFrom 0 ds) B H1 := by
  refine ⟨G, _, by rw [numFrom_len, ← ra.length]; exact hW, hG, fun i H v H' d lt y e => ?_⟩
  obtain ⟨T, x, y, rfl, nT, rfl, e1, e2⟩ := y
  refine ⟨same_upd nT, fun B' s hB => .inr ⟨rfl, ?_⟩⟩
  rw [numFrom_get] at e
  cases z : ds[i]? with
  | none => rw [z] at e; cases e
  | some w =>
    rw [z] at e; cases e
    cases e1
    have up : Same (hide H1 B) (hide (upd H T (.tup [.int (i : Nat), y])) B') := fun b o e => hide_same B' (same_upd nT) _ _ (s _ _ e)
    exact ⟨_, T, [.int (i : Nat), y], rfl, rfl, .inl (.inl upd_same), .int (i : Nat), _, rfl, (by show V.int _ = V.int _; rw [Nat.zero_add]), y, _, rfl, Rep.mono up (ra.nth z e2), rfl⟩
theorem di_enum {np pos tpos : Pos} {elts : List Expr} {kk : Nat} (hg : Gl X "enumerate") (hm : X.mg "enumerate" = none) (ha : DE X p e f c fr) (hs : starEach [e] X.env = [(false, eval e X.env)] := by rfl) (hs2 : starEach [e] X.env = (false, eval e X.env) :: starEach [] X.env := by rfl) :
    DI X p (.Tuple elts kk tpos) (.Call (.Name "enumerate" np) [e] [] pos) (enuE f) c true :=
  ⟨piHL (pi_enumO hg hm (pa_cons ha.pe pa_nil hs2) hs) fun σ H R hl t => by
    obtain ⟨F, ρ, B, q, xs, q', k1, k2, k3⟩ := t hl
    obtain ⟨d, q1, e1, k2⟩ := M.bind_some k2
    obtain ⟨e2, rfl⟩ := M.of_some k2
    refine fun _ => ⟨F, ρ, B, q, d, _, k1, e1, fun v H1 l1 s1 p1 r1 _ => ?_⟩
    have nt := (k1.stp s1 p1).nt
    cases d with
    | list ds =>
      cases e2
      obtain ⟨a, vs, rfl, hne, h1, h2⟩ := r1.cons.lst k1.pB
      refine ⟨a, vs, rfl, .inl ⟨.inl (.inl h1), fun l => k3 _ H1 l s1 p1 ?_ (wk_enum walk_enum (fun H' lt => .inl (.inl (lst_stays h1 hne r1 lt))) h2)⟩⟩
      rw [numFrom_len, ← h2.length]; exact l1.lst h1
    | tuple ds =>
      cases e2
      obtain ⟨a, vs, rfl, h1, h2⟩ := r1.cons.tup
      refine ⟨a, vs, rfl, .inr ⟨h1.sq, fun l => k3 _ H1 l s1 p1 ?_ (wk_enum walk_enumT (fun H' lt => (tup_nt X.K nt h1 (lt.le k1.pB)).sq) h2)⟩⟩
      rw [numFrom_len, ← h2.length]; exact l1.tup h1
    | _ => cases e2⟩
end
end Sd
/-! dicts by int keys: comprehensions, reads, in -/
namespace Sd
open PySem PySem.Spec PyProof.Rows L2
section
variable {X : Cx} {p : Addr} {K : PySem.W.Frag} {H0 H H' H1 : Hp} {Ext own B : List Addr} {σ : L2.St} {ρ : Env} {q q' : Pot} {E : Ends} {F : Addr → Prop} {c fr : Bool} {f g : Env → M D} {e : Expr}
/-- a dict from ints to data -/
abbrev IDict := List (Int × D)
def dkD (l : IDict) : D := .dict (l.map fun z => (.int z.1, z.2))
theorem dk_pot (l : IDict) : isPot (l.map fun z => ((.int z.1 : D), z.2)) = false := by
  cases l with
  | nil => rfl
  | cons z l => cases l <;> rfl
theorem dk_keys (l : IDict) : (l.map fun z => ((.int z.1 : D), z.2)).map (·.1) = (l.map fun z => (Sum.inl z.1 : Key)).map keyD := by
  rw [List.map_map, List.map_map]; rfl
theorem repKV_iff {R : Hp} : ∀ {l : IDict} {vs : List V}, RepKV K p (l.map fun z => (.int z.1, z.2)) R vs ↔ RepL K p (l.map (·.2)) R vs
  | [], _ => Iff.rfl
  | z :: l, vs => by
    constructor
    · rintro ⟨v, r, e, h1, h2⟩; exact ⟨v, r, e, h1, repKV_iff.mp h2⟩
    · rintro ⟨v, r, e, h1, h2⟩; exact ⟨v, r, e, h1, repKV_iff.mpr h2⟩
/-- keys beside values -/
def kvsOf (l : IDict) (vs : List V) : List (Key × V) := (l.map fun z => (Sum.inl z.1 : Key)).zip vs
theorem kvsOf_any {l : IDict} {vs : List V} (h : vs.length = l.length) (k : Int) : ((kvsOf l vs).any fun kv => decide (kv.1 = Sum.inl k)) = l.any fun z => decide (z.1 = k) := by
  unfold kvsOf
  induction l generalizing vs with
  | nil => rfl
  | cons z l ih =>
    cases vs with
    | nil => simp at h
    | cons v vs =>
      rw [List.map_cons, List.zip_cons_cons, List.any_cons, List.any_cons, ih (by simpa using h)]
      congr 1
      by_cases c : z.1 = k
      · simp [c]
      · simp [c]
theorem kvsOf_put {l : IDict} {vs : List V} (h : vs.length = l.length) {k : Int} {d : D} {v : V} (nk : (l.any fun z => decide (z.1 = k)) = false) : putK (kvsOf l vs) (Sum.inl k) v = kvsOf (l ++ [(k, d)]) (vs ++ [v]) := by
  unfold putK
  rw [kvsOf_any h, nk, if_neg Bool.false_ne_true]
  unfold kvsOf
  rw [List.map_append, List.zip_append (by simpa using h.symm)]
  rfl
def dcGo (own : List Nat) (g : Gd) (tt tk tv : Env → M D) (ρ : Env) : List D → IDict → M IDict
  | [], acc => M.pure acc
  | x :: xs, acc => M.bind (M.of (g x)) fun as => M.bind (tt (sets (wipeD ρ own) (as.map (·.1)) (cl as))) fun b => match b with
    | .bool true => M.bind (tk (sets (wipeD ρ own) (as.map (·.1)) (cl as))) fun k => match k with
      | .int k => M.bind (tv (sets (wipeD ρ own) (as.map (·.1)) (cl as))) fun y => if (acc.any fun z => decide (z.1 = k)) = true then M.fail else dcGo own g tt tk tv ρ xs (acc ++ [(k, y)])
      | _ => M.fail
    | .bool false => dcGo own g tt tk tv ρ xs acc
    | _ => M.fail
def dcE (own : List Nat) (it : IE) (g : Gd) (tt tk tv : Env → M D) : Env → M D := fun ρ => M.bind (it ρ) fun xs => if own.all (fun i => decide (i < ρ.length)) = true then M.bind (dcGo own g tt tk tv ρ xs []) fun l => M.pure (dkD l) else M.fail
theorem dcGo_cons {own : List Nat} {g : Gd} {tt tk tv : Env → M D} {ρ : Env} {x : D} {xs : List D} {acc l : IDict} {q q' : Pot} (h : dcGo own g tt tk tv ρ (x :: xs) acc q = some (l, q')) : ∃ as b q1, g x = some as ∧ tt (sets (wipeD ρ own) (as.map (·.1)) (cl as)) q = some (.bool b, q1) ∧
    ((b = true ∧ ∃ k q2 y q3, tk (sets (wipeD ρ own) (as.map (·.1)) (cl as)) q1 = some (.int k, q2) ∧ tv (sets (wipeD ρ own) (as.map (·.1)) (cl as)) q2 = some (y, q3) ∧ (acc.any fun z => decide (z.1 = k)) = false ∧ dcGo own g tt tk tv ρ xs (acc ++ [(k, y)]) q3 = some (l, q')) ∨ (b = false ∧ dcGo own g tt tk tv ρ xs acc q1 = some (l, q'))) := by
  unfold dcGo at h
  obtain ⟨as, q0, e0, h1⟩ := M.bind_some h
  clear h
  obtain ⟨e1, rfl⟩ := M.of_some e0
  clear e0
  obtain ⟨b, q1, e2, h⟩ := M.bind_some h1
  clear h1
  cases b with
  | bool b =>
    refine ⟨as, b, q1, e1, e2, ?_⟩
    cases b with
    | true =>
      obtain ⟨kd, q2, e3, h2⟩ := M.bind_some h
      clear h
      cases kd with
      | int k =>
        obtain ⟨y, q3, e4, h3⟩ := M.bind_some h2
        clear h2
        refine .inl ⟨rfl, k, q2, y, q3, e3, e4, ?_⟩
        cases z : acc.any fun z => decide (z.1 = k) with
        | true => rw [z, if_pos rfl] at h3; cases h3
        | false => rw [z, if_neg Bool.false_ne_true] at h3; exact ⟨rfl, h3⟩
      | _ => cases h2
    | false => exact .inr ⟨rfl, h⟩
  | _ => cases h
/-- the walk of a dict comprehension -/
theorem dc_it {J : It} {n : Nat} {G : Hp → Prop} {Y : Nat → Hp → V → Hp → Prop} (w : Walk J n G Y) {g : TG} {tt : TT} {tk tv : TE} {vs : List Nat} {σ : L2.St} {H1 : Hp} {D : Addr} {Qd : Hp → Prop} (Pv : Nat → Hp → Prop) (h0 : Pv 0 (upd H1 D (.dK []))) (hG : ∀ i H, i ≤ n → Pv i H → G H)
    (hs : ∀ i x H H', i < n → Pv i H → Y i H x H' → g x (wipe σ vs) H' fun σ2 H2 => wipe σ2 vs = wipe σ vs ∧ tt σ2 H2 fun b H3 => if b = true then tk σ2 H3 fun y H4 => tv σ2 H4 fun z H5 => ∃ kvs k, y = kV k ∧ H5 D = some (.dK kvs) ∧ kvs.length < sizeLine ∧ Pv (i + 1) (upd H5 D (.dK (putK kvs k z))) else Pv (i + 1) H3)
    (hd : ∀ H, Pv n H → Qd H) : ∃ W : Nat → Nat → Hp → Prop, (∃ m, W 0 m (upd H1 D (.dK []))) ∧ ∀ i m H, W i m H →
      (J.stop i H ∧ Qd H) ∨ (J.go i H ∧ ∃ Nx : Hp → Prop, (∀ H', Nx H' → ∃ m', m' < m ∧ W (i + 1) m' H') ∧ ∀ x H', J.yld i H x H' → g x (wipe σ vs) H' fun σ2 H2 => wipe σ2 vs = wipe σ vs ∧ tt σ2 H2 fun b H3 =>
        if b = true then tk σ2 H3 fun y H4 => tv σ2 H4 fun z H5 => ∃ kvs k, y = kV k ∧ H5 D = some (.dK kvs) ∧ kvs.length < sizeLine ∧ Nx (upd H5 D (.dK (putK kvs k z))) else Nx H3) := by
  refine ⟨fun i m H => m = n - i ∧ i ≤ n ∧ Pv i H, ⟨n, rfl, Nat.zero_le _, h0⟩, ?_⟩
  rintro i m H ⟨rfl, hi, pv⟩
  have hg := hG i H hi pv
  rcases Nat.lt_or_ge i n with lt | ge
  · exact .inr ⟨w.goes i H lt hg, Pv (i + 1), fun H' pv' => ⟨n - (i + 1), by omega, rfl, lt, pv'⟩, fun x H' y => hs i x H H' lt pv (w.yields i H x H' lt hg y)⟩
  · obtain rfl : i = n := by omega
    exact .inl ⟨w.stops H hg, hd H pv⟩
theorem dc_read {own : List Nat} {it : IE} {ci ck cv pr tk' : Bool} {g : Gd} {ft fk fv : Env → M D} {Q : VK} (hpt : pr = true → tk' = true) (hgo : Gin g own) (hl : HL H) (t : tE X.K p (dcE own it g ft fk fv) false true σ H Q) :
    tDc (tI X.K p it ci pr) (tG X.K p tk' g) (tT X.K p ft) (tE X.K p fk false ck) (tE X.K p fv false cv) own σ H (fun v H' => HL H' → Q v H') := by
  obtain ⟨F, ρ, B, q, d, q', k1, k2, k3⟩ := t hl
  obtain ⟨xs, q1, e1, k2⟩ := M.bind_some k2
  by_cases hown : own.all (fun i => decide (i < ρ.length)) = true
  case neg => rw [if_neg hown] at k2; cases k2
  rw [if_pos hown] at k2
  obtain ⟨fin, q2, e2, k2⟩ := M.bind_some k2
  obtain ⟨rfl, rfl⟩ := M.pure_some k2
  refine fun _ => ⟨F, ρ, B, q, xs, q1, k1, e1, fun J H1 l1 s1 p1 hz wk L nL => ?_⟩
  obtain ⟨G, Y, W, hG, hY⟩ := wk.ex
  have pB := k1.pB
  have K1 := k1.stp s1 p1
  have hLp : L ≠ p := fun z => by rw [z, p1] at nL; cases nL
  have hLB : L ∉ B := new_nB K1.nt nL
  refine dc_it (Qd := fun H => HL H → Q (.ref L) H) W (fun i H' => ∃ (vs : List V) (acc : IDict) (qi : Pot), H' L = some (.dK (kvsOf acc vs)) ∧ vs.length ≤ i ∧ vs.length = acc.length ∧ RepL X.K p (acc.map (·.2)) (hide H' (L :: B)) vs ∧ Stp p H1 H' ∧ H' p = some (potV qi) ∧
    dcGo own g ft fk fv ρ (xs.drop i) acc qi = some (fin, q')) ?_ ?_ ?_ ?_
  · refine ⟨[], [], q1, upd_same, Nat.zero_le _, rfl, rfl, Stp.of (same_upd nL), ?_, e2⟩
    rw [upd_ne (Ne.symm hLp)]; exact p1
  · rintro i H' _ ⟨vs, acc, qi, _, _, _, _, st, _⟩
    exact hG H' (Lt.of_stp st pB)
  · rintro i x Ha Hb hi ⟨vs, acc, qi, hL, hlen, hla, racc, st, pq, ego⟩ y
    have hx : xs[i]? = some xs[i] := List.getElem?_eq_getElem hi
    obtain ⟨sab, rx⟩ := hY i Ha x Hb _ (Lt.of_stp st pB) y hx
    rw [show xs.drop i = xs[i] :: xs.drop (i + 1) from List.drop_eq_getElem_cons hi] at ego
    obtain ⟨as, b, q3, ea, et, ego2⟩ := dcGo_cons ego
    clear ego
    have stb : Stp p H1 Hb := st.trans (Stp.of sab)
    have hidA : Same (hide H1 B) (hide Ha (L :: B)) := hide_mono fun a o n e => ⟨fun z => by
      rcases List.mem_cons.mp z with z | z
      · rw [z, nL] at e; cases e
      · exact n z, st a o e fun z => n (z ▸ pB)⟩
    have hidB : Same (hide H1 B) (hide Hb (L :: B)) := fun a o e => hide_same _ sab _ _ (hidA _ _ e)
    have repx := rx (L :: B) hidA fun a ha => by
      rcases List.mem_cons.mp ha with z | z
      · rw [z, hL]; exact fun z => by cases z
      · by_cases hap : a = p
        · rw [hap, pq]; exact fun z => by cases z
        · obtain ⟨o, e, _⟩ := K1.nt a z
          rw [st a o e hap]; exact fun z => by cases z
    have hLb : Hb L = some (.dK (kvsOf acc vs)) := sab _ _ hL
    have pqb : Hb p = some (potV qi) := sab _ _ pq
    have Pb : Pre X.K p F Hb (L :: B) (wipe σ own) (wipeD ρ own) qi := by
      have P1 := (K1.stp stb pqb).wipe own
      refine ⟨pqb, List.mem_cons_of_mem _ pB, fun a ha => ?_, fun j b e h => ?_, P1.len⟩
      · rcases List.mem_cons.mp ha with z | z
        · rw [z]; exact ⟨_, hLb, rfl⟩
        · exact P1.nt a z
      · obtain ⟨w, h1, h2, h3⟩ := (K1.wipe own).env j b e h
        refine ⟨w, h1, fun z => Rep.mono hidB (h2 z), fun z => ?_⟩
        obtain ⟨a, ea, hB, hne, hF, z⟩ := h3 z
        refine ⟨a, ea, List.mem_cons_of_mem _ hB, hne, hF, ?_⟩
        rcases z with ⟨ds, ws, e1, z1, z2⟩ | ⟨kvs, ws, e1, z0, z1, z2⟩
        · exact .inl ⟨ds, ws, e1, stb _ _ z1 hne, RepL.mono hidB z2⟩
        · exact .inr ⟨kvs, ws, e1, z0, DcAt_stp stb hne z1, RepKV.mono hidB z2⟩
    refine ⟨xs[i], hide Hb (L :: B), as, RepG.up hpt repx, hide_le _ _, ea, fun ws rws => ⟨?_, ?_⟩⟩
    · rw [wipe_sets _ ws _ fun j hj => ?_, wipe_wipe]
      obtain ⟨a, ha, rfl⟩ := List.mem_map.mp hj
      exact hgo _ _ ea a ha
    · have Ps := Pb.setsC rws
      refine fun _ => ⟨F, _, L :: B, qi, b, q3, Ps, et, fun Hc lc sc pc => ?_⟩
      have stc : Stp p H1 Hc := stb.trans sc
      have hLc : Hc L = some (.dK (kvsOf acc vs)) := sc _ _ hLb hLp
      have raccC : RepL X.K p (acc.map (·.2)) (hide Hc (L :: B)) vs := RepL.mono (Stp.hid ((Stp.of sab).trans sc) (List.mem_cons_of_mem _ pB)) racc
      rcases ego2 with ⟨rfl, k, q4, yv, q5, ek, ev, nk, ego⟩ | ⟨rfl, ego⟩
      · dsimp only
        rw [if_pos rfl]
        refine fun _ => ⟨F, _, L :: B, q3, .int k, q4, Ps.stp sc pc, ek, fun u Hd ld sd pd ru _ _ => ⟨F, _, L :: B, q4, yv, q5, (Ps.stp sc pc).stp sd pd, ev, fun v He le se pe rv _ => ?_⟩⟩
        have hLe : He L = some (.dK (kvsOf acc vs)) := se _ _ (sd _ _ hLc hLp) hLp
        refine ⟨kvsOf acc vs, Sum.inl k, by rw [ru.cons.int]; rfl, hLe, by unfold kvsOf; rw [List.length_zip, List.length_map]; omega, vs ++ [v], acc ++ [(k, yv)], q5, ?_, by simp; omega, by simp [hla], ?_, fun a o e ne => ?_, ?_, ego⟩
        · rw [upd_same, kvsOf_put hla nk]
        · have hs : Same (hide He (L :: B)) (hide (upd He L (.dK (putK (kvsOf acc vs) (Sum.inl k) v))) (L :: B)) := hide_mono fun a o n e => ⟨n, by rw [upd_ne (fun z => n (by simp [z]))]; exact e⟩
          rw [List.map_append]
          exact RepL.mono hs (RepL.app (RepL.mono ((sd.trans se).hid (List.mem_cons_of_mem _ pB)) raccC) (RepL.one rv))
        · have hn : a ≠ L := fun z => by rw [z, nL] at e; cases e
          rw [upd_ne hn]
          exact ((stc.trans sd).trans se) a o e ne
        · rw [upd_ne (Ne.symm hLp)]; exact pe
      · dsimp only
        rw [if_neg Bool.false_ne_true]
        exact ⟨vs, acc, q3, hLc, by omega, hla, raccC, stc, pc, ego⟩
  · rintro Hn ⟨vs, acc, qn, hL, hlen, hla, racc, st, pq, ego⟩ ln
    rw [List.drop_length] at ego
    obtain ⟨rfl, rfl⟩ := M.pure_some ego
    refine k3 _ Hn ln (s1.trans st) pq ?_ fun _ => new_of s1 p1 nL
    have hk : hide Hn B L = some (.dK ((fin.map fun z : Int × D => (Sum.inl z.1 : Key)).zip vs)) := hide_of hLB hL
    refine .inr ⟨dk_pot fin, L, vs, rfl, .inl ⟨fin.map fun z : Int × D => (Sum.inl z.1 : Key), by rw [List.length_map, hla], dk_keys fin, hk⟩, repKV_iff.mpr (RepL.mono (fun a o e => ?_) racc)⟩
    obtain ⟨n, e⟩ := hide_some e
    exact hide_of (by simp only [List.mem_singleton]; exact fun z => n (by simp [z])) (hide_of (fun z => n (List.mem_cons_of_mem _ z)) e)
theorem d_dc {kx vx tg iter : Expr} {ifs : List Expr} {scope : Scope} {pos : Pos} (own : List (Str × Nat)) {it : IE} {ci ck cv pr tk : Bool} {g : Gd} {ft fk fv : Env → M D} (hpt : pr = true → tk = true) (hc : X.calm = true) (hN : X.N.Nodup) (ok : BlkOk X.N X.env.scope scope own) (hi : DI X p tg iter it ci pr)
    (hgo : Gin g (own.map (·.2))) (hg : ∀ (s : Shared) (H : Hp) (C : Addr) (cl : List (Str × Addr)) (fp : List Addr), DG (X.blk s H scope (compEnvC scope cl C X.env) fp) p tk tg g)
    (ht : ∀ (s : Shared) (H : Hp) (C : Addr) (cl : List (Str × Addr)) (fp : List Addr), DTs (X.blk s H scope (compEnvC scope cl C X.env) fp) p ifs ft)
    (hk : ∀ (s : Shared) (H : Hp) (C : Addr) (cl : List (Str × Addr)) (fp : List Addr), DE (X.blk s H scope (compEnvC scope cl C X.env) fp) p kx fk false ck)
    (hv : ∀ (s : Shared) (H : Hp) (C : Addr) (cl : List (Str × Addr)) (fp : List Addr), DE (X.blk s H scope (compEnvC scope cl C X.env) fp) p vx fv false cv) (hs : ∀ x, foldedSetIterable iter X.env x = pure x := by intro _; rfl) :
    DE X p (.DictComp kx vx [⟨tg, iter, ifs, 0⟩] scope pos) (dcE (own.map (·.2)) it g ft fk fv) false true :=
  ⟨peHL (pe_dc hc hN hi.pi ok (fun s H C cl fp => (hg s H C cl fp).pg) (fun s H C cl fp => (ht s H C cl fp).pts) (fun s H C cl fp => (hk s H C cl fp).pe) (fun s H C cl fp => (hv s H C cl fp).pe) hs) fun σ H Q hl t => dc_read hpt hgo hl t⟩
/-! ### d[k], k in d -/
def dkOf : List (D × D) → Option IDict
  | [] => some []
  | (.int k, d) :: r => (dkOf r).map ((k, d) :: ·)
  | _ => none
def findI (l : IDict) (k : Int) : Option D := (l.find? fun z => decide (z.1 = k)).map (·.2)
theorem dkOf_some : ∀ {kvs : List (D × D)} {l : IDict}, dkOf kvs = some l → kvs = l.map fun z => (.int z.1, z.2)
  | [], _, e => by cases e; rfl
  | (k, d) :: r, l, e => by
    cases k with
    | int k =>
      have e' : (dkOf r).map ((k, d) :: ·) = some l := e
      cases z : dkOf r with
      | none => rw [z] at e'; cases e'
      | some l' => rw [z] at e'; cases e'; rw [dkOf_some z]; rfl
    | _ => cases e
theorem find_kvs {R : Hp} : ∀ {l : IDict} {vs : List V} (k : Int), RepL K p (l.map (·.2)) R vs → (findI l k = none ∧ valV (kvsOf l vs) (Sum.inl k) = none) ∨ (∃ d v, findI l k = some d ∧ valV (kvsOf l vs) (Sum.inl k) = some v ∧ Rep K p d R v)
  | [], vs, k, r => .inl ⟨rfl, by rw [show vs = [] from r]; rfl⟩
  | z :: l, _, k, r => by
    obtain ⟨v, vr, rfl, h1, h2⟩ := r
    by_cases e : z.1 = k
    · refine .inr ⟨z.2, v, by simp [findI, List.find?_cons, e], ?_, h1⟩
      show valV ((Sum.inl z.1, v) :: kvsOf l vr) (Sum.inl k) = some v
      exact valV_pos (by rw [e])
    · rcases find_kvs k h2 with ⟨g1, g2⟩ | ⟨d, w, g1, g2, g3⟩
      · refine .inl ⟨by simp [findI, List.find?_cons, e] at g1 ⊢; exact g1, ?_⟩
        show valV ((Sum.inl z.1, v) :: kvsOf l vr) (Sum.inl k) = none
        rw [valV_neg (fun y => e (by cases y; rfl))]; exact g2
      · refine .inr ⟨d, w, by simp [findI, List.find?_cons, e] at g1 ⊢; exact g1, ?_, g3⟩
        show valV ((Sum.inl z.1, v) :: kvsOf l vr) (Sum.inl k) = some w
        rw [valV_neg (fun y => e (by cases y; rfl))]; exact g2
theorem RepC.dk {F : Addr → Prop} {H : Hp} {B : List Addr} {kvs : List (D × D)} {l : IDict} {v : V} (el : dkOf kvs = some l) (ne : l ≠ []) (h : RepC K p F H B (.dict kvs) v) : ∃ a vs, v = .ref a ∧ H a = some (.dK (kvsOf l vs)) ∧ RepL K p (l.map (·.2)) (hide H B) vs := by
  have ek := dkOf_some el
  subst ek
  obtain ⟨a, vs, ea, h1, h2⟩ := h.dic (dk_pot l)
  refine ⟨a, vs, ea, ?_, repKV_iff.mp h2⟩
  rw [dk_keys] at h1
  rcases h1 with ⟨ks, k1, k2, k3⟩ | ⟨ks, k1, k2, k3⟩
  · have inj : ∀ {a b : List Key}, a.map keyD = b.map keyD → a = b := fun {a b} h => by
      refine List.map_inj_right (fun x y hxy => ?_) |>.mp h
      cases x <;> cases y <;> cases hxy <;> rfl
    rw [← inj k2] at k3
    exact k3
  · exfalso
    cases l with
    | nil => exact ne rfl
    | cons z l =>
      cases ks with
      | nil => cases k2
      | cons k ks => cases k2
def getD' (d e : D) : Option D := match d, e with
  | .dict kvs, .int k => match dkOf kvs with
    | some l => findI l k
    | none => none
  | _, _ => none
/-- k in d; an empty one is of no known kind -/
def inDk (neg : Bool) (e d : D) : Option D := match d, e with
  | .dict kvs, .int k => match dkOf kvs with
    | some l => if l = [] then none else some (.bool (neg != (findI l k).isSome))
    | none => none
  | _, _ => none
theorem d_dget {a b : Expr} {fa fb : Env → M D} {ca cb f1 f2 : Bool} {pos : Pos} (hu : X.A.units + 1 < cLine) (ha : DE X p a fa ca f1) (hb : DE X p b fb cb f2) (hs : NoSl b) : DE X p (.Subscript a b pos) (ap2 getD' fa fb) false false :=
  ⟨peHL (pe_dget hu ha.pe hb.pe hs) fun σ H Q hl t => by
    obtain ⟨F, ρ, B, q, d, q', k1, k2, k3⟩ := t hl
    obtain ⟨d1, q1, e1, k2⟩ := M.bind_some k2
    obtain ⟨d2, q2, e2, k2⟩ := M.bind_some k2
    obtain ⟨e3, rfl⟩ := M.of_some k2
    refine fun _ => ⟨F, ρ, B, q, d1, q1, k1, e1, fun x H1 l1 s1 p1 r1 _ _ => ⟨F, ρ, B, q1, d2, _, k1.stp s1 p1, e2, fun y H2 l2 s2 p2 r2 _ => ?_⟩⟩
    have rc := RepC.stp s2 k1.pB r1.cons
    unfold getD' at e3
    cases d1 with
    | dict kvs =>
      cases d2 with
      | int k =>
        dsimp only at e3
        cases z : dkOf kvs with
        | none => rw [z] at e3; cases e3
        | some l =>
          rw [z] at e3
          dsimp only at e3
          have ne : l ≠ [] := fun y => by rw [y] at e3; cases e3
          obtain ⟨a, vs, rfl, h1, h2⟩ := rc.dk z ne
          rcases find_kvs k h2 with ⟨g1, g2⟩ | ⟨d', w, g1, g2, g3⟩
          · rw [g1] at e3; cases e3
          · rw [g1] at e3; cases e3
            exact ⟨a, w, rfl, .inl ⟨_, Sum.inl k, .inl h1, by rw [r2.cons.int]; rfl, g2.symm⟩, fun l' => k3 w H2 l' (s1.trans s2) p2 g3 (fun z => by cases z)⟩
      | _ => cases e3
    | _ => cases e3⟩
theorem pc_dkin {i o : Expr} {ty td : TE} {neg : Bool} {op : CmpOp} (hop : (op = .In ∧ neg = false) ∨ (op = .NotIn ∧ neg = true)) (hu : X.A.units + 1 < cLine) (hi : PE X i ty) (ho : PE X o td) :
    PC X op i o (fun σ H Q => ty σ H fun y H1 => td σ H1 fun x H2 => ∃ a o, x = .ref a ∧ DGet H2 a y o ∧ Q (.bl (neg != o.isSome)) H2) := by
  rcases hop with ⟨rfl, rfl⟩ | ⟨rfl, rfl⟩
  · have z := pc_din hu hi ho
    unfold tDIn at z
    simpa using z
  · have z := pc_dnotin hu hi ho
    unfold tDNotIn at z
    simpa using z
theorem dk_in_read {a b : Expr} {fa fb : Env → M D} {ca cb f1 f2 : Bool} {neg : Bool} {Q : VK} (ha : DE X p a fa ca f1) (hb : DE X p b fb cb f2)
    (t : ∃ (F : Addr → Prop) (ρ : Env) (B : List Addr) (q : Pot) (d : D) (q' : Pot), Pre X.K p F H B σ ρ q ∧ ap2 (inDk neg) fa fb ρ q = some (d, q') ∧ ∀ v H', HL H' → Stp p H H' → H' p = some (potV q') → (∃ b, d = .bool b ∧ v = .bl b) → Q v H') :
    tE X.K p fa ca f1 σ H fun y H1 => tE X.K p fb cb f2 σ H1 fun x H2 => ∃ a o, x = .ref a ∧ DGet H2 a y o ∧ Q (.bl (neg != o.isSome)) H2 := by
  obtain ⟨F, ρ, B, q, d, q', k1, k2, k3⟩ := t
  obtain ⟨d1, q1, e1, k2⟩ := M.bind_some k2
  obtain ⟨d2, q2, e2, k2⟩ := M.bind_some k2
  obtain ⟨e3, rfl⟩ := M.of_some k2
  refine fun _ => ⟨F, ρ, B, q, d1, q1, k1, e1, fun x H1 l1 s1 p1 r1 _ _ => ⟨F, ρ, B, q1, d2, _, k1.stp s1 p1, e2, fun y H2 l2 s2 p2 r2 _ => ?_⟩⟩
  unfold inDk at e3
  cases d2 with
  | dict kvs =>
    cases d1 with
    | int k =>
      dsimp only at e3
      cases z : dkOf kvs with
      | none => rw [z] at e3; cases e3
      | some l =>
        rw [z] at e3
        dsimp only at e3
        by_cases ne : l = []
        · rw [if_pos ne] at e3; cases e3
        rw [if_neg ne] at e3
        cases e3
        obtain ⟨a, vs, rfl, h1, h2⟩ := r2.cons.dk z ne
        rcases find_kvs k h2 with ⟨g1, g2⟩ | ⟨d', w, g1, g2, g3⟩
        · exact ⟨a, none, rfl, .inl ⟨_, Sum.inl k, .inl h1, by rw [r1.cons.int]; rfl, g2.symm⟩, k3 _ H2 l2 (s1.trans s2) p2 ⟨_, rfl, by rw [g1]; rfl⟩⟩
        · exact ⟨a, some w, rfl, .inl ⟨_, Sum.inl k, .inl h1, by rw [r1.cons.int]; rfl, g2.symm⟩, k3 _ H2 l2 (s1.trans s2) p2 ⟨_, rfl, by rw [g1]; rfl⟩⟩
    | _ => cases e3
  | _ => cases e3
theorem d_dkin {a b : Expr} {fa fb : Env → M D} {ca cb f1 f2 : Bool} {pos : Pos} {neg : Bool} {op : CmpOp} (hop : (op = .In ∧ neg = false) ∨ (op = .NotIn ∧ neg = true)) (hu : X.A.units + 1 < cLine) (ha : DE X p a fa ca f1) (hb : DE X p b fb cb f2) (hm : behindInMarks op b = false := by rfl) :
    DE X p (.Compare a [op] [b] pos) (ap2 (inDk neg) fa fb) false true :=
  ⟨peHL (pe_cmp (pc_dkin hop hu ha.pe hb.pe) hm) fun σ H Q hl t => by
    obtain ⟨F, ρ, B, q, d, q', k1, k2, k3⟩ := t hl
    exact dk_in_read (Q := fun v H' => HL H' → Q v H') ha hb ⟨F, ρ, B, q, d, q', k1, k2, fun v H' l s hq ⟨b, eb, ev⟩ _ => by subst eb ev; exact k3 _ H' l s hq rfl (fun _ z => by cases z)⟩⟩
theorem dt_dkin {a b : Expr} {fa fb : Env → M D} {ca cb f1 f2 : Bool} {pos : Pos} {neg : Bool} {op : CmpOp} (hop : (op = .In ∧ neg = false) ∨ (op = .NotIn ∧ neg = true)) (hu : X.A.units + 1 < cLine) (ha : DE X p a fa ca f1) (hb : DE X p b fb cb f2) (hm : behindInMarks op b = false := by rfl) :
    DT X p (.Compare a [op] [b] pos) (ap2 (inDk neg) fa fb) :=
  ⟨ptHL (pt_cmp (pc_dkin hop hu ha.pe hb.pe) hm) fun σ H Q hl t => by
    obtain ⟨F, ρ, B, q, b, q', k1, k2, k3⟩ := t hl
    exact dk_in_read (Q := fun v H' => ∃ c, v = .bl c ∧ (HL H' → Q c H')) ha hb ⟨F, ρ, B, q, _, q', k1, k2, fun v H' l s hq ⟨b', eb, ev⟩ => by cases eb; exact ⟨_, ev, fun l' => k3 H' l' s hq⟩⟩⟩
end
end Sd
/-! the end: a law over FnG -/
namespace Sd
open PySem PySem.Spec PyProof.Rows L2
theorem call_law {P : Program} {w : World} {K : PySem.W.Frag} {mg mb : Str → Option Value} {k : Nat} {fa a : Addr} {fd : FuncData} {x : Str} {sp : List V → Hp → VK → Prop} {s1 : Shared} {vs : List Value} {ns : List Int}
    (KX : K.In s1.heap) (hns : s1.heap.Ns mainGlobals mg) (hb : s1.heap.Ns builtinsNs mb) (hbb : ∀ x : Str, x ≠ "__name__" → mb x = bootBuiltins x) (hlim : s1.heap.NoLimit) (hg : s1.gens = #[])
    (ha : s1.heap.get? a = some { cls := .type "list", data := .seq vs.toArray }) (hi : IntsAre vs ns) (hl : ns.length ≤ sizeLine) (hr : Room k callerA)
    (G : ∀ base : Heap, K.In base → base.Ns mainGlobals mg → FnG P w K mg base k fa fd [x] sp) (hbind : ∀ (s : Shared) (u : Value), BindsTo s fd ⟨[u], []⟩ [(x, u)])
    (hsp : ∀ H : Hp, Only H → SqL K H a (ns.map V.int) → sp [.ref a] H (fun v _ => v = .bl true)) :
    codeAny (model P w) callerA (.call (.ref fa) ⟨[.ref a], []⟩) (fun r s' => r = .ok (.ret (.bool true)) ∧ OldK s1.heap s'.heap ∧ s'.os = s1.os ∧ AllBare s'.gens) s1 := by
  have rv := vals_ints hi
  have len := hi.length
  -- a heap that tracks the script at most
  have main : ∀ H : Hp, Only H → SqL K H a (ns.map V.int) → HOk P w H s1.heap → (∀ b, H b ≠ none → b = a ∧ K.lookup a = none) → codeAny (model P w) callerA (.call (.ref fa) ⟨[.ref a], []⟩) (fun r s' => r = .ok (.ret (.bool true)) ∧ OldK s1.heap s'.heap ∧ s'.os = s1.os ∧ AllBare s'.gens) s1 := by
    intro H only sq hok alone
    have none_at : ∀ {b : Addr}, (b = a → K.lookup a = none → False) → H b = none := fun {b} h => by
      cases q : H b with
      | none => rfl
      | some u =>
        obtain ⟨e1, e2⟩ := alone b (by rw [q]; simp)
        exact absurd e2 (h e1)
    have keepNs : ∀ {b : Addr} {m : Str → Option Value}, s1.heap.Ns b m → (hidT s1.heap H).Ns b m := fun {b m} ⟨o, es, ep, e, d, r⟩ => by
      refine ⟨o, es, ep, hidT_get e (none_at fun eb _ => ?_), d, r⟩
      rw [eb, ha] at e
      cases e
      cases (show Data.seq vs.toArray _ = Data.dict es ep from d)
    have inK : K.In (hidT s1.heap H) := fun b o e => hidT_get (KX b o e) (none_at fun eb z => by rw [eb, z] at e; cases e)
    have mod : Mod K mg (hidT s1.heap H) := ⟨inK, keepNs hns, ⟨mb, keepNs hb, hbb⟩, let ⟨mc, h1, h2⟩ := hlim; ⟨mc, keepNs h1, h2⟩⟩
    have e0 : Env0 P w K mg (hidT s1.heap H) callerA [] s1 H := ⟨rfl, mod, fun b o e => of_hidT e, Nat.le_of_eq (hidT_size _ _), trivial, fun b hb => (nomatch hb), hok, .of_eq hg⟩
    refine codeAny_mono ((G _ inK (keepNs hns)).run callerA [] s1 H ⟨[.ref a], []⟩ [.ref a] [.ref a] _ hr rfl e0 (hbind s1 (.ref a)) rfl (.cons rfl .nil) (hsp H only sq)) fun r s' hq => ?_
    obtain ⟨u, rfl, v, H', os, bare, un, hok', rv', ev⟩ := hq
    subst ev
    obtain rfl : u = Value.bool true := rv'
    refine ⟨rfl, OldK.of_keep fun b o e => ?_, os, bare⟩
    cases q : H b with
    | none => exact un.keep b o e q (fun z => (nomatch z)) (by simp)
    | some u =>
      rcases only b with z | ⟨ob, xs, z⟩
      · rw [q] at z; cases z
      · obtain ⟨e1, _⟩ := hok b _ z
        obtain ⟨e2, _⟩ := hok' b _ (un.frzs b ob _ z)
        rw [e] at e1; cases e1
        exact e2
  cases hk : K.lookup a with
  | some o =>
    have e := KX a o hk
    rw [ha] at e
    cases e
    exact main (fun _ => none) (fun _ => .inl rfl) (.inr ⟨_, vs.toArray, _, hk, rfl, rfl, rfl, by rw [List.size_toArray, len]; exact hl, by simpa using rv⟩) (fun b u z => by cases (show (none : Option HO) = some u from z)) (fun b z => absurd rfl z)
  | none =>
    have at_ : ∀ b, (if b = a then some (HO.frz { cls := .type "list", data := .seq vs.toArray } (.lst (ns.map V.int))) else none) ≠ none → b = a := fun b z => by
      by_cases e : b = a
      · exact e
      · exact absurd (if_neg e) z
    refine main (fun b => if b = a then some (.frz { cls := .type "list", data := .seq vs.toArray } (.lst (ns.map V.int))) else none) (fun b => ?_) (.inl (.inr ⟨{ cls := .type "list", data := .seq vs.toArray }, if_pos rfl⟩)) (fun b u z => ?_) (fun b z => ⟨at_ b z, hk⟩)
    · by_cases e : b = a
      · exact .inr ⟨_, _, if_pos e⟩
      · exact .inl (if_neg e)
    · obtain rfl := at_ b (by rw [show (if b = a then some (HO.frz { cls := .type "list", data := .seq vs.toArray } (.lst (ns.map V.int))) else none) = some u from z]; simp)
      have z' : some (HO.frz { cls := .type "list", data := .seq vs.toArray } (.lst (ns.map V.int))) = some u := (if_pos rfl).symm.trans z
      cases z'
      exact ⟨ha, by rw [List.length_map]; exact hl, vs, _, rv, ha⟩
theorem walk_ofG {l : PySem.W.OpenLaw} {n k : Nat} {q : Program} {loose : List Str} {XP : (Str → Option Value) → Heap → Prop} {YP : World → Heap → Prop} {d : DefRec} {x : Str} (hn : l.most = some n) (hn2 : n ≤ sizeLine) (hdf : d.params.defaults = []) (hr : Room k callerA)
    (F : ∀ (w : World) (mg : Str → Option Value) (fa : Addr) (h : Heap), YP w h → h.Ns mainGlobals mg → mg d.name = some (.ref fa) →
      ∃ (K : PySem.W.Frag) (fd : FuncData) (sp : List V → Hp → VK → Prop), K.In h ∧ (∀ (s : Shared) (u : Value), BindsTo s fd ⟨[u], []⟩ [(x, u)]) ∧
        (∀ (H : Hp) (a : Addr) (ns : List Int), ns.length ≤ n → Only H → SqL K H a (ns.map V.int) → sp [.ref a] H (fun v _ => v = .bl true)) ∧
        ∀ base : Heap, K.In base → base.Ns mainGlobals mg → FnG l.prog w K mg base k fa fd [x] sp) :
    PySem.W.WalkO q loose XP YP l.row.toRowW d [] (fun f vs => PySem.call f vs) := by
  refine Att.attach_call hn hdf fun w s0 s1 mg mb fa o pm cd doc a vs ns G Y ho hd hcd hmg hobj hints hlen hg => ?_
  obtain ⟨K, fd, sp, KX, hb, hsp, hF⟩ := F w mg fa _ Y G.T.g hmg
  exact call_law KX G.T.g G.T.b G.T.builtins G.T.nolimit hg hobj hints (Nat.le_trans hlen hn2) hr hF hb fun H hO hS => hsp H a ns hlen hO hS
/-! ### the draws -/
def drawN (A B C : Int) (m : Int) (q : Pot) : Int × Pot := if 0 < q.1 then (q.1 % m, (q.1 / m, q.2)) else (((q.2 * A + B) % 2147483587 * ((q.2 * A + B) % 2147483587) % 2147483549 / C) % m, (q.1, (q.2 * A + B) % 2147483587))
def drawS (A B C : Int) (ds : List D) : M D := fun q => match ds with
  | [.dict kvs, .int m] => if isPot kvs = true ∧ (0 < m ∧ m < 1073741824) ∧ (0 ≤ q.2 ∧ q.2 < 4294967296) then some (.int (drawN A B C m q).1, (drawN A B C m q).2) else none
  | _ => none
theorem drawS_some {A B C : Int} {ds : List D} {q q' : Pot} {d : D} (h : drawS A B C ds q = some (d, q')) : ∃ kvs m, ds = [.dict kvs, .int m] ∧ isPot kvs = true ∧ (0 < m ∧ m < 1073741824) ∧ (0 ≤ q.2 ∧ q.2 < 4294967296) ∧ d = .int (drawN A B C m q).1 ∧ q' = (drawN A B C m q).2 := by
  unfold drawS at h
  split at h
  · rename_i kvs m
    by_cases c : isPot kvs = true ∧ (0 < m ∧ m < 1073741824) ∧ (0 ≤ q.2 ∧ q.2 < 4294967296)
    · rw [if_pos c] at h
      cases h
      exact ⟨kvs, m, rfl, c.1, c.2.1, c.2.2, rfl, rfl⟩
    · rw [if_neg c] at h; cases h
  · cases h
/-- what the def _law_draw keeps, in its own words -/
def spDraw (A B C : Int) (vs : List V) (H : Hp) (Q : VK) : Prop := ∃ (p : Addr) (m : Int) (q : Pot), vs = [.ref p, .int m] ∧ H p = some (potV q) ∧ (0 < m ∧ m < 1073741824) ∧ (0 ≤ q.2 ∧ q.2 < 4294967296) ∧
  ∀ H', Stp p H H' → H' p = some (potV (drawN A B C m q).2) → Q (.int (drawN A B C m q).1) H'
/-- a block's scope, looked at -/
def blkB (N : List Str) (sc scope : Scope) (own : List (Str × Nat)) : Bool := decide (scope.kind = .function) && (scope.names.all (fun y => decide (scope.names.lookup y.1 = some y.2)) && (own.all (fun p => decide (N[p.2]? = some p.1)) &&
  (scope.names.all (fun y => !decide (y.2 = .free) || (decide (sc.names.lookup y.1 = some .cell) || decide (sc.names.lookup y.1 = some .free))) && scope.names.all (fun y => !(decide (y.2 = .local) || decide (y.2 = .cell)) || (decide (y.1 ∈ own.map (·.1)) || decide (y.1 ∉ N))))))
theorem blk_of {N : List Str} {sc scope : Scope} {own : List (Str × Nat)} (h : blkB N sc scope own = true) : BlkOk N sc scope own := by
  unfold blkB at h
  simp only [Bool.and_eq_true, decide_eq_true_eq, List.all_eq_true, Bool.or_eq_true, Bool.not_eq_true', decide_eq_false_iff_not, Bool.or_eq_false_iff] at h
  obtain ⟨h1, h2, h3, h4, h5⟩ := h
  refine ⟨h1, h2, h3, fun y hy e => ?_, fun y hy e => ?_⟩
  · rcases h4 y hy with z | z
    · exact absurd e z
    · exact z
  · rcases h5 y hy with z | z
    · rcases e with e | e
      · exact absurd e z.1
      · exact absurd e z.2
    · exact z
theorem ite_read {b : Bool} {P Q : Prop} (h1 : b = true → P) (h2 : b = false → Q) : if b = true then P else Q := by
  cases b with
  | true => rw [if_pos rfl]; exact h1 rfl
  | false => rw [if_neg Bool.false_ne_true]; exact h2 rfl
theorem FnG.imp {P : Program} {w : World} {K : PySem.W.Frag} {mg : Str → Option Value} {base : Heap} {k : Nat} {f : Addr} {fd : FuncData} {ps : List Str} {sp sp' : List V → Hp → VK → Prop} (F : FnG P w K mg base k f fd ps sp) (h : ∀ vs H Q, HL H → sp' vs H Q → sp vs H (fun v H' => HL H' → Q v H')) : FnG P w K mg base k f fd ps sp' :=
  ⟨fun A outer s H args us vs Q hr hg e0 hb hl r hsp => codeAny_mono (F.run A outer s H args us vs _ hr hg e0 hb hl r (h vs H Q (HL_of e0.hok) hsp)) fun r s' hq => by
    obtain ⟨u, e, v, H', os, bare, un, hok', rv', q⟩ := hq
    exact ⟨u, e, v, H', os, bare, un, hok', rv', q (HL_of hok')⟩⟩
theorem fnG_draw {P : Program} {w : World} {K : PySem.W.Frag} {mg : Str → Option Value} {base : Heap} {k : Nat} {f : Addr} {fd : FuncData} {ps : List Str} {A B C : Int} (F : FnG P w K mg base k f fd ps (spDraw A B C)) : FnG P w K mg base k f fd ps (spD K 2 (drawS A B C)) :=
  F.imp fun vs H Q hl h => by
    obtain ⟨len, p, ds, B', q, d, q', r, hp, nt, hq, e, k⟩ := h
    obtain ⟨kvs, m, rfl, h1, h2, h3, rfl, rfl⟩ := drawS_some e
    obtain ⟨v, _, rfl, r1, v2, _, rfl, r2, rfl⟩ := r
    rcases r1 with ⟨_, rfl⟩ | ⟨z, _⟩
    · obtain rfl : v2 = V.int m := r2
      exact ⟨p, m, q, rfl, hq, h2, h3, fun H' s p' l => k _ H' l s p' rfl⟩
    · rw [h1] at z; cases z
end Sd
namespace Hd
open PySem PySem.Spec PyProof.Rows L2 Sd
variable {P : Program} {w : World} {K : PySem.W.Frag} {mg : Str → Option Value} {base : Heap} {f : Addr} {fd : FuncData}
abbrev FnP (K : PySem.W.Frag) (d : He.DefD) (x : Str) (f : Addr) (fd : FuncData) : Prop := FunD K x x d.params d.body d.scope [] [] f fd
theorem scDraw : FnScope ["pot", "many", "digit"] ["pot", "many"] (defScope (top 34)) := ⟨rfl, rfl, rfl, by decide +kernel, rfl, by decide +kernel, by decide +kernel⟩
theorem gDraw (F : FunD K "_law_draw" "_law_draw" (defArgs (top 34)) (defBody (top 34)) (defScope (top 34)) [] [] f fd) (m1 : mg "divmod" = none) (m2 : mg "int" = none) : FnG P w K mg base 1 f fd ["pot", "many"] (spDraw 40692 4861 17) := by
  refine fnG_of F scDraw fun cdv A outer s H vs Q hr hg len h => ⟨_, pss_cons (ps_if (pt_cmp (pc_gt (pe_ix ix_list (pv 0) pe_int (by exact fun _ _ => rfl)) pe_int))
    (pss_cons (ps_asg (pe_callB call_divmod rfl m1 (by decide +kernel) (pa_cons (pe_ix ix_list (pv 0) pe_int (by exact fun _ _ => rfl)) (pa_cons (pv 1) pa_nil))) (pg_tup rfl (pgs_cons (pg_sub (pv 0) pe_int set_list) (pgs_cons (pg_name (i := 2) scDraw.nd rfl (.inl rfl)) pgs_nil)))) (pss_one (ps_ret (pv 2)))) pss_nil)
    (pss_cons (ps_asg (pe_op op_mod (pe_callTy call_int1 rfl m2 (by decide +kernel) (pa_cons (pe_op op_add (pe_op op_mul (pe_ix ix_list (pv 0) pe_int (by exact fun _ _ => rfl)) pe_int) pe_int) pa_nil)) pe_int) (pg_sub (pv 0) pe_int set_list))
      (pss_one (ps_ret (pe_op op_mod (pe_callTy call_int1 rfl m2 (by decide +kernel) (pa_cons (pe_op op_fdiv (pe_op op_mod (pe_callTy call_int1 rfl m2 (by decide +kernel) (pa_cons (pe_op op_mul (pe_ix ix_list (pv 0) pe_int (by exact fun _ _ => rfl)) (pe_ix ix_list (pv 0) pe_int (by exact fun _ _ => rfl))) pa_nil)) pe_int) pe_int) pa_nil)) (pv 1))))), ?_⟩
  obtain ⟨p, m, q, rfl, hp, hm, hq, k⟩ := h
  refine ⟨.ref p, rfl, p, _, 0, .int q.1, rfl, rfl, .inl (.inl hp), rfl, q.1, 0, rfl, rfl, _, rfl, ?_⟩
  refine ite_read (fun c => ?_) (fun c => ?_)
  · have c : 0 < q.1 := by simpa using c
    refine ⟨.ref p, rfl, p, _, 0, .int q.1, rfl, rfl, .inl (.inl hp), rfl, .int m, rfl, q.1, m, rfl, hm, fun t nt => ?_⟩
    have ne : p ≠ t := fun z => by rw [z, nt] at hp; cases hp
    refine ⟨t, _, rfl, .inl (.inl upd_same), rfl, _, _, rfl, .ref p, rfl, p, _, 0, 0, rfl, rfl, (by rw [upd_ne ne]; exact hp), rfl, _, _, rfl, rfl, _, rfl, ?_⟩
    have e : drawN 40692 4861 17 m q = (q.1 % m, (q.1 / m, q.2)) := if_pos c
    rw [e] at k
    refine k _ (fun b o eb nb => ?_) upd_same
    rw [upd_ne nb, upd_ne (fun z => by rw [z, nt] at eb; cases eb)]
    exact eb
  · have c : ¬ 0 < q.1 := by simpa using c
    have e : drawN 40692 4861 17 m q = (((q.2 * 40692 + 4861) % 2147483587 * ((q.2 * 40692 + 4861) % 2147483587) % 2147483549 / 17) % m, (q.1, (q.2 * 40692 + 4861) % 2147483587)) := if_neg c
    rw [e] at k
    have b0 : 0 ≤ (q.2 * 40692 + 4861) % 2147483587 := by omega
    have b1 : (q.2 * 40692 + 4861) % 2147483587 < 2147483587 := by omega
    refine ⟨.ref p, rfl, p, _, 1, .int q.2, rfl, rfl, .inl (.inl hp), rfl, q.2, 40692, rfl, rfl, .inl (by omega), _, _, rfl, rfl, .inl ⟨_, rfl, _, _, rfl, rfl, (show (0 : Int) < 2147483587 by decide), .ref p, rfl, p, _, 1, 1, rfl, rfl, hp, rfl, ?_⟩⟩
    have hp2 : upd H p (HO.lst ([V.int q.1, V.int q.2].set 1 (V.int ((q.2 * 40692 + 4861) % 2147483587)))) p = some (.lst [V.int q.1, V.int ((q.2 * 40692 + 4861) % 2147483587)]) := upd_same
    refine ⟨.ref p, rfl, p, _, 1, .int ((q.2 * 40692 + 4861) % 2147483587), rfl, rfl, .inl (.inl hp2), rfl, .ref p, rfl, p, _, 1, .int ((q.2 * 40692 + 4861) % 2147483587), rfl, rfl, .inl (.inl hp2), rfl, _, _, rfl, rfl, .inl (by omega), .inl ⟨_, rfl, _, _, rfl, rfl, (show (0 : Int) < 2147483549 by decide), _, _, rfl, rfl, ⟨by decide, by decide⟩, .inl ⟨_, rfl, .int m, rfl, _, _, rfl, rfl, hm.1, ?_⟩⟩⟩
    exact k _ (fun c o eb nb => by rw [upd_ne nb]; exact eb) hp2
end Hd
/-! a def over data from its body -/
namespace Sd
open PySem PySem.Spec PyProof.Rows L2
def startE (n : Nat) (ds : List D) : Env := ds.map (fun d => some (false, d)) ++ List.replicate (n - ds.length) none
/-- what a def with that body does: n slots -/
def defM (n : Nat) (f : SE) : List D → M D := fun ds => M.bind (f (startE n ds)) fun r => match r.1 with
  | .rt d => M.pure d
  | .nx => M.pure .none
  | _ => M.fail
theorem defM_some {n : Nat} {f : SE} {ds : List D} {q q' : Pot} {d : D} (h : defM n f ds q = some (d, q')) : ∃ r, f (startE n ds) q = some (r, q') ∧ (r.1 = .rt d ∨ (r.1 = .nx ∧ d = .none)) := by
  obtain ⟨⟨fl, ρ⟩, q1, e1, h2⟩ := M.bind_some h
  clear h
  cases fl with
  | rt e => obtain ⟨rfl, rfl⟩ := M.pure_some h2; exact ⟨_, e1, .inl rfl⟩
  | nx => obtain ⟨rfl, rfl⟩ := M.pure_some h2; exact ⟨_, e1, .inr ⟨rfl, rfl⟩⟩
  | bk => cases h2
  | ct => cases h2
theorem startE_get {n : Nat} {ds : List D} {i : Nat} {b : Bool} {d : D} (h : (startE n ds)[i]? = some (some (b, d))) : i < ds.length ∧ b = false ∧ ds[i]? = some d := by
  unfold startE at h
  by_cases c : i < (ds.map (fun d => some (false, d))).length
  · rw [List.getElem?_append_left c, List.getElem?_map] at h
    rw [List.length_map] at c
    cases z : ds[i]? with
    | none => rw [z] at h; cases h
    | some e => rw [z] at h; cases h; exact ⟨c, rfl, rfl⟩
  · rw [List.getElem?_append_right (by omega)] at h
    have m := List.mem_of_getElem? h
    rw [List.mem_replicate] at m
    cases m.2
theorem start_get {N : List Str} {vs : List V} {i : Nat} {v : V} (h : vs[i]? = some v) : (L2.start N vs)[i]? = some (some v) := by
  unfold L2.start
  have lt : i < (vs.map some).length := by rw [List.length_map]; exact (List.getElem?_eq_some_iff.mp h).1
  rw [List.getElem?_append_left lt, List.getElem?_map, h]; rfl
theorem fnG_def {P : Program} {w : World} {K : PySem.W.Frag} {mg : Str → Option Value} {base : Heap} {x qual : Str} {body : List Stmt} {scope : Scope} {f : Addr} {fd : FuncData} {N ps : List Str} {k : Nat} {params : Arguments} {fS : SE}
    (F : FunD K x qual params body scope [] [] f fd) (S : FnScope N ps scope) (hl : ps.length ≤ N.length)
    (hbody : ∀ (p : Addr) (cdv : Value) (A : Around) (outer : List PySem.Env) (s : Shared) (H : Hp), Room k (A.deeper (envOfC qual scope s.heap.objs.size f cdv)) → A.guards = some [] → DSs (cxB P w K mg base N qual scope f cdv A outer s H) p body fS) :
    FnG P w K mg base (k + 1) f fd ps (spD K ps.length (defM N.length fS)) := by
  refine FnG.imp (fnG_of (sp := fun vs H Q => HL H ∧ spD K ps.length (defM N.length fS) vs H Q) F S fun cdv A outer s H vs Q hr hg len h => ?_) fun vs H Q hl h => ⟨hl, ?_⟩
  · obtain ⟨hL, _, p, ds, B, q, d, q', r, hp, nt, hq, e, kk⟩ := h
    refine ⟨_, (hbody p cdv A outer s H hr hg).pss, fun _ => ?_⟩
    obtain ⟨rr, e1, e2⟩ := defM_some e
    have lv : vs.length = ds.length := r.length
    refine ⟨H, B, [], startE N.length ds, q, rr, q', ⟨fun _ _ h _ => h, ⟨hq, hp, nt, fun i b d' h => ?_, ?_⟩, hp, fun a ha => (nomatch ha), fun a ha => ?_, fun i j d1 d2 a h1 h2 => ?_, ?_⟩, e1, ?_⟩
    · obtain ⟨_, rfl, hd⟩ := startE_get h
      obtain ⟨v, h1, h2⟩ := r.get hd
      exact ⟨v, start_get h1, fun _ => h2, fun z => (by cases z)⟩
    · unfold L2.start startE; simp [lv]
    · obtain ⟨o, ho, _⟩ := nt a ha
      rw [ho]; exact fun z => by cases z
    · obtain ⟨_, z, _⟩ := startE_get h1; cases z
    · unfold L2.start startE; simp [lv]
    · obtain ⟨fl, ρ'⟩ := rr
      rcases e2 with e2 | ⟨e2, rfl⟩
      · obtain rfl : fl = .rt d := e2
        exact fun v H' l st pq rv => kk v H' l st pq rv
      · obtain rfl : fl = .nx := e2
        exact fun σ' H' own' l St => kk .non H' l St.stp0 St.pre.pot rfl
  · obtain ⟨len, p, ds, B, q, d, q', r, hp, nt, hq, e, kk⟩ := h
    exact ⟨len, p, ds, B, q, d, q', r, hp, nt, hq, e, fun v H' l s p' rep _ => kk v H' l s p' rep⟩
theorem room_u {k : Nat} {A : Around} (r : Room k A) {n : Nat} (h : n ≤ 200) : A.units + n < cLine := by have := r.un; omega
/-! ### builtins by data -/
section
variable {X : Cx} {p : Addr} {e : Expr} {f : Env → M D} {c fr : Bool} {np pos : Pos}
theorem d_len (hg : Gl X "len") (hm : X.mg "len" = none) (ha : DE X p e f c fr) (hs : starEach [e] X.env = (false, eval e X.env) :: starEach [] X.env := by rfl) (hpl : (backTo pos (starEach [] X.env)).any (·.1) = false := by rfl) : DE X p (.Call (.Name "len" np) [e] [] pos) (ap lenD [f]) false false :=
  d_callR (fun h => pe_callB call_len_seq hg hm (by decide +kernel) h (by decide) (by decide) hs hpl) ok_len (da_cons ha.weak da_nil hs)
theorem d_all (hc : X.calm = true) (hg : Gl X "all") (hm : X.mg "all" = none) (ha : DE X p e f c fr) (hs : starEach [e] X.env = (false, eval e X.env) :: starEach [] X.env := by rfl) (hpl : (backTo pos (starEach [] X.env)).any (·.1) = false := by rfl) : DE X p (.Call (.Name "all" np) [e] [] pos) (ap allD [f]) false false :=
  d_callR (fun h => pe_callB (cr_all hc) hg hm (by decide +kernel) h (by decide) (by decide) hs hpl) ok_all (da_cons ha.weak da_nil hs)
theorem d_any (hc : X.calm = true) (hg : Gl X "any") (hm : X.mg "any" = none) (ha : DE X p e f c fr) (hs : starEach [e] X.env = (false, eval e X.env) :: starEach [] X.env := by rfl) (hpl : (backTo pos (starEach [] X.env)).any (·.1) = false := by rfl) : DE X p (.Call (.Name "any" np) [e] [] pos) (ap anyD [f]) false false :=
  d_callR (fun h => pe_callB (cr_any hc) hg hm (by decide +kernel) h (by decide) (by decide) hs hpl) ok_any (da_cons ha.weak da_nil hs)
theorem d_list (hg : Gl X "list") (hm : X.mg "list" = none) (ha : DE X p e f c fr) (hs : starEach [e] X.env = (false, eval e X.env) :: starEach [] X.env := by rfl) (hpl : (backTo pos (starEach [] X.env)).any (·.1) = false := by rfl) : DE X p (.Call (.Name "list" np) [e] [] pos) (ap listD [f]) false true :=
  d_callR (fun h => pe_callTy call_list_of hg hm (by decide +kernel) h (by decide) (by decide) hs hpl) ok_list (da_cons ha.weak da_nil hs)
theorem d_tupC (hg : Gl X "tuple") (hm : X.mg "tuple" = none) (ha : DE X p e f c fr) (hs : starEach [e] X.env = (false, eval e X.env) :: starEach [] X.env := by rfl) (hpl : (backTo pos (starEach [] X.env)).any (·.1) = false := by rfl) : DE X p (.Call (.Name "tuple" np) [e] [] pos) (ap tupD [f]) false true :=
  d_callR (fun h => pe_callTy call_tupleO hg hm (by decide +kernel) h (by decide) (by decide) hs hpl) ok_tup (da_cons ha.weak da_nil hs)
theorem d_sorted (hu : X.A.units + 70 < cLine) (hg : Gl X "sorted") (hm : X.mg "sorted" = none) (ha : DE X p e f c fr) (hs : starEach [e] X.env = (false, eval e X.env) :: starEach [] X.env := by rfl) (hpl : (backTo pos (starEach [] X.env)).any (·.1) = false := by rfl) : DE X p (.Call (.Name "sorted" np) [e] [] pos) (ap sortedD [f]) false true :=
  d_callR (fun h => pe_callB (cr_sortedD hu) hg hm (by decide +kernel) h (by decide) (by decide) hs hpl) ok_sorted (da_cons ha.weak da_nil hs)
theorem d_repr (hgd : X.A.guards = some []) (hu : X.A.units + 64 < cLine) (hg : Gl X "repr") (hm : X.mg "repr" = none) (ha : DE X p e f c fr) (hs : starEach [e] X.env = (false, eval e X.env) :: starEach [] X.env := by rfl) (hpl : (backTo pos (starEach [] X.env)).any (·.1) = false := by rfl) : DE X p (.Call (.Name "repr" np) [e] [] pos) (ap reprD [f]) false false :=
  d_callR (fun h => pe_callB (cr_repr hgd hu) hg hm (by decide +kernel) h (by decide) (by decide) hs hpl) ok_repr (da_cons ha.weak da_nil hs)
theorem d_sumL {b : Expr} {g : Env → M D} {f1 f2 : Bool} (hc : X.calm = true) (hg : Gl X "sum") (hm : X.mg "sum" = none) (ha : DE X p e f false f1) (hb : DE X p b g false f2) (hs : starEach [e, b] X.env = (false, eval e X.env) :: starEach [b] X.env := by rfl) (hs2 : starEach [b] X.env = (false, eval b X.env) :: starEach [] X.env := by rfl) (hpl : (backTo pos (starEach [b] X.env)).any (·.1) = false := by rfl) :
    DE X p (.Call (.Name "sum" np) [e, b] [] pos) (ap sumLD [f, g]) false false :=
  d_callR0 (fun h => pe_callB (cr_sumL hc) hg hm (by decide +kernel) h (by decide) (by decide) hs hpl) ok_sumL (da_cons ha (da_cons hb da_nil hs2) hs)
end
end Sd

namespace Sd
open PySem PySem.Spec PyProof.Rows L2
/-! ### names, blocks: with their side facts -/
section
variable {X : Cx} {p : Addr}
theorem dv (i : Nat) {x : Str} {pos : Pos} (hN : X.N[i]? = some x := by rfl) (hv : Vis X.env.scope x := by first | exact Or.inl rfl | exact Or.inr (Or.inl rfl) | exact Or.inr (Or.inr rfl)) (hd : (x == ("__debug__" : Str)) = false := by decide) (hcd : (x == ("__classdict__" : Str)) = false := by decide) :
    DE X p (.Name x pos) (vr i) false false := d_var i hN hv hd hcd
theorem dvC (i : Nat) {x : Str} {pos : Pos} (hN : X.N[i]? = some x := by rfl) (hv : Vis X.env.scope x := by first | exact Or.inl rfl | exact Or.inr (Or.inl rfl) | exact Or.inr (Or.inr rfl)) (hd : (x == ("__debug__" : Str)) = false := by decide) (hcd : (x == ("__classdict__" : Str)) = false := by decide) :
    DE X p (.Name x pos) (vrC i) true false := d_varC i hN hv hd hcd
theorem dgS {x z : Str} {pos : Pos} {fr : Bool} (hm : ∃ t, X.mg x = some (.str z t)) (hg : Gl X x := by rfl) (hd : (x == ("__debug__" : Str)) = false := by decide) : DE X p (.Name x pos) (cst (.str z)) false fr := by
  obtain ⟨t, hm⟩ := hm
  exact d_glob (v := .str z) hm ⟨t, rfl⟩ (fun _ => rfl) rfl hg hd
theorem dgI {x : Str} {z : Int} {pos : Pos} {fr : Bool} (hm : ∃ t, X.mg x = some (.int z t)) (hg : Gl X x := by rfl) (hd : (x == ("__debug__" : Str)) = false := by decide) : DE X p (.Name x pos) (cst (.int z)) false fr := by
  obtain ⟨t, hm⟩ := hm
  exact d_glob (v := .int z) hm ⟨t, rfl⟩ (fun _ => rfl) rfl hg hd
end
/-! ### keywords -/
def permL (is : List Nat) {α : Type} (ws : List α) : List α := is.filterMap fun i => ws[i]?
theorem permL_len {is : List Nat} {α : Type} {ws : List α} (h : ∀ i ∈ is, i < ws.length) : (permL is ws).length = is.length := by
  unfold permL
  induction is with
  | nil => rfl
  | cons i is ih =>
    rw [List.filterMap_cons_some (List.getElem?_eq_getElem (h i List.mem_cons_self)), List.length_cons, List.length_cons, ih fun j hj => h j (List.mem_cons_of_mem _ hj)]
theorem permL_rep {is : List Nat} {K : PySem.W.Frag} {p : Addr} {H : Hp} {ds : List D} {vs : List V} (h : ∀ i ∈ is, i < ds.length) (r : RepL K p ds H vs) : RepL K p (permL is ds) H (permL is vs) := by
  unfold permL
  induction is with
  | nil => exact rfl
  | cons i is ih =>
    have hi := h i List.mem_cons_self
    obtain ⟨v, h1, h2⟩ := r.get (List.getElem?_eq_getElem hi)
    rw [List.filterMap_cons_some (List.getElem?_eq_getElem hi), List.filterMap_cons_some h1]
    exact ⟨v, _, rfl, h2, ih fun j hj => h j (List.mem_cons_of_mem _ hj)⟩
theorem permL_vals {is : List Nat} {vs : List V} {us : List Value} (h : ∀ i ∈ is, i < vs.length) (r : Vals vs us) : Vals (permL is vs) (permL is us) := by
  unfold permL
  induction is with
  | nil => exact .nil
  | cons i is ih =>
    have hi := h i List.mem_cons_self
    obtain ⟨u, h1, h2⟩ := r.get (List.getElem?_eq_getElem hi)
    rw [List.filterMap_cons_some (List.getElem?_eq_getElem hi), List.filterMap_cons_some h1]
    exact .cons h2 (ih fun j hj => h j (List.mem_cons_of_mem _ hj))
theorem kw_of {K : PySem.W.Frag} {x qual : Str} {params : Arguments} {body : List Stmt} {scope : Scope} {f : Addr} {fd : FuncData} {ps ks : List Str} (F : FunD K x qual params body scope [] [] f fd) (is : List Nat) (hi : is.all (fun i => decide (i < ks.length)) = true) (hl : is.length = ps.length)
    (h : ∀ (kV doc pm : Value) (an : Option Addr) (cdv ct : Value) (us : List Value), us.length = ks.length → bindArgs (PySem.W.fnOf x qual params body scope .none kV doc pm an cdv ct) ⟨[], ks.zip us⟩ = pure (ps.zip (permL is us))) : KwB K fd ps ks (permL is) := by
  have hi' : ∀ i ∈ is, i < ks.length := fun i m => by simpa using List.all_eq_true.mp hi i m
  refine ⟨fun s ws _ hw => ?_, fun ws hw => by rw [permL_len (fun i m => by rw [hw]; exact hi' i m), hl], fun hz r => permL_vals (fun i m => by rw [hz]; exact hi' i m) r⟩
  obtain ⟨oc, od, dV, kV, doc, pm, an, cdv, ct, osl, rfl, lk, hcd, hD, hK⟩ := F.ex
  rcases hD with ⟨_, rfl⟩ | ⟨e, _⟩
  · exact .of_eq (h kV doc pm an cdv ct ws hw)
  · exact absurd rfl e
end Sd

namespace Sd
open PySem PySem.Spec PyProof.Rows L2
section
variable {X : Cx} {p : Addr} {k : Nat} {f : Addr} {fd : FuncData} {ps ks : List Str} {x : Str} {np pos : Pos} {e : Expr} {es : List Expr} {kws : List Keyword} {φ : List D → M D} {fs : List (Env → M D)}
theorem d_call {n : Nat} (F : FnG X.prog X.w X.K X.mg X.base k f fd ps (spD X.K n φ)) (hr : Room k X.A) (hgd : X.A.guards = some []) (hm : X.mg x = some (.ref f)) (hk : PySem.W.keepIn X.K (.ref f) = true) (hb : Binds X.K fd ps []) (ha : DA X p (e :: es) fs false) (hl : ps.length = n := by rfl) (hn : fs.length = n := by rfl) (hg : Gl X x := by rfl)
    (hdb : (x == ("__debug__" : Str)) = false := by decide) (he : starEach (e :: es) X.env = (false, eval e X.env) :: starEach es X.env := by rfl) (hpl : (backTo pos (starEach es X.env)).any (·.1) = false := by rfl) : DE X p (.Call (.Name x np) (e :: es) [] pos) (callE φ fs) false false := by
  subst hl
  exact d_callG (fun h => pe_callG F hr hgd hg hm hk hb h hdb he hpl) hn ha
theorem d_callB {n : Nat} (F : FnG X.prog X.w X.K X.mg X.base k f fd ps (spD X.K n φ)) (hr : Room k X.A) (hgd : X.A.guards = some []) (hm : X.mg x = some (.ref f)) (hk : PySem.W.keepIn X.K (.ref f) = true) (hb : Binds X.K fd ps []) (ha : DA X p (e :: es) fs true) (hl : ps.length = n := by rfl) (hn : fs.length = n := by rfl) (hg : Gl X x := by rfl)
    (hdb : (x == ("__debug__" : Str)) = false := by decide) (he : starEach (e :: es) X.env = (false, eval e X.env) :: starEach es X.env := by rfl) (hpl : (backTo pos (starEach es X.env)).any (·.1) = false := by rfl) : DE X p (.Call (.Name x np) (e :: es) [] pos) (callC φ fs) false false := by
  subst hl
  exact d_callGC (fun h => pe_callG F hr hgd hg hm hk hb h hdb he hpl) hn ha
theorem d_callK {n : Nat} (is : List Nat) (F : FnG X.prog X.w X.K X.mg X.base k f fd ps (spD X.K n φ)) (hr : Room k X.A) (hgd : X.A.guards = some []) (hm : X.mg x = some (.ref f)) (hk : PySem.W.keepIn X.K (.ref f) = true) (hb : KwB X.K fd ps ks (permL is)) (ha : DK X p kws fs false) (hl : ps.length = n := by rfl) (hn : fs.length = ks.length := by rfl) (hi : is.all (fun i => decide (i < ks.length)) = true := by decide) (hil : is.length = n := by rfl) (hg : Gl X x := by rfl)
    (hall : (backToKw pos (keywordEach kws X.env)).all (·.1.isSome) = true := by rfl) (hks : (backToKw pos (keywordEach kws X.env)).filterMap (·.1) = ks := by rfl)
    (hpl : ((backTo pos (starEach [] X.env)).any (·.1) || (backToKw pos (keywordEach kws X.env)).any (·.1.isNone)) = false := by rfl) (hdb : (x == ("__debug__" : Str)) = false := by decide) : DE X p (.Call (.Name x np) [] kws pos) (callE (fun ds => φ (permL is ds)) fs) false false := by
  subst hl
  have hi' : ∀ i ∈ is, i < ks.length := fun i m => by simpa using List.all_eq_true.mp hi i m
  exact d_callGK (g := permL is) (fun h => pe_callGK F hr hgd hg hm hk hb h hall hks hpl hdb) hn (fun hm r => permL_rep (fun i m => by rw [hm]; exact hi' i m) r) (fun ws hw => by rw [permL_len (fun i m => by rw [hw]; exact hi' i m), hil]) ha
theorem d_isiT {e1 : Expr} {tp pos : Pos} {g : Env → M D} {c fr : Bool} {T : Str} (n : String) (hm : X.mg "isinstance" = none) (hT : X.mg T = none) (h1 : DE X p e1 g c fr) (hv : bootBuiltins T = some (.type n) := by decide +kernel) (hg : Gl X "isinstance" := by rfl) (hgT : Gl X T := by rfl) (hn : T ≠ "__name__" := by decide) (hd : (T == ("__debug__" : Str)) = false := by decide)
    (s1 : starEach [e1, .Name T tp] X.env = (false, eval e1 X.env) :: starEach [.Name T tp] X.env := by rfl) (s2 : starEach [.Name T tp] X.env = (false, eval (.Name T tp) X.env) :: starEach [] X.env := by rfl) (hpl : (backTo pos (starEach [.Name T tp] X.env)).any (·.1) = false := by rfl) :
    DE X p (.Call (.Name "isinstance" np) [e1, .Name T tp] [] pos) (ap1 (isiD n) g) false true := d_isi n hg hm h1 (pe_bltn hgT hT hv rfl hn hd) s1 s2 hpl
theorem tupAsg2 {i j : Nat} (ws : List V) (σ : L2.St) (H : Hp) (Q : L2.St → Hp → Prop) (hl : ws.length = 2) (hq : Q (sets σ [i, j] ws) H) : gCons (gName i) (gCons (gName j) gNil) ws σ H Q := by
  match ws, hl with
  | [a, b], _ => exact ⟨a, [b], rfl, b, [], rfl, rfl, hq⟩
theorem tupAsg3 {i j k : Nat} (ws : List V) (σ : L2.St) (H : Hp) (Q : L2.St → Hp → Prop) (hl : ws.length = 3) (hq : Q (sets σ [i, j, k] ws) H) : gCons (gName i) (gCons (gName j) (gCons (gName k) gNil)) ws σ H Q := by
  match ws, hl with
  | [a, b, c], _ => exact ⟨a, [b, c], rfl, b, [c], rfl, c, [], rfl, rfl, hq⟩
end
end Sd
namespace Hd
open PySem PySem.Spec PyProof.Rows L2 Sd
/-- what stands behind the law's names -/
structure Al (K : PySem.W.Frag) (mg : Str → Option Value) where
  f1 : Addr
  fd1 : FuncData
  F1 : FunD K "is_integer" "is_integer" (defArgs (top 1)) (defBody (top 1)) (defScope (top 1)) [] [] f1 fd1
  h1 : mg "is_integer" = some (.ref f1)
  f2 : Addr
  fd2 : FuncData
  F2 : FunD K "is_within" "is_within" (defArgs (top 2)) (defBody (top 2)) (defScope (top 2)) [] [] f2 fd2
  h2 : mg "is_within" = some (.ref f2)
  f3 : Addr
  fd3 : FuncData
  F3 : FunD K "is_tuple" "is_tuple" (defArgs (top 3)) (defBody (top 3)) (defScope (top 3)) [] [] f3 fd3
  h3 : mg "is_tuple" = some (.ref f3)
  f4 : Addr
  fd4 : FuncData
  F4 : FunD K "are_rising" "are_rising" (defArgs (top 4)) (defBody (top 4)) (defScope (top 4)) [] [] f4 fd4
  h4 : mg "are_rising" = some (.ref f4)
  f5 : Addr
  fd5 : FuncData
  F5 : FunD K "is_lot" "is_lot" (defArgs (top 5)) (defBody (top 5)) (defScope (top 5)) [] [] f5 fd5
  h5 : mg "is_lot" = some (.ref f5)
  f15 : Addr
  fd15 : FuncData
  F15 : FunD K "is_strike_among" "is_strike_among" (defArgs (top 15)) (defBody (top 15)) (defScope (top 15)) [] [] f15 fd15
  h15 : mg "is_strike_among" = some (.ref f15)
  f16 : Addr
  fd16 : FuncData
  F16 : FunD K "is_dispute_any" "is_dispute_any" (defArgs (top 16)) (defBody (top 16)) (defScope (top 16)) [] [] f16 fd16
  h16 : mg "is_dispute_any" = some (.ref f16)
  f17 : Addr
  fd17 : FuncData
  F17 : FunD K "is_lot_of" "is_lot_of" (defArgs (top 17)) (defBody (top 17)) (defScope (top 17)) [] [] f17 fd17
  h17 : mg "is_lot_of" = some (.ref f17)
  f18 : Addr
  fd18 : FuncData
  F18 : FunD K "want_dispute" "want_dispute" (defArgs (top 18)) (defBody (top 18)) (defScope (top 18)) [] [] f18 fd18
  h18 : mg "want_dispute" = some (.ref f18)
  f19 : Addr
  fd19 : FuncData
  F19 : FunD K "want_more" "want_more" (defArgs (top 19)) (defBody (top 19)) (defScope (top 19)) [] [] f19 fd19
  h19 : mg "want_more" = some (.ref f19)
  f21 : Addr
  fd21 : FuncData
  F21 : FunD K "struck_by" "struck_by" (defArgs (top 21)) (defBody (top 21)) (defScope (top 21)) [] [] f21 fd21
  h21 : mg "struck_by" = some (.ref f21)
  f23 : Addr
  fd23 : FuncData
  F23 : FunD K "is_ahead_of" "is_ahead_of" (defArgs (top 23)) (defBody (top 23)) (defScope (top 23)) [] [] f23 fd23
  h23 : mg "is_ahead_of" = some (.ref f23)
  f24 : Addr
  fd24 : FuncData
  F24 : FunD K "want_ahead" "want_ahead" (defArgs (top 24)) (defBody (top 24)) (defScope (top 24)) [] [] f24 fd24
  h24 : mg "want_ahead" = some (.ref f24)
  f26 : Addr
  fd26 : FuncData
  F26 : FunD K "alone" "alone" (defArgs (top 26)) (defBody (top 26)) (defScope (top 26)) [] [] f26 fd26
  h26 : mg "alone" = some (.ref f26)
  f27 : Addr
  fd27 : FuncData
  F27 : FunD K "rest_of" "rest_of" (defArgs (top 27)) (defBody (top 27)) (defScope (top 27)) [] [] f27 fd27
  h27 : mg "rest_of" = some (.ref f27)
  f28 : Addr
  fd28 : FuncData
  F28 : FunD K "want_within" "want_within" (defArgs (top 28)) (defBody (top 28)) (defScope (top 28)) [] [] f28 fd28
  h28 : mg "want_within" = some (.ref f28)
  f29 : Addr
  fd29 : FuncData
  F29 : FunD K "front" "front" (defArgs (top 29)) (defBody (top 29)) (defScope (top 29)) [] [] f29 fd29
  h29 : mg "front" = some (.ref f29)
  f30 : Addr
  fd30 : FuncData
  F30 : FunD K "rest" "rest" (defArgs (top 30)) (defBody (top 30)) (defScope (top 30)) [] [] f30 fd30
  h30 : mg "rest" = some (.ref f30)
  f31 : Addr
  fd31 : FuncData
  F31 : FunD K "is_behind" "is_behind" (defArgs (top 31)) (defBody (top 31)) (defScope (top 31)) [] [] f31 fd31
  h31 : mg "is_behind" = some (.ref f31)
  f33 : Addr
  fd33 : FuncData
  F33 : FunD K "_law_pot" "_law_pot" (defArgs (top 33)) (defBody (top 33)) (defScope (top 33)) [] [] f33 fd33
  h33 : mg "_law_pot" = some (.ref f33)
  f34 : Addr
  fd34 : FuncData
  F34 : FunD K "_law_draw" "_law_draw" (defArgs (top 34)) (defBody (top 34)) (defScope (top 34)) [] [] f34 fd34
  h34 : mg "_law_draw" = some (.ref f34)
  f35 : Addr
  fd35 : FuncData
  F35 : FunD K "_law_dispute" "_law_dispute" (defArgs (top 35)) (defBody (top 35)) (defScope (top 35)) [] [] f35 fd35
  h35 : mg "_law_dispute" = some (.ref f35)
  f36 : Addr
  fd36 : FuncData
  F36 : FunD K "_law_base" "_law_base" (defArgs (top 36)) (defBody (top 36)) (defScope (top 36)) [] [] f36 fd36
  h36 : mg "_law_base" = some (.ref f36)
  f37 : Addr
  fd37 : FuncData
  F37 : FunD K "_law_alone" "_law_alone" (defArgs (top 37)) (defBody (top 37)) (defScope (top 37)) [] [] f37 fd37
  h37 : mg "_law_alone" = some (.ref f37)
  f38 : Addr
  fd38 : FuncData
  F38 : FunD K "_law_rest" "_law_rest" (defArgs (top 38)) (defBody (top 38)) (defScope (top 38)) [] [] f38 fd38
  h38 : mg "_law_rest" = some (.ref f38)
  f39 : Addr
  fd39 : FuncData
  F39 : FunD K "_law_right" "_law_right" (defArgs (top 39)) (defBody (top 39)) (defScope (top 39)) [] [] f39 fd39
  h39 : mg "_law_right" = some (.ref f39)
  f40 : Addr
  fd40 : FuncData
  F40 : FunD K "law" "law" (defArgs (top 40)) (defBody (top 40)) (defScope (top 40)) [] [] f40 fd40
  h40 : mg "law" = some (.ref f40)
  m_len : mg "len" = none
  m_isinstance : mg "isinstance" = none
  m_all : mg "all" = none
  m_any : mg "any" = none
  m_sorted : mg "sorted" = none
  m_set : mg "set" = none
  m_list : mg "list" = none
  m_tuple : mg "tuple" = none
  m_range : mg "range" = none
  m_sum : mg "sum" = none
  m_repr : mg "repr" = none
  m_abs : mg "abs" = none
  m_max : mg "max" = none
  m_min : mg "min" = none
  m_int : mg "int" = none
  m_divmod : mg "divmod" = none
  m_zip : mg "zip" = none
  m_enumerate : mg "enumerate" = none
  m_bool : mg "bool" = none
  m_str : mg "str" = none
  c_DISPUTE : ∃ t, mg "DISPUTE" = some (.str "dispute" t)
  c_MOST_CLAIMS : ∃ t, mg "MOST_CLAIMS" = some (.int 10 t)
variable {P : Program} {w : World} {K : PySem.W.Frag} {mg : Str → Option Value} {base : Heap}
theorem scope1 : FnScope ["value"] ["value"] (defScope (top 1)) := ⟨rfl, rfl, rfl, by decide +kernel, rfl, by decide +kernel, by decide +kernel⟩
/-- is_integer -/
def b1 : SE := retS (andE (ap1 (isiD "int") (vr 0)) (ap1 notD (ap1 (isiD "bool") (vr 0))))
def s1 : List D → M D := defM 1 b1
theorem g1 (a : Al K mg) : FnG P w K mg base 1 a.f1 a.fd1 ["value"] (spD K 1 s1) := by
  exact fnG_def a.F1 scope1 (by decide) fun p cdv A outer s H hr hg => dss_one (ds_ret (d_and (d_isiT "int" a.m_isinstance a.m_int (dv 0)) (d_one (d_not (d_isiT "bool" a.m_isinstance a.m_bool (dv 0))))))
theorem scope2 : FnScope ["value", "least", "most"] ["value", "least", "most"] (defScope (top 2)) := ⟨rfl, rfl, rfl, by decide +kernel, rfl, by decide +kernel, by decide +kernel⟩
/-- is_within -/
def b2 : SE := retS (andE (callE s1 [vr 0]) (chainE leD leD (vr 1) (vr 0) (vr 2)))
def s2 : List D → M D := defM 3 b2
theorem g2 (a : Al K mg) : FnG P w K mg base 2 a.f2 a.fd2 ["value", "least", "most"] (spD K 3 s2) := by
  have G1 := g1 (P := P) (w := w) (base := base) a
  exact fnG_def a.F2 scope2 (by decide) fun p cdv A outer s H hr hg => dss_one (ds_ret (d_and (d_call (G1.mono (by decide)) hr hg a.h1 a.F1.kp (a.F1.bindsN fun _ _ _ _ _ _ us hl => match us, hl with | [_], _ => rfl) (da_cons (dv 0) (da_nil))) (d_one (d_lele (dv 1) (dv 0) (dv 2)))))
theorem scope3 : FnScope ["value", "many"] ["value", "many"] (defScope (top 3)) := ⟨rfl, rfl, rfl, by decide +kernel, rfl, by decide +kernel, by decide +kernel⟩
/-- is_tuple -/
def b3 : SE := retS (andE (ap1 (isiD "tuple") (vr 0)) (ap2 eqD (ap lenD [vr 0]) (vr 1)))
def s3 : List D → M D := defM 2 b3
theorem g3 (a : Al K mg) : FnG P w K mg base 1 a.f3 a.fd3 ["value", "many"] (spD K 2 s3) := by
  exact fnG_def a.F3 scope3 (by decide) fun p cdv A outer s H hr hg => dss_one (ds_ret (d_and (d_isiT "tuple" a.m_isinstance a.m_tuple (dv 0)) (d_one (d_eq (room_u hr (by decide)) (d_len rfl a.m_len (dv 0)) (dv 1)))))
theorem scope4 : FnScope ["values", "near", "far"] ["values"] (defScope (top 4)) := ⟨rfl, rfl, rfl, by decide +kernel, rfl, by decide +kernel, by decide +kernel⟩
/-- are_rising -/
def b4 : SE := retS (ap allD [lcE [1, 2] (zipE [vr 0, sliE (vr 0) (soO (cst (.int 1))) (noO)]) (gT [gN 1, gN 2]) (cst (.bool true)) (ap2 ltD (vr 1) (vr 2))])
def s4 : List D → M D := defM 3 b4
theorem g4 (a : Al K mg) : FnG P w K mg base 1 a.f4 a.fd4 ["values"] (spD K 1 s4) := by
  exact fnG_def a.F4 scope4 (by decide) fun p cdv A outer s H hr hg => dss_one (ds_ret (d_all rfl rfl a.m_all (d_lc [("near", 1), ("far", 2)] (fun _ => rfl) rfl scope4.nd (blk_of (N := ["values", "near", "far"]) (sc := defScope (top 4)) (by decide +kernel)) (di_zip rfl a.m_zip (da_cons (dv 0) (da_cons (d_sl (dv 0) (do_some (d_int (fr := false))) (do_none)) (da_nil)))) (gT_in (gi_cons (gN_in (by decide)) (gi_cons (gN_in (by decide)) (gi_nil)))) (fun _ _ _ _ _ => dg_tup (tk := true) rfl (dgs_cons (dg_name 1 scope4.nd rfl (by first | exact Or.inl rfl | exact Or.inr rfl | exact Or.inr (Or.inl rfl))) (dgs_cons (dg_name 2 scope4.nd rfl (by first | exact Or.inl rfl | exact Or.inr rfl | exact Or.inr (Or.inl rfl))) (dgs_nil)))) (fun _ _ _ _ _ => dts_nil) (fun _ _ _ _ _ => d_lt hr.units0 (dv 1) (dv 2)))))
theorem scope5 : FnScope ["value", "most", "one"] ["value", "most"] (defScope (top 5)) := ⟨rfl, rfl, rfl, by decide +kernel, rfl, by decide +kernel, by decide +kernel⟩
/-- is_lot -/
def b5 : SE := retS (andE (ap1 (isiD "tuple") (vr 0)) (andE (ap allD [lcE [2] (itE (vr 0)) (gN 2) (cst (.bool true)) (callE s2 [vr 2, cst (.int 0), vr 1])]) (callE s4 [vr 0])))
def s5 : List D → M D := defM 3 b5
theorem g5 (a : Al K mg) : FnG P w K mg base 3 a.f5 a.fd5 ["value", "most"] (spD K 2 s5) := by
  have G2 := g2 (P := P) (w := w) (base := base) a
  have G4 := g4 (P := P) (w := w) (base := base) a
  exact fnG_def a.F5 scope5 (by decide) fun p cdv A outer s H hr hg => dss_one (ds_ret (d_and (d_isiT "tuple" a.m_isinstance a.m_tuple (dv 0)) (d_and (d_all rfl rfl a.m_all (d_lc [("one", 2)] (fun z => z) rfl scope5.nd (blk_of (N := ["value", "most", "one"]) (sc := defScope (top 5)) (by decide +kernel)) (di_seq (dv 0)) (gN_in (by decide)) (fun _ _ _ _ _ => dg_name 2 scope5.nd rfl (by first | exact Or.inl rfl | exact Or.inr rfl | exact Or.inr (Or.inl rfl))) (fun _ _ _ _ _ => dts_nil) (fun _ _ _ _ _ => d_call (G2.mono (by decide)) hr hg a.h2 a.F2.kp (a.F2.bindsN fun _ _ _ _ _ _ us hl => match us, hl with | [_, _, _], _ => rfl) (da_cons (dv 2) (da_cons (d_int (fr := false)) (da_cons (dv 1) (da_nil))))))) (d_one (d_call (G4.mono (by decide)) hr hg a.h4 a.F4.kp (a.F4.bindsN fun _ _ _ _ _ _ us hl => match us, hl with | [_], _ => rfl) (da_cons (dv 0) (da_nil)))))))
theorem scope15 : FnScope ["many", "value", "one"] ["many", "value"] (defScope (top 15)) := ⟨rfl, rfl, rfl, by decide +kernel, rfl, by decide +kernel, by decide +kernel⟩
/-- is_strike_among -/
def b15 : SE := retS (andE (callE s3 [vr 1, cst (.int 2)]) (ap allD [lcE [2] (itE (vr 1)) (gN 2) (cst (.bool true)) (callE s2 [vr 2, cst (.int 0), ap2 subD (vr 0) (cst (.int 1))])]))
def s15 : List D → M D := defM 3 b15
theorem g15 (a : Al K mg) : FnG P w K mg base 3 a.f15 a.fd15 ["many", "value"] (spD K 2 s15) := by
  have G3 := g3 (P := P) (w := w) (base := base) a
  have G2 := g2 (P := P) (w := w) (base := base) a
  exact fnG_def a.F15 scope15 (by decide) fun p cdv A outer s H hr hg => dss_one (ds_ret (d_and (d_call (G3.mono (by decide)) hr hg a.h3 a.F3.kp (a.F3.bindsN fun _ _ _ _ _ _ us hl => match us, hl with | [_, _], _ => rfl) (da_cons (dv 1) (da_cons (d_int (fr := false)) (da_nil)))) (d_one (d_all rfl rfl a.m_all (d_lc [("one", 2)] (fun z => z) rfl scope15.nd (blk_of (N := ["many", "value", "one"]) (sc := defScope (top 15)) (by decide +kernel)) (di_seq (dv 1)) (gN_in (by decide)) (fun _ _ _ _ _ => dg_name 2 scope15.nd rfl (by first | exact Or.inl rfl | exact Or.inr rfl | exact Or.inr (Or.inl rfl))) (fun _ _ _ _ _ => dts_nil) (fun _ _ _ _ _ => d_call (G2.mono (by decide)) hr hg a.h2 a.F2.kp (a.F2.bindsN fun _ _ _ _ _ _ us hl => match us, hl with | [_, _, _], _ => rfl) (da_cons (dv 2) (da_cons (d_int (fr := false)) (da_cons (d_sub (dv 0) (d_int (fr := false))) (da_nil))))))))))
theorem scope16 : FnScope ["value", "near", "far", "one"] ["value"] (defScope (top 16)) := ⟨rfl, rfl, rfl, by decide +kernel, rfl, by decide +kernel, by decide +kernel⟩
/-- is_dispute_any -/
def b16 : SE := seqS (ifS (orE (ap1 notD (callE s3 [vr 0, cst (.int 3)])) (orE (ap1 notD (ap1 (isiD "str") (ap2 ixD (vr 0) (cst (.int 0))))) (ap2 neD (ap2 ixD (vr 0) (cst (.int 0))) (cst (.str "dispute"))))) (retS (cst (.bool false))) (nilS)) (seqS (ifS (orE (ap1 notD (callE s2 [ap2 ixD (vr 0) (cst (.int 1)), cst (.int 1), cst (.int 10)])) (ap1 notD (ap1 (isiD "tuple") (ap2 ixD (vr 0) (cst (.int 2)))))) (retS (cst (.bool false))) (nilS)) (seqS (ifS (ap1 notD (ap allD [lcE [3] (itE (ap2 ixD (vr 0) (cst (.int 2)))) (gN 3) (cst (.bool true)) (callE s15 [ap2 ixD (vr 0) (cst (.int 1)), vr 3])])) (retS (cst (.bool false))) (nilS)) (retS (ap allD [lcE [1, 2] (zipE [ap2 ixD (vr 0) (cst (.int 2)), sliE (ap2 ixD (vr 0) (cst (.int 2))) (soO (cst (.int 1))) (noO)]) (gT [gN 1, gN 2]) (cst (.bool true)) (ap2 ltD (vr 1) (vr 2))]))))
def s16 : List D → M D := defM 4 b16
theorem g16 (a : Al K mg) : FnG P w K mg base 4 a.f16 a.fd16 ["value"] (spD K 1 s16) := by
  have G3 := g3 (P := P) (w := w) (base := base) a
  have G2 := g2 (P := P) (w := w) (base := base) a
  have G15 := g15 (P := P) (w := w) (base := base) a
  exact fnG_def a.F16 scope16 (by decide) fun p cdv A outer s H hr hg => dss_cons (ds_if (dw_pt (dw_or (dt_not (dt_val (d_call (G3.mono (by decide)) hr hg a.h3 a.F3.kp (a.F3.bindsN fun _ _ _ _ _ _ us hl => match us, hl with | [_, _], _ => rfl) (da_cons (dv 0) (da_cons (d_int (fr := false)) (da_nil)))))) (dw_or (dt_not (dt_val (d_isiT "str" a.m_isinstance a.m_str (d_ix (dv 0) (d_int (fr := false)))))) (dw_or1 (dt_ne (room_u hr (by decide)) (d_ix (dv 0) (d_int (fr := false))) (dgS (fr := false) a.c_DISPUTE)))))) (dss_one (ds_ret (d_bl (fr := false)))) (dss_nil)) (dss_cons (ds_if (dw_pt (dw_or (dt_not (dt_val (d_call (G2.mono (by decide)) hr hg a.h2 a.F2.kp (a.F2.bindsN fun _ _ _ _ _ _ us hl => match us, hl with | [_, _, _], _ => rfl) (da_cons (d_ix (dv 0) (d_int (fr := false))) (da_cons (d_int (fr := false)) (da_cons (dgI (fr := false) a.c_MOST_CLAIMS) (da_nil))))))) (dw_or1 (dt_not (dt_val (d_isiT "tuple" a.m_isinstance a.m_tuple (d_ix (dv 0) (d_int (fr := false))))))))) (dss_one (ds_ret (d_bl (fr := false)))) (dss_nil)) (dss_cons (ds_if (dt_not (dt_val (d_all rfl rfl a.m_all (d_lc [("one", 3)] (fun z => z) rfl scope16.nd (blk_of (N := ["value", "near", "far", "one"]) (sc := defScope (top 16)) (by decide +kernel)) (di_seq (d_ix (dv 0) (d_int (fr := false)))) (gN_in (by decide)) (fun _ _ _ _ _ => dg_name 3 scope16.nd rfl (by first | exact Or.inl rfl | exact Or.inr rfl | exact Or.inr (Or.inl rfl))) (fun _ _ _ _ _ => dts_nil) (fun _ _ _ _ _ => d_call (G15.mono (by decide)) hr hg a.h15 a.F15.kp (a.F15.bindsN fun _ _ _ _ _ _ us hl => match us, hl with | [_, _], _ => rfl) (da_cons (d_ix (dv 0) (d_int (fr := false))) (da_cons (dv 3) (da_nil)))))))) (dss_one (ds_ret (d_bl (fr := false)))) (dss_nil)) (dss_one (ds_ret (d_all rfl rfl a.m_all (d_lc [("near", 1), ("far", 2)] (fun _ => rfl) rfl scope16.nd (blk_of (N := ["value", "near", "far", "one"]) (sc := defScope (top 16)) (by decide +kernel)) (di_zip rfl a.m_zip (da_cons (d_ix (dv 0) (d_int (fr := false))) (da_cons (d_sl (d_ix (dv 0) (d_int (fr := false))) (do_some (d_int (fr := false))) (do_none)) (da_nil)))) (gT_in (gi_cons (gN_in (by decide)) (gi_cons (gN_in (by decide)) (gi_nil)))) (fun _ _ _ _ _ => dg_tup (tk := true) rfl (dgs_cons (dg_name 1 scope16.nd rfl (by first | exact Or.inl rfl | exact Or.inr rfl | exact Or.inr (Or.inl rfl))) (dgs_cons (dg_name 2 scope16.nd rfl (by first | exact Or.inl rfl | exact Or.inr rfl | exact Or.inr (Or.inl rfl))) (dgs_nil)))) (fun _ _ _ _ _ => dts_nil) (fun _ _ _ _ _ => d_lt hr.units0 (dv 1) (dv 2))))))))
theorem scope17 : FnScope ["dispute", "value"] ["dispute", "value"] (defScope (top 17)) := ⟨rfl, rfl, rfl, by decide +kernel, rfl, by decide +kernel, by decide +kernel⟩
/-- is_lot_of -/
def b17 : SE := retS (callE s5 [vr 1, ap2 subD (ap2 ixD (vr 0) (cst (.int 1))) (cst (.int 1))])
def s17 : List D → M D := defM 2 b17
theorem g17 (a : Al K mg) : FnG P w K mg base 4 a.f17 a.fd17 ["dispute", "value"] (spD K 2 s17) := by
  have G5 := g5 (P := P) (w := w) (base := base) a
  exact fnG_def a.F17 scope17 (by decide) fun p cdv A outer s H hr hg => dss_one (ds_ret (d_call (G5.mono (by decide)) hr hg a.h5 a.F5.kp (a.F5.bindsN fun _ _ _ _ _ _ us hl => match us, hl with | [_, _], _ => rfl) (da_cons (dv 1) (da_cons (d_sub (d_ix (dv 0) (d_int (fr := false))) (d_int (fr := false))) (da_nil)))))
theorem scope18 : FnScope ["dispute"] ["dispute"] (defScope (top 18)) := ⟨rfl, rfl, rfl, by decide +kernel, rfl, by decide +kernel, by decide +kernel⟩
/-- want_dispute -/
def b18 : SE := ifS (ap1 notD (callE s16 [vr 0])) (neverS) (nilS)
def s18 : List D → M D := defM 1 b18
theorem g18 (a : Al K mg) : FnG P w K mg base 5 a.f18 a.fd18 ["dispute"] (spD K 1 s18) := by
  have G16 := g16 (P := P) (w := w) (base := base) a
  exact fnG_def a.F18 scope18 (by decide) fun p cdv A outer s H hr hg => dss_one (ds_if (dt_not (dt_val (d_call (G16.mono (by decide)) hr hg a.h16 a.F16.kp (a.F16.bindsN fun _ _ _ _ _ _ us hl => match us, hl with | [_], _ => rfl) (da_cons (dv 0) (da_nil))))) (dss_one (ds_never)) (dss_nil))
theorem scope19 : FnScope ["more"] ["more"] (defScope (top 19)) := ⟨rfl, rfl, rfl, by decide +kernel, rfl, by decide +kernel, by decide +kernel⟩
/-- want_more -/
def b19 : SE := ifS (ap1 notD (callE s16 [vr 0])) (neverS) (nilS)
def s19 : List D → M D := defM 1 b19
theorem g19 (a : Al K mg) : FnG P w K mg base 5 a.f19 a.fd19 ["more"] (spD K 1 s19) := by
  have G16 := g16 (P := P) (w := w) (base := base) a
  exact fnG_def a.F19 scope19 (by decide) fun p cdv A outer s H hr hg => dss_one (ds_if (dt_not (dt_val (d_call (G16.mono (by decide)) hr hg a.h16 a.F16.kp (a.F16.bindsN fun _ _ _ _ _ _ us hl => match us, hl with | [_], _ => rfl) (da_cons (dv 0) (da_nil))))) (dss_one (ds_never)) (dss_nil))
theorem scope21 : FnScope ["dispute", "lot", "claim", "struck"] ["dispute", "lot"] (defScope (top 21)) := ⟨rfl, rfl, rfl, by decide +kernel, rfl, by decide +kernel, by decide +kernel⟩
/-- struck_by -/
def b21 : SE := retS (ap1 srtSetD (lcE [2, 3] (itE (ap2 ixD (vr 0) (cst (.int 2)))) (gT [gN 2, gN 3]) (ap2 (inG false) (vr 2) (vr 1)) (vr 3)))
def s21 : List D → M D := defM 4 b21
theorem g21 (a : Al K mg) : FnG P w K mg base 1 a.f21 a.fd21 ["dispute", "lot"] (spD K 2 s21) := by
  exact fnG_def a.F21 scope21 (by decide) fun p cdv A outer s H hr hg => dss_one (ds_ret (d_srtSet rfl (room_u hr (by decide)) rfl a.m_sorted rfl a.m_set (d_lc [("claim", 2), ("struck", 3)] (fun _ => rfl) rfl scope21.nd (blk_of (N := ["dispute", "lot", "claim", "struck"]) (sc := defScope (top 21)) (by decide +kernel)) (di_seq (d_ix (dv 0) (d_int (fr := false)))) (gT_in (gi_cons (gN_in (by decide)) (gi_cons (gN_in (by decide)) (gi_nil)))) (fun _ _ _ _ _ => dg_tup (tk := true) rfl (dgs_cons (dg_name 2 scope21.nd rfl (by first | exact Or.inl rfl | exact Or.inr rfl | exact Or.inr (Or.inl rfl))) (dgs_cons (dg_name 3 scope21.nd rfl (by first | exact Or.inl rfl | exact Or.inr rfl | exact Or.inr (Or.inl rfl))) (dgs_nil)))) (fun _ _ _ _ _ => dts_one (dt_in (room_u hr (by decide)) (dv 2) (dv 1))) (fun _ _ _ _ _ => dv 3))))
theorem scope23 : FnScope ["dispute", "value", "claim", "struck"] ["dispute", "value"] (defScope (top 23)) := ⟨rfl, rfl, rfl, by decide +kernel, rfl, by decide +kernel, by decide +kernel⟩
/-- is_ahead_of -/
def b23 : SE := seqS (ifS (orE (ap1 notD (callE s17 [vr 0, vr 1])) (ap2 eqD (vr 1) (tupE []))) (retS (cst (.bool false))) (nilS)) (retS (ap1 notD (ap anyD [lcE [2, 3] (itE (ap2 ixD (vr 0) (cst (.int 2)))) (gT [gN 2, gN 3]) (cst (.bool true)) (andE (ap2 (inG false) (vr 3) (vr 1)) (ap2 (inG true) (vr 2) (vr 1)))])))
def s23 : List D → M D := defM 4 b23
theorem g23 (a : Al K mg) : FnG P w K mg base 5 a.f23 a.fd23 ["dispute", "value"] (spD K 2 s23) := by
  have G17 := g17 (P := P) (w := w) (base := base) a
  exact fnG_def a.F23 scope23 (by decide) fun p cdv A outer s H hr hg => dss_cons (ds_if (dw_pt (dw_or (dt_not (dt_val (d_call (G17.mono (by decide)) hr hg a.h17 a.F17.kp (a.F17.bindsN fun _ _ _ _ _ _ us hl => match us, hl with | [_, _], _ => rfl) (da_cons (dv 0) (da_cons (dv 1) (da_nil)))))) (dw_or1 (dt_eq (room_u hr (by decide)) (dv 1) (d_tup (da_nil)))))) (dss_one (ds_ret (d_bl (fr := false)))) (dss_nil)) (dss_one (ds_ret (d_not (d_any rfl rfl a.m_any (d_lc [("claim", 2), ("struck", 3)] (fun _ => rfl) rfl scope23.nd (blk_of (N := ["dispute", "value", "claim", "struck"]) (sc := defScope (top 23)) (by decide +kernel)) (di_seq (d_ix (dv 0) (d_int (fr := false)))) (gT_in (gi_cons (gN_in (by decide)) (gi_cons (gN_in (by decide)) (gi_nil)))) (fun _ _ _ _ _ => dg_tup (tk := true) rfl (dgs_cons (dg_name 2 scope23.nd rfl (by first | exact Or.inl rfl | exact Or.inr rfl | exact Or.inr (Or.inl rfl))) (dgs_cons (dg_name 3 scope23.nd rfl (by first | exact Or.inl rfl | exact Or.inr rfl | exact Or.inr (Or.inl rfl))) (dgs_nil)))) (fun _ _ _ _ _ => dts_nil) (fun _ _ _ _ _ => d_and (d_in (room_u hr (by decide)) (dv 3) (dv 1)) (d_one (d_nin (room_u hr (by decide)) (dv 2) (dv 1)))))))))
theorem scope24 : FnScope ["dispute", "ahead"] ["dispute", "ahead"] (defScope (top 24)) := ⟨rfl, rfl, rfl, by decide +kernel, rfl, by decide +kernel, by decide +kernel⟩
/-- want_ahead -/
def b24 : SE := seqS (exprS (callE s18 [vr 0])) (ifS (ap1 notD (callE s23 [vr 0, vr 1])) (neverS) (nilS))
def s24 : List D → M D := defM 2 b24
theorem g24 (a : Al K mg) : FnG P w K mg base 6 a.f24 a.fd24 ["dispute", "ahead"] (spD K 2 s24) := by
  have G18 := g18 (P := P) (w := w) (base := base) a
  have G23 := g23 (P := P) (w := w) (base := base) a
  exact fnG_def a.F24 scope24 (by decide) fun p cdv A outer s H hr hg => dss_cons (ds_expr (d_call (G18.mono (by decide)) hr hg a.h18 a.F18.kp (a.F18.bindsN fun _ _ _ _ _ _ us hl => match us, hl with | [_], _ => rfl) (da_cons (dv 0) (da_nil)))) (dss_one (ds_if (dt_not (dt_val (d_call (G23.mono (by decide)) hr hg a.h23 a.F23.kp (a.F23.bindsN fun _ _ _ _ _ _ us hl => match us, hl with | [_, _], _ => rfl) (da_cons (dv 0) (da_cons (dv 1) (da_nil)))))) (dss_one (ds_never)) (dss_nil)))
theorem scope26 : FnScope ["dispute", "claims", "more", "at", "strikes", "number", "claim", "struck"] ["dispute", "claims", "more"] (defScope (top 26)) := ⟨rfl, rfl, rfl, by decide +kernel, rfl, by decide +kernel, by decide +kernel⟩
/-- alone -/
def b26 : SE := seqS (setS 3 (dcE [5, 6] (enuE (vr 1)) (gT [gN 5, gN 6]) (cst (.bool true)) (vr 6) (vr 5))) (seqS (setS 4 (lcE [6, 7] (itE (ap2 ixD (vr 0) (cst (.int 2)))) (gT [gN 6, gN 7]) (andE (ap2 (inDk false) (vr 6) (vr 3)) (ap2 (inDk false) (vr 7) (vr 3))) (tupE [ap2 getD' (vr 3) (vr 6), ap2 getD' (vr 3) (vr 7)]))) (seqS (setS 4 (ap2 addD (vr 4) (lcE [6] (itE (vr 2)) (gN 6) (ap2 (inDk false) (vr 6) (vr 3)) (tupE [ap2 getD' (vr 3) (vr 6), ap2 getD' (vr 3) (vr 6)])))) (retS (tupE [cst (.str "dispute"), ap lenD [vr 1], ap tupD [ap1 srtSetD (vr 4)]]))))
def s26 : List D → M D := defM 8 b26
theorem g26 (a : Al K mg) : FnG P w K mg base 1 a.f26 a.fd26 ["dispute", "claims", "more"] (spD K 3 s26) := by
  exact fnG_def a.F26 scope26 (by decide) fun p cdv A outer s H hr hg => dss_cons (ds_set 3 scope26.nd rfl (by first | exact Or.inl rfl | exact Or.inr rfl | exact Or.inr (Or.inl rfl)) (d_dc [("number", 5), ("claim", 6)] (fun _ => rfl) rfl scope26.nd (blk_of (N := ["dispute", "claims", "more", "at", "strikes", "number", "claim", "struck"]) (sc := defScope (top 26)) (by decide +kernel)) (di_enum rfl a.m_enumerate (dv 1)) (gT_in (gi_cons (gN_in (by decide)) (gi_cons (gN_in (by decide)) (gi_nil)))) (fun _ _ _ _ _ => dg_tup (tk := true) rfl (dgs_cons (dg_name 5 scope26.nd rfl (by first | exact Or.inl rfl | exact Or.inr rfl | exact Or.inr (Or.inl rfl))) (dgs_cons (dg_name 6 scope26.nd rfl (by first | exact Or.inl rfl | exact Or.inr rfl | exact Or.inr (Or.inl rfl))) (dgs_nil)))) (fun _ _ _ _ _ => dts_nil) (fun _ _ _ _ _ => dv 6) (fun _ _ _ _ _ => dv 5))) (dss_cons (ds_setLc 4 [("claim", 6), ("struck", 7)] (fun _ => rfl) rfl scope26.nd rfl rfl rfl (blk_of (N := ["dispute", "claims", "more", "at", "strikes", "number", "claim", "struck"]) (sc := defScope (top 26)) (by decide +kernel)) (di_seq (d_ix (dv 0) (d_int (fr := false)))) (gT_in (gi_cons (gN_in (by decide)) (gi_cons (gN_in (by decide)) (gi_nil)))) (fun _ _ _ _ _ => dg_tup (tk := true) rfl (dgs_cons (dg_name 6 scope26.nd rfl (by first | exact Or.inl rfl | exact Or.inr rfl | exact Or.inr (Or.inl rfl))) (dgs_cons (dg_name 7 scope26.nd rfl (by first | exact Or.inl rfl | exact Or.inr rfl | exact Or.inr (Or.inl rfl))) (dgs_nil)))) (fun _ _ _ _ _ => dts_one (dw_pt (dw_and (dt_dkin (.inl ⟨rfl, rfl⟩) (room_u hr (by decide)) (dv 6) (dv 3)) (dw_and1 (dt_dkin (.inl ⟨rfl, rfl⟩) (room_u hr (by decide)) (dv 7) (dv 3)))))) (fun _ _ _ _ _ => d_tup (da_cons (d_dget (room_u hr (by decide)) (dv 3) (dv 6) (by first | exact fun _ _ => rfl | exact rfl)) (da_cons (d_dget (room_u hr (by decide)) (dv 3) (dv 7) (by first | exact fun _ _ => rfl | exact rfl)) (da_nil))))) (dss_cons (ds_set 4 scope26.nd rfl (by first | exact Or.inl rfl | exact Or.inr rfl | exact Or.inr (Or.inl rfl)) (d_add (dv 4) (d_lc [("claim", 6)] (fun z => z) rfl scope26.nd (blk_of (N := ["dispute", "claims", "more", "at", "strikes", "number", "claim", "struck"]) (sc := defScope (top 26)) (by decide +kernel)) (di_seq (dv 2)) (gN_in (by decide)) (fun _ _ _ _ _ => dg_name 6 scope26.nd rfl (by first | exact Or.inl rfl | exact Or.inr rfl | exact Or.inr (Or.inl rfl))) (fun _ _ _ _ _ => dts_one (dt_dkin (.inl ⟨rfl, rfl⟩) (room_u hr (by decide)) (dv 6) (dv 3))) (fun _ _ _ _ _ => d_tup (da_cons (d_dget (room_u hr (by decide)) (dv 3) (dv 6) (by first | exact fun _ _ => rfl | exact rfl)) (da_cons (d_dget (room_u hr (by decide)) (dv 3) (dv 6) (by first | exact fun _ _ => rfl | exact rfl)) (da_nil))))))) (dss_one (ds_ret (d_tup (da_cons (dgS (fr := false) a.c_DISPUTE) (da_cons (d_len rfl a.m_len (dv 1)) (da_cons (d_tupC rfl a.m_tuple (d_srtSet rfl (room_u hr (by decide)) rfl a.m_sorted rfl a.m_set (dv 4))) (da_nil)))))))))
theorem scope27 : FnScope ["dispute", "ahead", "lot", "struck", "claims", "loose", "claim"] ["dispute", "ahead", "lot"] (defScope (top 27)) := ⟨rfl, rfl, rfl, by decide +kernel, rfl, by decide +kernel, by decide +kernel⟩
/-- rest_of -/
def b27 : SE := seqS (setS 3 (callE s21 [vr 0, vr 2])) (seqS (setS 4 (ap tupD [lcE [6] (rngE (ap2 ixD (vr 0) (cst (.int 1)))) (gN 6) (andE (ap2 (inG true) (vr 6) (vr 1)) (ap2 (inG true) (vr 6) (vr 3))) (vr 6)])) (seqS (ifS (ap2 eqD (vr 4) (tupE [])) (retS (tupE [cst .none, tupE []])) (nilS)) (seqS (setS 5 (ap tupD [lcE [6] (itE (vr 1)) (gN 6) (andE (ap2 (inG true) (vr 6) (vr 2)) (ap2 (inG true) (vr 6) (vr 3))) (vr 6)])) (retS (tupE [callE s26 [vr 0, vr 4, callE s21 [vr 0, vr 5]], vr 4])))))
def s27 : List D → M D := defM 7 b27
theorem g27 (a : Al K mg) : FnG P w K mg base 2 a.f27 a.fd27 ["dispute", "ahead", "lot"] (spD K 3 s27) := by
  have G21 := g21 (P := P) (w := w) (base := base) a
  have G26 := g26 (P := P) (w := w) (base := base) a
  exact fnG_def a.F27 scope27 (by decide) fun p cdv A outer s H hr hg => dss_cons (ds_set 3 scope27.nd rfl (by first | exact Or.inl rfl | exact Or.inr rfl | exact Or.inr (Or.inl rfl)) (d_call (G21.mono (by decide)) hr hg a.h21 a.F21.kp (a.F21.bindsN fun _ _ _ _ _ _ us hl => match us, hl with | [_, _], _ => rfl) (da_cons (dv 0) (da_cons (dv 2) (da_nil))))) (dss_cons (ds_set 4 scope27.nd rfl (by first | exact Or.inl rfl | exact Or.inr rfl | exact Or.inr (Or.inl rfl)) (d_tupC rfl a.m_tuple (d_lc [("claim", 6)] (fun z => z) rfl scope27.nd (blk_of (N := ["dispute", "ahead", "lot", "struck", "claims", "loose", "claim"]) (sc := defScope (top 27)) (by decide +kernel)) (di_range1 rfl a.m_range (d_ix (dv 0) (d_int (fr := false)))) (gN_in (by decide)) (fun _ _ _ _ _ => dg_name 6 scope27.nd rfl (by first | exact Or.inl rfl | exact Or.inr rfl | exact Or.inr (Or.inl rfl))) (fun _ _ _ _ _ => dts_one (dw_pt (dw_and (dt_nin (room_u hr (by decide)) (dv 6) (dv 1)) (dw_and1 (dt_nin (room_u hr (by decide)) (dv 6) (dv 3)))))) (fun _ _ _ _ _ => dv 6)))) (dss_cons (ds_if (dt_eq (room_u hr (by decide)) (dv 4) (d_tup (da_nil))) (dss_one (ds_ret (d_tup (da_cons (d_non (fr := false)) (da_cons (d_tup (da_nil)) (da_nil)))))) (dss_nil)) (dss_cons (ds_set 5 scope27.nd rfl (by first | exact Or.inl rfl | exact Or.inr rfl | exact Or.inr (Or.inl rfl)) (d_tupC rfl a.m_tuple (d_lc [("claim", 6)] (fun z => z) rfl scope27.nd (blk_of (N := ["dispute", "ahead", "lot", "struck", "claims", "loose", "claim"]) (sc := defScope (top 27)) (by decide +kernel)) (di_seq (dv 1)) (gN_in (by decide)) (fun _ _ _ _ _ => dg_name 6 scope27.nd rfl (by first | exact Or.inl rfl | exact Or.inr rfl | exact Or.inr (Or.inl rfl))) (fun _ _ _ _ _ => dts_one (dw_pt (dw_and (dt_nin (room_u hr (by decide)) (dv 6) (dv 2)) (dw_and1 (dt_nin (room_u hr (by decide)) (dv 6) (dv 3)))))) (fun _ _ _ _ _ => dv 6)))) (dss_one (ds_ret (d_tup (da_cons (d_call (G26.mono (by decide)) hr hg a.h26 a.F26.kp (a.F26.bindsN fun _ _ _ _ _ _ us hl => match us, hl with | [_, _, _], _ => rfl) (da_cons (dv 0) (da_cons (dv 4) (da_cons (d_call (G21.mono (by decide)) hr hg a.h21 a.F21.kp (a.F21.bindsN fun _ _ _ _ _ _ us hl => match us, hl with | [_, _], _ => rfl) (da_cons (dv 0) (da_cons (dv 5) (da_nil)))) (da_nil))))) (da_cons (dv 4) (da_nil)))))))))
theorem scope28 : FnScope ["dispute", "ahead", "lot", "claim"] ["dispute", "ahead", "lot"] (defScope (top 28)) := ⟨rfl, rfl, rfl, by decide +kernel, rfl, by decide +kernel, by decide +kernel⟩
/-- want_within -/
def b28 : SE := seqS (exprS (callE s24 [vr 0, vr 1])) (ifS (orE (ap1 notD (callE s17 [vr 0, vr 2])) (ap1 notD (ap allD [lcE [3] (itE (vr 2)) (gN 3) (cst (.bool true)) (ap2 (inG false) (vr 3) (vr 1))]))) (neverS) (nilS))
def s28 : List D → M D := defM 4 b28
theorem g28 (a : Al K mg) : FnG P w K mg base 7 a.f28 a.fd28 ["dispute", "ahead", "lot"] (spD K 3 s28) := by
  have G24 := g24 (P := P) (w := w) (base := base) a
  have G17 := g17 (P := P) (w := w) (base := base) a
  exact fnG_def a.F28 scope28 (by decide) fun p cdv A outer s H hr hg => dss_cons (ds_expr (d_call (G24.mono (by decide)) hr hg a.h24 a.F24.kp (a.F24.bindsN fun _ _ _ _ _ _ us hl => match us, hl with | [_, _], _ => rfl) (da_cons (dv 0) (da_cons (dv 1) (da_nil))))) (dss_one (ds_if (dw_pt (dw_or (dt_not (dt_val (d_call (G17.mono (by decide)) hr hg a.h17 a.F17.kp (a.F17.bindsN fun _ _ _ _ _ _ us hl => match us, hl with | [_, _], _ => rfl) (da_cons (dv 0) (da_cons (dv 2) (da_nil)))))) (dw_or1 (dt_not (dt_val (d_all rfl rfl a.m_all (d_lc [("claim", 3)] (fun z => z) rfl scope28.nd (blk_of (N := ["dispute", "ahead", "lot", "claim"]) (sc := defScope (top 28)) (by decide +kernel)) (di_seq (dv 2)) (gN_in (by decide)) (fun _ _ _ _ _ => dg_name 3 scope28.nd rfl (by first | exact Or.inl rfl | exact Or.inr rfl | exact Or.inr (Or.inl rfl))) (fun _ _ _ _ _ => dts_nil) (fun _ _ _ _ _ => d_in (room_u hr (by decide)) (dv 3) (dv 1))))))))) (dss_one (ds_never)) (dss_nil)))
theorem scope29 : FnScope ["dispute", "ahead"] ["dispute", "ahead"] (defScope (top 29)) := ⟨rfl, rfl, rfl, by decide +kernel, rfl, by decide +kernel, by decide +kernel⟩
/-- front -/
def b29 : SE := seqS (exprS (callE s24 [vr 0, vr 1])) (retS (callE s26 [vr 0, vr 1, tupE []]))
def s29 : List D → M D := defM 2 b29
theorem g29 (a : Al K mg) : FnG P w K mg base 7 a.f29 a.fd29 ["dispute", "ahead"] (spD K 2 s29) := by
  have G24 := g24 (P := P) (w := w) (base := base) a
  have G26 := g26 (P := P) (w := w) (base := base) a
  exact fnG_def a.F29 scope29 (by decide) fun p cdv A outer s H hr hg => dss_cons (ds_expr (d_call (G24.mono (by decide)) hr hg a.h24 a.F24.kp (a.F24.bindsN fun _ _ _ _ _ _ us hl => match us, hl with | [_, _], _ => rfl) (da_cons (dv 0) (da_cons (dv 1) (da_nil))))) (dss_one (ds_ret (d_call (G26.mono (by decide)) hr hg a.h26 a.F26.kp (a.F26.bindsN fun _ _ _ _ _ _ us hl => match us, hl with | [_, _, _], _ => rfl) (da_cons (dv 0) (da_cons (dv 1) (da_cons (d_tup (da_nil)) (da_nil)))))))
theorem scope30 : FnScope ["dispute", "ahead", "lot"] ["dispute", "ahead", "lot"] (defScope (top 30)) := ⟨rfl, rfl, rfl, by decide +kernel, rfl, by decide +kernel, by decide +kernel⟩
/-- rest -/
def b30 : SE := seqS (exprS (callE s28 [vr 0, vr 1, vr 2])) (retS (callE s27 [vr 0, vr 1, vr 2]))
def s30 : List D → M D := defM 3 b30
theorem g30 (a : Al K mg) : FnG P w K mg base 8 a.f30 a.fd30 ["dispute", "ahead", "lot"] (spD K 3 s30) := by
  have G28 := g28 (P := P) (w := w) (base := base) a
  have G27 := g27 (P := P) (w := w) (base := base) a
  exact fnG_def a.F30 scope30 (by decide) fun p cdv A outer s H hr hg => dss_cons (ds_expr (d_call (G28.mono (by decide)) hr hg a.h28 a.F28.kp (a.F28.bindsN fun _ _ _ _ _ _ us hl => match us, hl with | [_, _, _], _ => rfl) (da_cons (dv 0) (da_cons (dv 1) (da_cons (dv 2) (da_nil)))))) (dss_one (ds_ret (d_call (G27.mono (by decide)) hr hg a.h27 a.F27.kp (a.F27.bindsN fun _ _ _ _ _ _ us hl => match us, hl with | [_, _, _], _ => rfl) (da_cons (dv 0) (da_cons (dv 1) (da_cons (dv 2) (da_nil)))))))
theorem scope31 : FnScope ["dispute", "ahead", "more", "claim", "struck"] ["dispute", "ahead", "more"] (defScope (top 31)) := ⟨rfl, rfl, rfl, by decide +kernel, rfl, by decide +kernel, by decide +kernel⟩
/-- is_behind -/
def b31 : SE := seqS (exprS (callE s24 [vr 0, vr 1])) (seqS (exprS (callE s19 [vr 2])) (retS (ap1 notD (ap anyD [lcE [3, 4] (itE (ap2 ixD (vr 2) (cst (.int 2)))) (gT [gN 3, gN 4]) (cst (.bool true)) (ap2 (inG false) (vr 4) (vr 1))]))))
def s31 : List D → M D := defM 5 b31
theorem g31 (a : Al K mg) : FnG P w K mg base 7 a.f31 a.fd31 ["dispute", "ahead", "more"] (spD K 3 s31) := by
  have G24 := g24 (P := P) (w := w) (base := base) a
  have G19 := g19 (P := P) (w := w) (base := base) a
  exact fnG_def a.F31 scope31 (by decide) fun p cdv A outer s H hr hg => dss_cons (ds_expr (d_call (G24.mono (by decide)) hr hg a.h24 a.F24.kp (a.F24.bindsN fun _ _ _ _ _ _ us hl => match us, hl with | [_, _], _ => rfl) (da_cons (dv 0) (da_cons (dv 1) (da_nil))))) (dss_cons (ds_expr (d_call (G19.mono (by decide)) hr hg a.h19 a.F19.kp (a.F19.bindsN fun _ _ _ _ _ _ us hl => match us, hl with | [_], _ => rfl) (da_cons (dv 2) (da_nil)))) (dss_one (ds_ret (d_not (d_any rfl rfl a.m_any (d_lc [("claim", 3), ("struck", 4)] (fun _ => rfl) rfl scope31.nd (blk_of (N := ["dispute", "ahead", "more", "claim", "struck"]) (sc := defScope (top 31)) (by decide +kernel)) (di_seq (d_ix (dv 2) (d_int (fr := false)))) (gT_in (gi_cons (gN_in (by decide)) (gi_cons (gN_in (by decide)) (gi_nil)))) (fun _ _ _ _ _ => dg_tup (tk := true) rfl (dgs_cons (dg_name 3 scope31.nd rfl (by first | exact Or.inl rfl | exact Or.inr rfl | exact Or.inr (Or.inl rfl))) (dgs_cons (dg_name 4 scope31.nd rfl (by first | exact Or.inl rfl | exact Or.inr rfl | exact Or.inr (Or.inl rfl))) (dgs_nil)))) (fun _ _ _ _ _ => dts_nil) (fun _ _ _ _ _ => d_in (room_u hr (by decide)) (dv 4) (dv 1))))))))
def s34 : List D → M D := drawS 40692 4861 17
theorem g34 (a : Al K mg) : FnG P w K mg base 1 a.f34 a.fd34 ["pot", "many"] (spD K 2 s34) := fnG_draw (gDraw a.F34 a.m_divmod a.m_int)
theorem scope35 : FnScope ["pot", "most", "many", "rare", "flows", "found", "claim", "struck"] ["pot", "most"] (defScope (top 35)) := ⟨rfl, rfl, rfl, by decide +kernel, rfl, by decide +kernel, by decide +kernel⟩
/-- _law_dispute -/
def b35 : SE := seqS (parS [2, 3] [(false, ap2 addD (cst (.int 1)) (callE s34 [vr 0, vr 1])), (false, ap2 addD (cst (.int 2)) (callE s34 [vr 0, cst (.int 4)]))]) (seqS (parS [4, 5] [(false, ap2 eqD (callE s34 [vr 0, cst (.int 3)]) (cst (.int 0))), (true, lstE [])]) (seqS (forS (rngE (vr 2)) (gN 6) (forS (rngE (vr 2)) (gN 7) (ifS (andE (ap2 eqD (callE s34 [vr 0, vr 3]) (cst (.int 0))) (orE (ap2 neD (vr 6) (vr 7)) (ap2 eqD (callE s34 [vr 0, cst (.int 2)]) (cst (.int 0))))) (ifS (orE (ap1 notD (vr 4)) (orE (ap2 ltD (vr 6) (vr 7)) (ap2 eqD (callE s34 [vr 0, cst (.int 4)]) (cst (.int 0))))) (bldS 5 appH (tupE [vr 6, vr 7])) (nilS)) (nilS)))) (retS (tupE [cst (.str "dispute"), vr 2, ap tupD [ap sortedD [vrC 5]]]))))
def s35 : List D → M D := defM 8 b35
theorem g35 (a : Al K mg) : FnG P w K mg base 2 a.f35 a.fd35 ["pot", "most"] (spD K 2 s35) := by
  have G34 := g34 (P := P) (w := w) (base := base) a
  exact fnG_def a.F35 scope35 (by decide) fun p cdv A outer s H hr hg => dss_cons (ds_par 2 3 rfl scope35.nd rfl rfl (by decide) rfl rfl (dp_cons false (d_add (d_int (fr := false)) (d_call (G34.mono (by decide)) hr hg a.h34 a.F34.kp (a.F34.bindsN fun _ _ _ _ _ _ us hl => match us, hl with | [_, _], _ => rfl) (da_cons (dv 0) (da_cons (dv 1) (da_nil))))) (fun z => by cases z) (dp_cons false (d_add (d_int (fr := false)) (d_call (G34.mono (by decide)) hr hg a.h34 a.F34.kp (a.F34.bindsN fun _ _ _ _ _ _ us hl => match us, hl with | [_, _], _ => rfl) (da_cons (dv 0) (da_cons (d_int (fr := false)) (da_nil))))) (fun z => by cases z) (dp_nil))) rfl rfl) (dss_cons (ds_par 4 5 rfl scope35.nd rfl rfl (by decide) rfl rfl (dp_cons false (d_eq (room_u hr (by decide)) (d_call (G34.mono (by decide)) hr hg a.h34 a.F34.kp (a.F34.bindsN fun _ _ _ _ _ _ us hl => match us, hl with | [_, _], _ => rfl) (da_cons (dv 0) (da_cons (d_int (fr := false)) (da_nil)))) (d_int (fr := false))) (fun z => by cases z) (dp_cons true (d_lst (da_nil)) (fun _ => rfl) (dp_nil))) rfl rfl) (dss_cons (ds_for (fun z => z) PassesOwn.never rfl (di_range1 rfl a.m_range (dv 2)) (dg_name 6 scope35.nd rfl (by first | exact Or.inl rfl | exact Or.inr rfl | exact Or.inr (Or.inl rfl))) (dss_one (ds_for (fun z => z) PassesOwn.never rfl (di_range1 rfl a.m_range (dv 2)) (dg_name 7 scope35.nd rfl (by first | exact Or.inl rfl | exact Or.inr rfl | exact Or.inr (Or.inl rfl))) (dss_one (ds_if (dw_pt (dw_and (dt_eq (room_u hr (by decide)) (d_call (G34.mono (by decide)) hr hg a.h34 a.F34.kp (a.F34.bindsN fun _ _ _ _ _ _ us hl => match us, hl with | [_, _], _ => rfl) (da_cons (dv 0) (da_cons (dv 3) (da_nil)))) (d_int (fr := false))) (dw_and1 (dw_pt (dw_or (dt_ne (room_u hr (by decide)) (dv 6) (dv 7)) (dw_or1 (dt_eq (room_u hr (by decide)) (d_call (G34.mono (by decide)) hr hg a.h34 a.F34.kp (a.F34.bindsN fun _ _ _ _ _ _ us hl => match us, hl with | [_, _], _ => rfl) (da_cons (dv 0) (da_cons (d_int (fr := false)) (da_nil)))) (d_int (fr := false))))))))) (dss_one (ds_if (dw_pt (dw_or (dt_not (dt_val (dv 4))) (dw_or (dt_lt hr.units0 (dv 6) (dv 7)) (dw_or1 (dt_eq (room_u hr (by decide)) (d_call (G34.mono (by decide)) hr hg a.h34 a.F34.kp (a.F34.bindsN fun _ _ _ _ _ _ us hl => match us, hl with | [_, _], _ => rfl) (da_cons (dv 0) (da_cons (d_int (fr := false)) (da_nil)))) (d_int (fr := false))))))) (dss_one (ds_append 5 rfl (by first | exact Or.inl rfl | exact Or.inr (Or.inl rfl) | exact Or.inr (Or.inr rfl)) (d_tup (da_cons (dv 6) (da_cons (dv 7) (da_nil)))))) (dss_nil))) (dss_nil)))))) (dss_one (ds_ret (d_tup (da_cons (d_str (fr := false)) (da_cons (dv 2) (da_cons (d_tupC rfl a.m_tuple (d_sorted (room_u hr (by decide)) rfl a.m_sorted (dvC 5))) (da_nil)))))))))
theorem scope36 : FnScope ["dispute", "claim", "found", "turn", "near", "one", "struck"] ["dispute", "claim"] (defScope (top 36)) := ⟨rfl, rfl, rfl, by decide +kernel, rfl, by decide +kernel, by decide +kernel⟩
/-- _law_base -/
def b36 : SE := seqS (setB 2 (lstE [vr 1])) (seqS (forS (rngE (ap2 ixD (vr 0) (cst (.int 1)))) (gN 3) (bldS 2 extL (lcE [4] (itE (ap1 srtSetD (lcE [5, 6] (itE (ap2 ixD (vr 0) (cst (.int 2)))) (gT [gN 5, gN 6]) (ap2 (inG false) (vr 6) (vrC 2)) (vr 5)))) (gN 4) (ap2 (inG true) (vr 4) (vrC 2)) (vr 4)))) (retS (ap tupD [ap sortedD [vrC 2]])))
def s36 : List D → M D := defM 7 b36
theorem g36 (a : Al K mg) : FnG P w K mg base 1 a.f36 a.fd36 ["dispute", "claim"] (spD K 2 s36) := by
  exact fnG_def a.F36 scope36 (by decide) fun p cdv A outer s H hr hg => dss_cons (ds_setB 2 scope36.nd rfl (by first | exact Or.inl rfl | exact Or.inr rfl | exact Or.inr (Or.inl rfl)) (d_lst (da_cons (dv 1) (da_nil)))) (dss_cons (ds_for (fun z => z) PassesOwn.never rfl (di_range1 rfl a.m_range (d_ix (dv 0) (d_int (fr := false)))) (dg_name 3 scope36.nd rfl (by first | exact Or.inl rfl | exact Or.inr rfl | exact Or.inr (Or.inl rfl))) (dss_one (ds_extend 2 rfl (by first | exact Or.inl rfl | exact Or.inr (Or.inl rfl) | exact Or.inr (Or.inr rfl)) (d_lc [("near", 4)] (fun z => z) rfl scope36.nd (blk_of (N := ["dispute", "claim", "found", "turn", "near", "one", "struck"]) (sc := defScope (top 36)) (by decide +kernel)) (di_seq (d_srtSet rfl (room_u hr (by decide)) rfl a.m_sorted rfl a.m_set (d_lc [("one", 5), ("struck", 6)] (fun _ => rfl) rfl scope36.nd (blk_of (N := ["dispute", "claim", "found", "turn", "near", "one", "struck"]) (sc := defScope (top 36)) (by decide +kernel)) (di_seq (d_ix (dv 0) (d_int (fr := false)))) (gT_in (gi_cons (gN_in (by decide)) (gi_cons (gN_in (by decide)) (gi_nil)))) (fun _ _ _ _ _ => dg_tup (tk := true) rfl (dgs_cons (dg_name 5 scope36.nd rfl (by first | exact Or.inl rfl | exact Or.inr rfl | exact Or.inr (Or.inl rfl))) (dgs_cons (dg_name 6 scope36.nd rfl (by first | exact Or.inl rfl | exact Or.inr rfl | exact Or.inr (Or.inl rfl))) (dgs_nil)))) (fun _ _ _ _ _ => dts_one (dt_in (room_u hr (by decide)) (dv 6) (dvC 2))) (fun _ _ _ _ _ => dv 5)))) (gN_in (by decide)) (fun _ _ _ _ _ => dg_name 4 scope36.nd rfl (by first | exact Or.inl rfl | exact Or.inr rfl | exact Or.inr (Or.inl rfl))) (fun _ _ _ _ _ => dts_one (dt_nin (room_u hr (by decide)) (dv 4) (dvC 2))) (fun _ _ _ _ _ => dv 4))))) (dss_one (ds_ret (d_tupC rfl a.m_tuple (d_sorted (room_u hr (by decide)) rfl a.m_sorted (dvC 2))))))
theorem scope37 : FnScope ["dispute", "claims", "loose", "strikes", "claim", "struck"] ["dispute", "claims", "loose"] (defScope (top 37)) := ⟨rfl, rfl, rfl, by decide +kernel, rfl, by decide +kernel, by decide +kernel⟩
/-- _law_alone -/
def b37 : SE := seqS (setS 3 (lcE [4, 5] (itE (ap2 ixD (vr 0) (cst (.int 2)))) (gT [gN 4, gN 5]) (andE (ap2 (inG false) (vr 4) (vr 1)) (ap2 (inG false) (vr 5) (vr 1))) (tupE [ap2 idxD (vr 1) (vr 4), ap2 idxD (vr 1) (vr 5)]))) (retS (tupE [cst (.str "dispute"), ap lenD [vr 1], ap tupD [ap1 srtSetD (ap2 addD (vr 3) (lcE [4] (itE (vr 2)) (gN 4) (ap2 (inG false) (vr 4) (vr 1)) (tupE [ap2 idxD (vr 1) (vr 4), ap2 idxD (vr 1) (vr 4)])))]]))
def s37 : List D → M D := defM 6 b37
theorem g37 (a : Al K mg) : FnG P w K mg base 1 a.f37 a.fd37 ["dispute", "claims", "loose"] (spD K 3 s37) := by
  exact fnG_def a.F37 scope37 (by decide) fun p cdv A outer s H hr hg => dss_cons (ds_setLc 3 [("claim", 4), ("struck", 5)] (fun _ => rfl) rfl scope37.nd rfl rfl rfl (blk_of (N := ["dispute", "claims", "loose", "strikes", "claim", "struck"]) (sc := defScope (top 37)) (by decide +kernel)) (di_seq (d_ix (dv 0) (d_int (fr := false)))) (gT_in (gi_cons (gN_in (by decide)) (gi_cons (gN_in (by decide)) (gi_nil)))) (fun _ _ _ _ _ => dg_tup (tk := true) rfl (dgs_cons (dg_name 4 scope37.nd rfl (by first | exact Or.inl rfl | exact Or.inr rfl | exact Or.inr (Or.inl rfl))) (dgs_cons (dg_name 5 scope37.nd rfl (by first | exact Or.inl rfl | exact Or.inr rfl | exact Or.inr (Or.inl rfl))) (dgs_nil)))) (fun _ _ _ _ _ => dts_one (dw_pt (dw_and (dt_in (room_u hr (by decide)) (dv 4) (dv 1)) (dw_and1 (dt_in (room_u hr (by decide)) (dv 5) (dv 1)))))) (fun _ _ _ _ _ => d_tup (da_cons (d_idx (dv 1) (dv 4)) (da_cons (d_idx (dv 1) (dv 5)) (da_nil))))) (dss_one (ds_ret (d_tup (da_cons (d_str (fr := false)) (da_cons (d_len rfl a.m_len (dv 1)) (da_cons (d_tupC rfl a.m_tuple (d_srtSet rfl (room_u hr (by decide)) rfl a.m_sorted rfl a.m_set (d_add (dv 3) (d_lc [("claim", 4)] (fun z => z) rfl scope37.nd (blk_of (N := ["dispute", "claims", "loose", "strikes", "claim", "struck"]) (sc := defScope (top 37)) (by decide +kernel)) (di_seq (dv 2)) (gN_in (by decide)) (fun _ _ _ _ _ => dg_name 4 scope37.nd rfl (by first | exact Or.inl rfl | exact Or.inr rfl | exact Or.inr (Or.inl rfl))) (fun _ _ _ _ _ => dts_one (dt_in (room_u hr (by decide)) (dv 4) (dv 1))) (fun _ _ _ _ _ => d_tup (da_cons (d_idx (dv 1) (dv 4)) (da_cons (d_idx (dv 1) (dv 4)) (da_nil)))))))) (da_nil)))))))
theorem scope38 : FnScope ["dispute", "ahead", "lot", "struck", "claims", "open_ones", "loose", "claim", "late"] ["dispute", "ahead", "lot"] (defScope (top 38)) := ⟨rfl, rfl, rfl, by decide +kernel, rfl, by decide +kernel, by decide +kernel⟩
/-- _law_rest -/
def b38 : SE := seqS (setS 3 (lcE [7, 8] (itE (ap2 ixD (vr 0) (cst (.int 2)))) (gT [gN 7, gN 8]) (ap2 (inG false) (vr 7) (vr 2)) (vr 8))) (seqS (setS 4 (ap tupD [lcE [7] (rngE (ap2 ixD (vr 0) (cst (.int 1)))) (gN 7) (andE (ap2 (inG true) (vr 7) (vr 1)) (ap2 (inG true) (vr 7) (vr 3))) (vr 7)])) (seqS (setS 5 (lcE [7] (itE (vr 1)) (gN 7) (andE (ap2 (inG true) (vr 7) (vr 2)) (ap2 (inG true) (vr 7) (vr 3))) (vr 7))) (seqS (setS 6 (lcE [7, 8] (itE (ap2 ixD (vr 0) (cst (.int 2)))) (gT [gN 7, gN 8]) (ap2 (inG false) (vr 7) (vr 5)) (vr 8))) (retS (iteE (ap2 eqD (vr 4) (tupE [])) (tupE [cst .none, tupE []]) (tupE [callE s37 [vr 0, vr 4, vr 6], vr 4]))))))
def s38 : List D → M D := defM 9 b38
theorem g38 (a : Al K mg) : FnG P w K mg base 2 a.f38 a.fd38 ["dispute", "ahead", "lot"] (spD K 3 s38) := by
  have G37 := g37 (P := P) (w := w) (base := base) a
  exact fnG_def a.F38 scope38 (by decide) fun p cdv A outer s H hr hg => dss_cons (ds_set 3 scope38.nd rfl (by first | exact Or.inl rfl | exact Or.inr rfl | exact Or.inr (Or.inl rfl)) (d_lc [("claim", 7), ("late", 8)] (fun _ => rfl) rfl scope38.nd (blk_of (N := ["dispute", "ahead", "lot", "struck", "claims", "open_ones", "loose", "claim", "late"]) (sc := defScope (top 38)) (by decide +kernel)) (di_seq (d_ix (dv 0) (d_int (fr := false)))) (gT_in (gi_cons (gN_in (by decide)) (gi_cons (gN_in (by decide)) (gi_nil)))) (fun _ _ _ _ _ => dg_tup (tk := true) rfl (dgs_cons (dg_name 7 scope38.nd rfl (by first | exact Or.inl rfl | exact Or.inr rfl | exact Or.inr (Or.inl rfl))) (dgs_cons (dg_name 8 scope38.nd rfl (by first | exact Or.inl rfl | exact Or.inr rfl | exact Or.inr (Or.inl rfl))) (dgs_nil)))) (fun _ _ _ _ _ => dts_one (dt_in (room_u hr (by decide)) (dv 7) (dv 2))) (fun _ _ _ _ _ => dv 8))) (dss_cons (ds_set 4 scope38.nd rfl (by first | exact Or.inl rfl | exact Or.inr rfl | exact Or.inr (Or.inl rfl)) (d_tupC rfl a.m_tuple (d_lc [("claim", 7)] (fun z => z) rfl scope38.nd (blk_of (N := ["dispute", "ahead", "lot", "struck", "claims", "open_ones", "loose", "claim", "late"]) (sc := defScope (top 38)) (by decide +kernel)) (di_range1 rfl a.m_range (d_ix (dv 0) (d_int (fr := false)))) (gN_in (by decide)) (fun _ _ _ _ _ => dg_name 7 scope38.nd rfl (by first | exact Or.inl rfl | exact Or.inr rfl | exact Or.inr (Or.inl rfl))) (fun _ _ _ _ _ => dts_one (dw_pt (dw_and (dt_nin (room_u hr (by decide)) (dv 7) (dv 1)) (dw_and1 (dt_nin (room_u hr (by decide)) (dv 7) (dv 3)))))) (fun _ _ _ _ _ => dv 7)))) (dss_cons (ds_set 5 scope38.nd rfl (by first | exact Or.inl rfl | exact Or.inr rfl | exact Or.inr (Or.inl rfl)) (d_lc [("claim", 7)] (fun z => z) rfl scope38.nd (blk_of (N := ["dispute", "ahead", "lot", "struck", "claims", "open_ones", "loose", "claim", "late"]) (sc := defScope (top 38)) (by decide +kernel)) (di_seq (dv 1)) (gN_in (by decide)) (fun _ _ _ _ _ => dg_name 7 scope38.nd rfl (by first | exact Or.inl rfl | exact Or.inr rfl | exact Or.inr (Or.inl rfl))) (fun _ _ _ _ _ => dts_one (dw_pt (dw_and (dt_nin (room_u hr (by decide)) (dv 7) (dv 2)) (dw_and1 (dt_nin (room_u hr (by decide)) (dv 7) (dv 3)))))) (fun _ _ _ _ _ => dv 7))) (dss_cons (ds_setLc 6 [("claim", 7), ("late", 8)] (fun _ => rfl) rfl scope38.nd rfl rfl rfl (blk_of (N := ["dispute", "ahead", "lot", "struck", "claims", "open_ones", "loose", "claim", "late"]) (sc := defScope (top 38)) (by decide +kernel)) (di_seq (d_ix (dv 0) (d_int (fr := false)))) (gT_in (gi_cons (gN_in (by decide)) (gi_cons (gN_in (by decide)) (gi_nil)))) (fun _ _ _ _ _ => dg_tup (tk := true) rfl (dgs_cons (dg_name 7 scope38.nd rfl (by first | exact Or.inl rfl | exact Or.inr rfl | exact Or.inr (Or.inl rfl))) (dgs_cons (dg_name 8 scope38.nd rfl (by first | exact Or.inl rfl | exact Or.inr rfl | exact Or.inr (Or.inl rfl))) (dgs_nil)))) (fun _ _ _ _ _ => dts_one (dt_in (room_u hr (by decide)) (dv 7) (dv 5))) (fun _ _ _ _ _ => dv 8)) (dss_one (ds_ret (d_ifx (dt_eq (room_u hr (by decide)) (dv 4) (d_tup (da_nil))) (d_tup (da_cons (d_non (fr := false)) (da_cons (d_tup (da_nil)) (da_nil)))) (d_tup (da_cons (d_call (G37.mono (by decide)) hr hg a.h37 a.F37.kp (a.F37.bindsN fun _ _ _ _ _ _ us hl => match us, hl with | [_, _, _], _ => rfl) (da_cons (dv 0) (da_cons (dv 4) (da_cons (dv 6) (da_nil))))) (da_cons (dv 4) (da_nil))))))))))
theorem scope39 : FnScope ["pot", "dispute", "shown", "turn", "every", "ahead", "lot", "due", "late", "more", "told", "step", "claim", "struck", "strike"] ["pot"] (defScope (top 39)) := ⟨rfl, rfl, rfl, by decide +kernel, rfl, by decide +kernel, by decide +kernel⟩
/-- _law_right -/
def b39 : SE := seqS (setS 1 (callE s35 [vr 0, cst (.int 8)])) (seqS (setS 2 (ap reprD [vr 1])) (seqS (forS (rngE (cst (.int 6))) (gN 3) (seqS (setS 5 (lcE [11] (rngE (ap2 addD (cst (.int 1)) (callE s34 [vr 0, cst (.int 3)]))) (gN 11) (cst (.bool true)) (callE s36 [vr 1, callE s34 [vr 0, ap2 ixD (vr 1) (cst (.int 1))]]))) (seqS (setS 5 (ap tupD [ap1 srtSetD (ap sumLD [lcE [6] (itE (vr 5)) (gN 6) (cst (.bool true)) (ap listD [vr 6]), lstE []])])) (seqS (setS 6 (ap tupD [lcE [12] (itE (vr 5)) (gN 12) (ap2 eqD (callE s34 [vr 0, cst (.int 2)]) (cst (.int 0))) (vr 12)])) (seqS (parS [7, 8] [(false, callE s37 [vr 1, vr 5, lstE []]), (false, callE s38 [vr 1, vr 5, vr 6])]) (seqS (ifS (ap2 neD (ap reprD [lstE [callE s29 [vr 1, vr 5], callE (fun ds => s29 (permL [1, 0] ds)) [vr 5, vr 1]]]) (ap reprD [lstE [vr 7, vr 7]])) (retS (cst (.bool false))) (nilS)) (seqS (ifS (ap2 neD (ap reprD [lstE [callE s30 [vr 1, vr 5, vr 6], callE (fun ds => s30 (permL [2, 1, 0] ds)) [vr 6, vr 5, vr 1]]]) (ap reprD [lstE [vr 8, vr 8]])) (retS (cst (.bool false))) (nilS)) (seqS (setS 9 (callE s35 [vr 0, cst (.int 10)])) (seqS (ifS (ap2 eqD (callE s34 [vr 0, cst (.int 2)]) (cst (.int 0))) (setS 9 (ap2 addD (sliE (vr 9) (noO) (soO (cst (.int 2)))) (tupE [ap tupD [lcE [14] (itE (ap2 ixD (vr 9) (cst (.int 2)))) (gN 14) (ap2 (inG true) (ap2 ixD (vr 14) (cst (.int 1))) (vr 5)) (vr 14)]]))) (nilS)) (seqS (setS 10 (ap1 notD (ap anyD [lcE [12, 13] (itE (ap2 ixD (vr 9) (cst (.int 2)))) (gT [gN 12, gN 13]) (cst (.bool true)) (ap2 (inG false) (vr 13) (vr 5))]))) (ifS (ap2 neD (ap reprD [lstE [callE s31 [vr 1, vr 5, vr 9], callE (fun ds => s31 (permL [2, 1, 0] ds)) [vr 9, vr 5, vr 1]]]) (ap reprD [lstE [vr 10, vr 10]])) (retS (cst (.bool false))) (nilS)))))))))))) (seqS (setS 4 (rgT (ap2 ixD (vr 1) (cst (.int 1))))) (retS (andE (ap2 eqD (ap reprD [lstE [callE s29 [vr 1, vr 4], callE s30 [vr 1, vr 4, tupE []], callE s30 [vr 1, vr 4, vr 4]]]) (ap reprD [lstE [vr 1, tupE [cst .none, tupE []], tupE [cst .none, tupE []]]])) (ap2 eqD (ap reprD [vr 1]) (vr 2)))))))
def s39 : List D → M D := defM 15 b39
theorem g39 (a : Al K mg) : FnG P w K mg base 9 a.f39 a.fd39 ["pot"] (spD K 1 s39) := by
  have G35 := g35 (P := P) (w := w) (base := base) a
  have G34 := g34 (P := P) (w := w) (base := base) a
  have G36 := g36 (P := P) (w := w) (base := base) a
  have G37 := g37 (P := P) (w := w) (base := base) a
  have G38 := g38 (P := P) (w := w) (base := base) a
  have G29 := g29 (P := P) (w := w) (base := base) a
  have G30 := g30 (P := P) (w := w) (base := base) a
  have G31 := g31 (P := P) (w := w) (base := base) a
  exact fnG_def a.F39 scope39 (by decide) fun p cdv A outer s H hr hg => dss_cons (ds_set 1 scope39.nd rfl (by first | exact Or.inl rfl | exact Or.inr rfl | exact Or.inr (Or.inl rfl)) (d_call (G35.mono (by decide)) hr hg a.h35 a.F35.kp (a.F35.bindsN fun _ _ _ _ _ _ us hl => match us, hl with | [_, _], _ => rfl) (da_cons (dv 0) (da_cons (d_int (fr := false)) (da_nil))))) (dss_cons (ds_set 2 scope39.nd rfl (by first | exact Or.inl rfl | exact Or.inr rfl | exact Or.inr (Or.inl rfl)) (d_repr hg (room_u hr (by decide)) rfl a.m_repr (dv 1))) (dss_cons (ds_for (fun z => z) PassesOwn.never rfl (di_range1 rfl a.m_range (d_int (fr := false))) (dg_name 3 scope39.nd rfl (by first | exact Or.inl rfl | exact Or.inr rfl | exact Or.inr (Or.inl rfl))) (dss_cons (ds_set 5 scope39.nd rfl (by first | exact Or.inl rfl | exact Or.inr rfl | exact Or.inr (Or.inl rfl)) (d_lc [("step", 11)] (fun z => z) rfl scope39.nd (blk_of (N := ["pot", "dispute", "shown", "turn", "every", "ahead", "lot", "due", "late", "more", "told", "step", "claim", "struck", "strike"]) (sc := defScope (top 39)) (by decide +kernel)) (di_range1 rfl a.m_range (d_add (d_int (fr := false)) (d_call (G34.mono (by decide)) hr hg a.h34 a.F34.kp (a.F34.bindsN fun _ _ _ _ _ _ us hl => match us, hl with | [_, _], _ => rfl) (da_cons (dv 0) (da_cons (d_int (fr := false)) (da_nil)))))) (gN_in (by decide)) (fun _ _ _ _ _ => dg_name 11 scope39.nd rfl (by first | exact Or.inl rfl | exact Or.inr rfl | exact Or.inr (Or.inl rfl))) (fun _ _ _ _ _ => dts_nil) (fun _ _ _ _ _ => d_call (G36.mono (by decide)) hr hg a.h36 a.F36.kp (a.F36.bindsN fun _ _ _ _ _ _ us hl => match us, hl with | [_, _], _ => rfl) (da_cons (dv 1) (da_cons (d_call (G34.mono (by decide)) hr hg a.h34 a.F34.kp (a.F34.bindsN fun _ _ _ _ _ _ us hl => match us, hl with | [_, _], _ => rfl) (da_cons (dv 0) (da_cons (d_ix (dv 1) (d_int (fr := false))) (da_nil)))) (da_nil)))))) (dss_cons (ds_set 5 scope39.nd rfl (by first | exact Or.inl rfl | exact Or.inr rfl | exact Or.inr (Or.inl rfl)) (d_tupC rfl a.m_tuple (d_srtSet rfl (room_u hr (by decide)) rfl a.m_sorted rfl a.m_set (d_sumL rfl rfl a.m_sum (d_lc [("lot", 6)] (fun z => z) rfl scope39.nd (blk_of (N := ["pot", "dispute", "shown", "turn", "every", "ahead", "lot", "due", "late", "more", "told", "step", "claim", "struck", "strike"]) (sc := defScope (top 39)) (by decide +kernel)) (di_seq (dv 5)) (gN_in (by decide)) (fun _ _ _ _ _ => dg_name 6 scope39.nd rfl (by first | exact Or.inl rfl | exact Or.inr rfl | exact Or.inr (Or.inl rfl))) (fun _ _ _ _ _ => dts_nil) (fun _ _ _ _ _ => d_list rfl a.m_list (dv 6))) (d_lst (da_nil)))))) (dss_cons (ds_set 6 scope39.nd rfl (by first | exact Or.inl rfl | exact Or.inr rfl | exact Or.inr (Or.inl rfl)) (d_tupC rfl a.m_tuple (d_lc [("claim", 12)] (fun z => z) rfl scope39.nd (blk_of (N := ["pot", "dispute", "shown", "turn", "every", "ahead", "lot", "due", "late", "more", "told", "step", "claim", "struck", "strike"]) (sc := defScope (top 39)) (by decide +kernel)) (di_seq (dv 5)) (gN_in (by decide)) (fun _ _ _ _ _ => dg_name 12 scope39.nd rfl (by first | exact Or.inl rfl | exact Or.inr rfl | exact Or.inr (Or.inl rfl))) (fun _ _ _ _ _ => dts_one (dt_eq (room_u hr (by decide)) (d_call (G34.mono (by decide)) hr hg a.h34 a.F34.kp (a.F34.bindsN fun _ _ _ _ _ _ us hl => match us, hl with | [_, _], _ => rfl) (da_cons (dv 0) (da_cons (d_int (fr := false)) (da_nil)))) (d_int (fr := false)))) (fun _ _ _ _ _ => dv 12)))) (dss_cons (ds_par 7 8 rfl scope39.nd rfl rfl (by decide) rfl rfl (dp_cons false (d_call (G37.mono (by decide)) hr hg a.h37 a.F37.kp (a.F37.bindsN fun _ _ _ _ _ _ us hl => match us, hl with | [_, _, _], _ => rfl) (da_cons (dv 1) (da_cons (dv 5) (da_cons (d_lst (da_nil)) (da_nil))))) (fun z => by cases z) (dp_cons false (d_call (G38.mono (by decide)) hr hg a.h38 a.F38.kp (a.F38.bindsN fun _ _ _ _ _ _ us hl => match us, hl with | [_, _, _], _ => rfl) (da_cons (dv 1) (da_cons (dv 5) (da_cons (dv 6) (da_nil))))) (fun z => by cases z) (dp_nil))) rfl rfl) (dss_cons (ds_if (dt_ne (room_u hr (by decide)) (d_repr hg (room_u hr (by decide)) rfl a.m_repr (d_lst (da_cons (d_call (G29.mono (by decide)) hr hg a.h29 a.F29.kp (a.F29.bindsN fun _ _ _ _ _ _ us hl => match us, hl with | [_, _], _ => rfl) (da_cons (dv 1) (da_cons (dv 5) (da_nil)))) (da_cons (d_callK [1, 0] (G29.mono (by decide)) hr hg a.h29 a.F29.kp (kw_of (ps := ["dispute", "ahead"]) (ks := ["ahead", "dispute"]) a.F29 [1, 0] (by decide) rfl (fun _ _ _ _ _ _ us hl => match us, hl with | [_, _], _ => rfl)) (dk_cons (dv 5) (dk_cons (dv 1) (dk_nil)))) (da_nil))))) (d_repr hg (room_u hr (by decide)) rfl a.m_repr (d_lst (da_cons (dv 7) (da_cons (dv 7) (da_nil)))))) (dss_one (ds_ret (d_bl (fr := false)))) (dss_nil)) (dss_cons (ds_if (dt_ne (room_u hr (by decide)) (d_repr hg (room_u hr (by decide)) rfl a.m_repr (d_lst (da_cons (d_call (G30.mono (by decide)) hr hg a.h30 a.F30.kp (a.F30.bindsN fun _ _ _ _ _ _ us hl => match us, hl with | [_, _, _], _ => rfl) (da_cons (dv 1) (da_cons (dv 5) (da_cons (dv 6) (da_nil))))) (da_cons (d_callK [2, 1, 0] (G30.mono (by decide)) hr hg a.h30 a.F30.kp (kw_of (ps := ["dispute", "ahead", "lot"]) (ks := ["lot", "ahead", "dispute"]) a.F30 [2, 1, 0] (by decide) rfl (fun _ _ _ _ _ _ us hl => match us, hl with | [_, _, _], _ => rfl)) (dk_cons (dv 6) (dk_cons (dv 5) (dk_cons (dv 1) (dk_nil))))) (da_nil))))) (d_repr hg (room_u hr (by decide)) rfl a.m_repr (d_lst (da_cons (dv 8) (da_cons (dv 8) (da_nil)))))) (dss_one (ds_ret (d_bl (fr := false)))) (dss_nil)) (dss_cons (ds_set 9 scope39.nd rfl (by first | exact Or.inl rfl | exact Or.inr rfl | exact Or.inr (Or.inl rfl)) (d_call (G35.mono (by decide)) hr hg a.h35 a.F35.kp (a.F35.bindsN fun _ _ _ _ _ _ us hl => match us, hl with | [_, _], _ => rfl) (da_cons (dv 0) (da_cons (d_int (fr := false)) (da_nil))))) (dss_cons (ds_if (dt_eq (room_u hr (by decide)) (d_call (G34.mono (by decide)) hr hg a.h34 a.F34.kp (a.F34.bindsN fun _ _ _ _ _ _ us hl => match us, hl with | [_, _], _ => rfl) (da_cons (dv 0) (da_cons (d_int (fr := false)) (da_nil)))) (d_int (fr := false))) (dss_one (ds_set 9 scope39.nd rfl (by first | exact Or.inl rfl | exact Or.inr rfl | exact Or.inr (Or.inl rfl)) (d_add (d_sl (dv 9) (do_none) (do_some (d_int (fr := false)))) (d_tup (da_cons (d_tupC rfl a.m_tuple (d_lc [("strike", 14)] (fun z => z) rfl scope39.nd (blk_of (N := ["pot", "dispute", "shown", "turn", "every", "ahead", "lot", "due", "late", "more", "told", "step", "claim", "struck", "strike"]) (sc := defScope (top 39)) (by decide +kernel)) (di_seq (d_ix (dv 9) (d_int (fr := false)))) (gN_in (by decide)) (fun _ _ _ _ _ => dg_name 14 scope39.nd rfl (by first | exact Or.inl rfl | exact Or.inr rfl | exact Or.inr (Or.inl rfl))) (fun _ _ _ _ _ => dts_one (dt_nin (room_u hr (by decide)) (d_ix (dv 14) (d_int (fr := false))) (dv 5))) (fun _ _ _ _ _ => dv 14))) (da_nil)))))) (dss_nil)) (dss_cons (ds_set 10 scope39.nd rfl (by first | exact Or.inl rfl | exact Or.inr rfl | exact Or.inr (Or.inl rfl)) (d_not (d_any rfl rfl a.m_any (d_lc [("claim", 12), ("struck", 13)] (fun _ => rfl) rfl scope39.nd (blk_of (N := ["pot", "dispute", "shown", "turn", "every", "ahead", "lot", "due", "late", "more", "told", "step", "claim", "struck", "strike"]) (sc := defScope (top 39)) (by decide +kernel)) (di_seq (d_ix (dv 9) (d_int (fr := false)))) (gT_in (gi_cons (gN_in (by decide)) (gi_cons (gN_in (by decide)) (gi_nil)))) (fun _ _ _ _ _ => dg_tup (tk := true) rfl (dgs_cons (dg_name 12 scope39.nd rfl (by first | exact Or.inl rfl | exact Or.inr rfl | exact Or.inr (Or.inl rfl))) (dgs_cons (dg_name 13 scope39.nd rfl (by first | exact Or.inl rfl | exact Or.inr rfl | exact Or.inr (Or.inl rfl))) (dgs_nil)))) (fun _ _ _ _ _ => dts_nil) (fun _ _ _ _ _ => d_in (room_u hr (by decide)) (dv 13) (dv 5)))))) (dss_one (ds_if (dt_ne (room_u hr (by decide)) (d_repr hg (room_u hr (by decide)) rfl a.m_repr (d_lst (da_cons (d_call (G31.mono (by decide)) hr hg a.h31 a.F31.kp (a.F31.bindsN fun _ _ _ _ _ _ us hl => match us, hl with | [_, _, _], _ => rfl) (da_cons (dv 1) (da_cons (dv 5) (da_cons (dv 9) (da_nil))))) (da_cons (d_callK [2, 1, 0] (G31.mono (by decide)) hr hg a.h31 a.F31.kp (kw_of (ps := ["dispute", "ahead", "more"]) (ks := ["more", "ahead", "dispute"]) a.F31 [2, 1, 0] (by decide) rfl (fun _ _ _ _ _ _ us hl => match us, hl with | [_, _, _], _ => rfl)) (dk_cons (dv 9) (dk_cons (dv 5) (dk_cons (dv 1) (dk_nil))))) (da_nil))))) (d_repr hg (room_u hr (by decide)) rfl a.m_repr (d_lst (da_cons (dv 10) (da_cons (dv 10) (da_nil)))))) (dss_one (ds_ret (d_bl (fr := false)))) (dss_nil))))))))))))) (dss_cons (ds_set 4 scope39.nd rfl (by first | exact Or.inl rfl | exact Or.inr rfl | exact Or.inr (Or.inl rfl)) (d_tupRg rfl rfl a.m_tuple rfl a.m_range (d_ix (dv 1) (d_int (fr := false))))) (dss_one (ds_ret (d_and (d_eq (room_u hr (by decide)) (d_repr hg (room_u hr (by decide)) rfl a.m_repr (d_lst (da_cons (d_call (G29.mono (by decide)) hr hg a.h29 a.F29.kp (a.F29.bindsN fun _ _ _ _ _ _ us hl => match us, hl with | [_, _], _ => rfl) (da_cons (dv 1) (da_cons (dv 4) (da_nil)))) (da_cons (d_call (G30.mono (by decide)) hr hg a.h30 a.F30.kp (a.F30.bindsN fun _ _ _ _ _ _ us hl => match us, hl with | [_, _, _], _ => rfl) (da_cons (dv 1) (da_cons (dv 4) (da_cons (d_tup (da_nil)) (da_nil))))) (da_cons (d_call (G30.mono (by decide)) hr hg a.h30 a.F30.kp (a.F30.bindsN fun _ _ _ _ _ _ us hl => match us, hl with | [_, _, _], _ => rfl) (da_cons (dv 1) (da_cons (dv 4) (da_cons (dv 4) (da_nil))))) (da_nil)))))) (d_repr hg (room_u hr (by decide)) rfl a.m_repr (d_lst (da_cons (dv 1) (da_cons (d_tup (da_cons (d_non (fr := false)) (da_cons (d_tup (da_nil)) (da_nil)))) (da_cons (d_tup (da_cons (d_non (fr := false)) (da_cons (d_tup (da_nil)) (da_nil)))) (da_nil))))))) (d_one (d_eq (room_u hr (by decide)) (d_repr hg (room_u hr (by decide)) rfl a.m_repr (dv 1)) (dv 2)))))))))
theorem have_al {h : Heap} {f : Addr} (X : K.In h) (G : h.Ns mainGlobals mg) (hfa : mg ("law" : Str) = some (.ref f)) (c : He.SaysD fa fn K) : ∃ a : Al K mg, a.f40 = f := by
  obtain ⟨e1, F1⟩ := c.def_ 0 (d := d1) rfl
  obtain ⟨e2, F2⟩ := c.def_ 1 (d := d2) rfl
  obtain ⟨e3, F3⟩ := c.def_ 2 (d := d3) rfl
  obtain ⟨e4, F4⟩ := c.def_ 3 (d := d4) rfl
  obtain ⟨e5, F5⟩ := c.def_ 4 (d := d5) rfl
  obtain ⟨e15, F15⟩ := c.def_ 5 (d := d15) rfl
  obtain ⟨e16, F16⟩ := c.def_ 6 (d := d16) rfl
  obtain ⟨e17, F17⟩ := c.def_ 7 (d := d17) rfl
  obtain ⟨e18, F18⟩ := c.def_ 8 (d := d18) rfl
  obtain ⟨e19, F19⟩ := c.def_ 9 (d := d19) rfl
  obtain ⟨e21, F21⟩ := c.def_ 10 (d := d21) rfl
  obtain ⟨e23, F23⟩ := c.def_ 11 (d := d23) rfl
  obtain ⟨e24, F24⟩ := c.def_ 12 (d := d24) rfl
  obtain ⟨e26, F26⟩ := c.def_ 13 (d := d26) rfl
  obtain ⟨e27, F27⟩ := c.def_ 14 (d := d27) rfl
  obtain ⟨e28, F28⟩ := c.def_ 15 (d := d28) rfl
  obtain ⟨e29, F29⟩ := c.def_ 16 (d := d29) rfl
  obtain ⟨e30, F30⟩ := c.def_ 17 (d := d30) rfl
  obtain ⟨e31, F31⟩ := c.def_ 18 (d := d31) rfl
  obtain ⟨e33, F33⟩ := c.def_ 19 (d := d33) rfl
  obtain ⟨e34, F34⟩ := c.def_ 20 (d := d34) rfl
  obtain ⟨e35, F35⟩ := c.def_ 21 (d := d35) rfl
  obtain ⟨e36, F36⟩ := c.def_ 22 (d := d36) rfl
  obtain ⟨e37, F37⟩ := c.def_ 23 (d := d37) rfl
  obtain ⟨e38, F38⟩ := c.def_ 24 (d := d38) rfl
  obtain ⟨e39, F39⟩ := c.def_ 25 (d := d39) rfl
  obtain ⟨e40, F40⟩ := c.def_ 26 (d := d40) rfl
  have h1 := He.glo_ok X G (c.fact 0 (f := .glo "is_integer") rfl)
  have h2 := He.glo_ok X G (c.fact 1 (f := .glo "is_within") rfl)
  have h3 := He.glo_ok X G (c.fact 2 (f := .glo "is_tuple") rfl)
  have h4 := He.glo_ok X G (c.fact 3 (f := .glo "are_rising") rfl)
  have h5 := He.glo_ok X G (c.fact 4 (f := .glo "is_lot") rfl)
  have h15 := He.glo_ok X G (c.fact 5 (f := .glo "is_strike_among") rfl)
  have h16 := He.glo_ok X G (c.fact 6 (f := .glo "is_dispute_any") rfl)
  have h17 := He.glo_ok X G (c.fact 7 (f := .glo "is_lot_of") rfl)
  have h18 := He.glo_ok X G (c.fact 8 (f := .glo "want_dispute") rfl)
  have h19 := He.glo_ok X G (c.fact 9 (f := .glo "want_more") rfl)
  have h21 := He.glo_ok X G (c.fact 10 (f := .glo "struck_by") rfl)
  have h23 := He.glo_ok X G (c.fact 11 (f := .glo "is_ahead_of") rfl)
  have h24 := He.glo_ok X G (c.fact 12 (f := .glo "want_ahead") rfl)
  have h26 := He.glo_ok X G (c.fact 13 (f := .glo "alone") rfl)
  have h27 := He.glo_ok X G (c.fact 14 (f := .glo "rest_of") rfl)
  have h28 := He.glo_ok X G (c.fact 15 (f := .glo "want_within") rfl)
  have h29 := He.glo_ok X G (c.fact 16 (f := .glo "front") rfl)
  have h30 := He.glo_ok X G (c.fact 17 (f := .glo "rest") rfl)
  have h31 := He.glo_ok X G (c.fact 18 (f := .glo "is_behind") rfl)
  have h33 := He.glo_ok X G (c.fact 19 (f := .glo "_law_pot") rfl)
  have h34 := He.glo_ok X G (c.fact 20 (f := .glo "_law_draw") rfl)
  have h35 := He.glo_ok X G (c.fact 21 (f := .glo "_law_dispute") rfl)
  have h36 := He.glo_ok X G (c.fact 22 (f := .glo "_law_base") rfl)
  have h37 := He.glo_ok X G (c.fact 23 (f := .glo "_law_alone") rfl)
  have h38 := He.glo_ok X G (c.fact 24 (f := .glo "_law_rest") rfl)
  have h39 := He.glo_ok X G (c.fact 25 (f := .glo "_law_right") rfl)
  have h40 := He.glo_ok X G (c.fact 26 (f := .glo "law") rfl)
  have m_len := He.free_ok X G (c.fact 27 (f := .free "len") rfl)
  have m_isinstance := He.free_ok X G (c.fact 28 (f := .free "isinstance") rfl)
  have m_all := He.free_ok X G (c.fact 29 (f := .free "all") rfl)
  have m_any := He.free_ok X G (c.fact 30 (f := .free "any") rfl)
  have m_sorted := He.free_ok X G (c.fact 31 (f := .free "sorted") rfl)
  have m_set := He.free_ok X G (c.fact 32 (f := .free "set") rfl)
  have m_list := He.free_ok X G (c.fact 33 (f := .free "list") rfl)
  have m_tuple := He.free_ok X G (c.fact 34 (f := .free "tuple") rfl)
  have m_range := He.free_ok X G (c.fact 35 (f := .free "range") rfl)
  have m_sum := He.free_ok X G (c.fact 36 (f := .free "sum") rfl)
  have m_repr := He.free_ok X G (c.fact 37 (f := .free "repr") rfl)
  have m_abs := He.free_ok X G (c.fact 38 (f := .free "abs") rfl)
  have m_max := He.free_ok X G (c.fact 39 (f := .free "max") rfl)
  have m_min := He.free_ok X G (c.fact 40 (f := .free "min") rfl)
  have m_int := He.free_ok X G (c.fact 41 (f := .free "int") rfl)
  have m_divmod := He.free_ok X G (c.fact 42 (f := .free "divmod") rfl)
  have m_zip := He.free_ok X G (c.fact 43 (f := .free "zip") rfl)
  have m_enumerate := He.free_ok X G (c.fact 44 (f := .free "enumerate") rfl)
  have m_bool := He.free_ok X G (c.fact 45 (f := .free "bool") rfl)
  have m_str := He.free_ok X G (c.fact 46 (f := .free "str") rfl)
  have c_DISPUTE := He.str_ok X G (c.fact 47 (f := .str "DISPUTE" "dispute") rfl)
  have c_MOST_CLAIMS := He.int_ok X G (c.fact 48 (f := .int "MOST_CLAIMS" 10) rfl)
  have e := hfa.symm.trans h40
  cases e
  exact ⟨{ f1 := _, fd1 := e1, F1 := F1, h1 := h1, f2 := _, fd2 := e2, F2 := F2, h2 := h2, f3 := _, fd3 := e3, F3 := F3, h3 := h3, f4 := _, fd4 := e4, F4 := F4, h4 := h4, f5 := _, fd5 := e5, F5 := F5, h5 := h5, f15 := _, fd15 := e15, F15 := F15, h15 := h15, f16 := _, fd16 := e16, F16 := F16, h16 := h16, f17 := _, fd17 := e17, F17 := F17, h17 := h17, f18 := _, fd18 := e18, F18 := F18, h18 := h18, f19 := _, fd19 := e19, F19 := F19, h19 := h19, f21 := _, fd21 := e21, F21 := F21, h21 := h21, f23 := _, fd23 := e23, F23 := F23, h23 := h23, f24 := _, fd24 := e24, F24 := F24, h24 := h24, f26 := _, fd26 := e26, F26 := F26, h26 := h26, f27 := _, fd27 := e27, F27 := F27, h27 := h27, f28 := _, fd28 := e28, F28 := F28, h28 := h28, f29 := _, fd29 := e29, F29 := F29, h29 := h29, f30 := _, fd30 := e30, F30 := F30, h30 := h30, f31 := _, fd31 := e31, F31 := F31, h31 := h31, f33 := _, fd33 := e33, F33 := F33, h33 := h33, f34 := _, fd34 := e34, F34 := F34, h34 := h34, f35 := _, fd35 := e35, F35 := F35, h35 := h35, f36 := _, fd36 := e36, F36 := F36, h36 := h36, f37 := _, fd37 := e37, F37 := F37, h37 := h37, f38 := _, fd38 := e38, F38 := F38, h38 := h38, f39 := _, fd39 := e39, F39 := F39, h39 := h39, f40 := _, fd40 := e40, F40 := F40, h40 := h40, m_len := m_len, m_isinstance := m_isinstance, m_all := m_all, m_any := m_any, m_sorted := m_sorted, m_set := m_set, m_list := m_list, m_tuple := m_tuple, m_range := m_range, m_sum := m_sum, m_repr := m_repr, m_abs := m_abs, m_max := m_max, m_min := m_min, m_int := m_int, m_divmod := m_divmod, m_zip := m_zip, m_enumerate := m_enumerate, m_bool := m_bool, m_str := m_str, c_DISPUTE := c_DISPUTE, c_MOST_CLAIMS := c_MOST_CLAIMS }, rfl⟩
end Hd
namespace Hd
open PySem PySem.Spec PyProof.Rows L2 Sd
variable {P : Program} {w : World} {K : PySem.W.Frag} {mg : Str → Option Value} {base : Heap} {f : Addr} {fd : FuncData}
def PotOk (q : Pot) : Prop := 0 ≤ q.1 ∧ 0 ≤ q.2 ∧ q.2 < 4294967296
def spPot (K : PySem.W.Frag) (vs : List V) (H : Hp) (Q : VK) : Prop := ∃ (a : Addr) (ns : List Int) (k : Int), vs = [.ref a, .int k] ∧ SqL K H a (ns.map V.int) ∧ 0 ≤ k ∧ k ≤ 10 ∧ ∀ p q, PotOk q → H p = none → Q (.ref p) (upd H p (potV q))
theorem scPot : FnScope ["script", "k", "cell"] ["script", "k"] (defScope (top 33)) := ⟨rfl, rfl, rfl, by decide +kernel, rfl, by decide +kernel, by decide +kernel⟩
theorem gPot (F : FunD K "_law_pot" "_law_pot" (defArgs (top 33)) (defBody (top 33)) (defScope (top 33)) [] [] f fd) (m1 : mg "len" = none) (m2 : mg "int" = none) (m3 : mg "abs" = none) (m4 : mg "max" = none) : FnG P w K mg base 1 f fd ["script", "k"] (spPot K) := by
  refine fnG_of F scPot fun cdv A outer s H vs Q hr hg len h => ⟨_, pss_cons (ps_set (i := 2) scPot.nd rfl (.inl rfl) (pe_ifExp (pt_cmp (pc_lt (pv 1) (pe_callB call_len_seq rfl m1 (by decide +kernel) (pa_cons (pv 0) pa_nil))))
      (pe_callB call_abs rfl m3 (by decide +kernel) (pa_cons (pe_ix ix_list (pv 0) (pv 1) (by exact fun _ _ => rfl)) pa_nil)) (pe_op op_add (pe_op op_mul pe_int (pv 1)) pe_int)))
    (pss_one (ps_ret (pe_lst (pa_cons (pe_callB (call_max2 rfl) rfl m4 (by decide +kernel) (pa_cons pe_int (pa_cons (pe_op op_sub (pv 2) (pe_op op_pow pe_int pe_int)) pa_nil)))
      (pa_cons (pe_op op_add (pe_op op_mod (pe_callTy call_int1 rfl m2 (by decide +kernel) (pa_cons (pe_op op_add (pe_op op_add (pe_op op_mul (pe_op op_mod (pe_callTy call_int1 rfl m2 (by decide +kernel) (pa_cons (pv 2) pa_nil)) pe_int) pe_int) (pe_op op_mul pe_int (pv 1))) pe_int) pa_nil)) pe_int) pe_int) pa_nil))))), ?_⟩
  obtain ⟨a, ns, k, rfl, hs, k0, k1, kk⟩ := h
  have fin : ∀ c : Int, PotOk (if c - 10 ^ 18 > 0 then c - 10 ^ 18 else 0, (c % 2147483549 * 40014 + 1231 * k + 4289) % 2147483563 + 1) := fun c => by
    refine ⟨?_, ?_, ?_⟩
    · show (0 : Int) ≤ if _ > (0 : Int) then _ else 0
      split
      · omega
      · omega
    · show (0 : Int) ≤ _ % 2147483563 + 1
      omega
    · show (_ : Int) % 2147483563 + 1 < 4294967296
      omega
  have lens : (ns.map V.int).length = ns.length := List.length_map ..
  refine ⟨.int k, rfl, .ref a, rfl, a, _, rfl, .inl hs, k, _, rfl, rfl, _, rfl, ?_⟩
  refine ite_read (fun c => ?_) (fun c => ?_)
  · have c : k < ((ns.map V.int).length : Int) := by simpa using c
    obtain ⟨j, hj⟩ : ∃ j : Nat, k = (j : Int) := ⟨k.toNat, by omega⟩
    have lt : j < ns.length := by rw [lens] at c; omega
    have at_ : atI (ns.map V.int) k = some (.int ns[j]) := by
      unfold atI
      have ix : ixN (ns.map V.int).length k = some j := by
        unfold ixN
        rw [if_pos k0, if_pos c, hj]; rfl
      rw [ix]
      show (ns.map V.int)[j]? = _
      rw [List.getElem?_map, List.getElem?_eq_getElem lt]; rfl
    refine ⟨.ref a, rfl, .int k, rfl, a, _, k, _, rfl, rfl, hs, at_, ns[j], rfl, ?_⟩
    refine ⟨_, rfl, 10, 18, rfl, rfl, ⟨by decide, by decide, by decide⟩, _, _, rfl, rfl, _, _, rfl, _, rfl, .inl ⟨_, rfl, _, _, rfl, rfl, (show (0 : Int) < 2147483549 by decide), _, _, rfl, rfl, .inr (by decide), .int k, rfl, _, _, rfl, rfl, .inl (by decide), _, _, rfl, rfl, _, _, rfl, rfl, .inl ⟨_, rfl, _, _, rfl, rfl, (show (0 : Int) < 2147483563 by decide), _, _, rfl, rfl, ?_, fun p np => kk p (_, _) (fin _) np⟩⟩⟩
    have := sz6; show 2 ≤ sizeLine; omega
  · refine ⟨.int k, rfl, _, _, rfl, rfl, .inl (by decide), _, _, rfl, rfl, ?_⟩
    refine ⟨_, rfl, 10, 18, rfl, rfl, ⟨by decide, by decide, by decide⟩, _, _, rfl, rfl, _, _, rfl, _, rfl, .inl ⟨_, rfl, _, _, rfl, rfl, (show (0 : Int) < 2147483549 by decide), _, _, rfl, rfl, .inr (by decide), .int k, rfl, _, _, rfl, rfl, .inl (by decide), _, _, rfl, rfl, _, _, rfl, rfl, .inl ⟨_, rfl, _, _, rfl, rfl, (show (0 : Int) < 2147483563 by decide), _, _, rfl, rfl, ?_, fun p np => kk p (_, _) (fin _) np⟩⟩⟩
    have := sz6; show 2 ≤ sizeLine; omega
end Hd
namespace Hd
open PySem PySem.Spec PyProof.Rows L2 Sd
variable {P : Program} {w : World} {K : PySem.W.Frag} {mg : Str → Option Value} {base : Heap} {f fP fR : Addr} {fd fdP fdR : FuncData}
def spLaw (K : PySem.W.Frag) (vs : List V) (H : Hp) (Q : VK) : Prop := ∃ (a : Addr) (ns : List Int), vs = [.ref a] ∧ Only H ∧ SqL K H a (ns.map V.int) ∧ ∀ H', Q (.bl true) H'
theorem sqL_stp {p a : Addr} {H H' : Hp} {xs : List V} (s : Stp p H H') (ne : a ≠ p) (h : SqL K H a xs) : SqL K H' a xs := by
  rcases h with (h | ⟨o, h⟩) | h
  · exact .inl (.inl (s _ _ h ne))
  · exact .inl (.inr ⟨o, s _ _ h ne⟩)
  · exact .inr h
theorem scLaw : FnScope ["script", "k"] ["script"] (defScope (top 40)) := ⟨rfl, rfl, rfl, by decide +kernel, rfl, by decide +kernel, by decide +kernel⟩
theorem gLaw {n : Nat} {sem : List D → M D} (F : FunD K "law" "law" (defArgs (top 40)) (defBody (top 40)) (defScope (top 40)) [] [] f fd) (FP : FunD K "_law_pot" "_law_pot" (defArgs (top 33)) (defBody (top 33)) (defScope (top 33)) [] [] fP fdP) (FR : FunD K "_law_right" "_law_right" (defArgs (top 39)) (defBody (top 39)) (defScope (top 39)) [] [] fR fdR)
    (GP : FnG P w K mg base 1 fP fdP ["script", "k"] (spPot K)) (GR : FnG P w K mg base (n + 1) fR fdR ["pot"] (spD K 1 sem)) (hgP : mg "_law_pot" = some (.ref fP)) (hgR : mg "_law_right" = some (.ref fR))
    (m1 : mg "all" = none) (m2 : mg "range" = none) (m3 : mg "max" = none) (m4 : mg "min" = none) (m5 : mg "len" = none) (good : ∀ q, PotOk q → ∃ q', sem [potD] q = some (.bool true, q')) : FnG P w K mg base (n + 2) f fd ["script"] (spLaw K) := by
  have bP : Binds K fdP ["script", "k"] [] := FP.bindsN fun _ _ _ _ _ _ us hl => match us, hl with | [_, _], _ => rfl
  have bR : Binds K fdR ["pot"] [] := FR.bindsN fun _ _ _ _ _ _ us hl => match us, hl with | [_], _ => rfl
  refine fnG_of F scLaw fun cdv A outer s H vs Q hr hg len h => ⟨_, pss_one (ps_ret (pe_callB (cr_all rfl) rfl m1 (by decide +kernel) (pa_cons (pe_lc (own := [("k", 1)]) rfl scLaw.nd
    (pi_range1 rfl m2 (pa_cons (pe_callB (call_max2 rfl) rfl m3 (by decide +kernel) (pa_cons pe_int (pa_cons (pe_callB (call_min2 rfl) rfl m4 (by decide +kernel) (pa_cons pe_int (pa_cons (pe_callB call_len_seq rfl m5 (by decide +kernel) (pa_cons (pv 0) pa_nil)) pa_nil))) pa_nil))) pa_nil))
    (blk_of (N := ["script", "k"]) (sc := defScope (top 40)) (by decide +kernel)) (fun _ _ _ _ _ => pg_name (i := 1) scLaw.nd rfl (.inl rfl)) (fun _ _ _ _ _ => pts_nil)
    (fun _ _ _ _ _ => pe_callG GR hr hg rfl hgR FR.kp bR (pa_cons (pe_callG (GP.mono (by omega)) hr hg rfl hgP FP.kp bP (pa_cons (pv 0) (pa_cons (pv 1) pa_nil))) pa_nil))) pa_nil))), ?_⟩
  obtain ⟨a, ns, rfl, only, hs, k⟩ := h
  have jle : ∀ x : Int, 0 ≤ x → (if (if x < 2 then x else 2) > (1 : Int) then (if x < 2 then x else 2) else 1) ≤ 2 ∧ 1 ≤ (if (if x < 2 then x else 2) > (1 : Int) then (if x < 2 then x else 2) else 1) := fun x hx => by
    split
    · split <;> omega
    · omega
  obtain ⟨j2, j1⟩ := jle ((ns.map V.int).length : Int) (by omega)
  refine ⟨.ref a, rfl, a, _, rfl, .inl hs, 2, _, rfl, 1, _, rfl, _, rfl, by omega, by omega, fun L nL => ?_⟩
  generalize (if (if ((ns.map V.int).length : Int) < 2 then ((ns.map V.int).length : Int) else 2) > (1 : Int) then (if ((ns.map V.int).length : Int) < 2 then ((ns.map V.int).length : Int) else 2) else 1) = j at j1 j2 ⊢
  have keepS : ∀ H', (∀ b o, H b = some o → H' b = some o) → SqL K H' a (ns.map V.int) := fun H' s => by
    rcases hs with (h | ⟨o, h⟩) | h
    · exact .inl (.inl (s _ _ h))
    · exact .inl (.inr ⟨o, s _ _ h⟩)
    · exact .inr h
  refine lc_it (g := gName 1) (tt := tYes) (te := fun σ H Q => tCons (fun σ H Q => tCons (tVar 0) (tCons (tVar 1) tNil) σ H fun vs H1 => vs.length = 2 ∧ spPot K vs H1 Q) tNil σ H fun vs H1 => vs.length = 1 ∧ spD K 1 sem vs H1 Q) (vs := [1]) (σ := start ["script", "k"] [V.ref a]) (H1 := H) (D := L) (Qd := fun Hn => rAll K [V.ref L] Hn Q) walk_range (fun i H' => H' L = some (.lst (List.replicate i (V.bl true))) ∧ ∀ b o, H b = some o → H' b = some o) ⟨upd_same, fun b o e => ?_⟩ (fun _ _ _ _ => trivial) ?_ ?_
  · rw [upd_ne (fun z => by rw [z, nL] at e; cases e)]; exact e
  · rintro i x H1 H2 hi ⟨hL, keep⟩ ⟨rfl, rfl⟩
    refine ⟨rfl, ?_⟩
    unfold tYes
    dsimp only
    rw [if_pos rfl]
    refine ⟨.ref a, rfl, .int (0 + (i : Int)), rfl, rfl, a, ns, 0 + (i : Int), rfl, keepS _ keep, by omega, by omega, fun p q ok np => ?_⟩
    obtain ⟨q', eq⟩ := good q ok
    have pL : p ≠ L := fun z => by rw [z, hL] at np; cases np
    refine ⟨rfl, rfl, p, [potD], [p], q, .bool true, q', ⟨.ref p, [], rfl, .inl ⟨rfl, rfl⟩, rfl⟩, by simp, fun b hb => ?_, upd_same, eq, fun v H5 l5 st hq rv => ?_⟩
    · simp only [List.mem_singleton] at hb
      subst hb
      exact ⟨_, upd_same, rfl⟩
    · obtain rfl : v = V.bl true := rv
      have hL5 : H5 L = some (.lst (List.replicate i (V.bl true))) := st _ _ (by rw [upd_ne (Ne.symm pL)]; exact hL) (Ne.symm pL)
      refine ⟨_, hL5, by have := sz6; rw [List.length_replicate]; omega, ?_, fun b o e => ?_⟩
      · rw [upd_same, List.replicate_succ']
      · have e2 := keep b o e
        have bL : b ≠ L := fun z => by rw [z, nL] at e; cases e
        have bp : b ≠ p := fun z => by rw [z, np] at e2; cases e2
        rw [upd_ne bL]
        exact st _ _ (by rw [upd_ne bp]; exact e2) bp
  · rintro Hn ⟨hL, keep⟩
    refine ⟨L, List.replicate j.toNat true, rfl, .inl (.inl (by rw [hL, List.map_replicate])), ?_⟩
    have e : (List.replicate j.toNat true).all id = true := by
      rw [List.all_eq_true]
      intro x hx
      rw [List.eq_of_mem_replicate hx]; rfl
    rw [e]
    exact k Hn
end Hd
/-! the plain law's kit: data that are small, lists of ints, pairs -/
namespace Sd
open PySem PySem.Spec PyProof.Rows
/-! ### small data can be shown, compared, sorted -/
mutual
def sm : D → Bool
  | .none => true
  | .bool _ => true
  | .int i => decide (i.natAbs < 200)
  | .str x => (PyData.canLay0 (.str x) && PyData.strOk (PyData.shown (.str x))) && decide ((PyData.shown (.str x)).length ≤ 30)
  | .list ds => smL ds
  | .tuple ds => smL ds
  | .dict _ => false
def smL : List D → Bool
  | [] => true
  | d :: r => sm d && smL r
end
mutual
def wt : D → Nat
  | .none => 5
  | .bool _ => 5
  | .int _ => 5
  | .str _ => 30
  | .list ds => wtL ds + 4
  | .tuple ds => wtL ds + 4
  | .dict _ => 0
def wtL : List D → Nat
  | [] => 0
  | d :: r => wt d + 2 + wtL r
end
theorem int_tab : ((List.range 200).all fun n => decide ((PyData.shown (.int (n : Nat))).length ≤ 5) && decide ((PyData.shown (.int (-(n : Nat)))).length ≤ 5)) = true := by decide +kernel
theorem int_shown {i : Int} (h : i.natAbs < 200) : (PyData.shown (.int i)).length ≤ 5 := by
  have z := List.all_eq_true.mp int_tab i.natAbs (List.mem_range.mpr h)
  simp only [Bool.and_eq_true, decide_eq_true_eq] at z
  rcases Int.natAbs_eq i with e | e
  · rw [e]; exact z.1
  · rw [e]; exact z.2
theorem piled_le : ∀ {ds : List D}, (∀ d ∈ ds, (PyData.shown d).length ≤ wt d) → piled (PyData.shownAll ds) ≤ wtL ds
  | [], _ => by simp [PyData.shownAll, piled, wtL]
  | d :: ds, h => by
    have h1 := h d List.mem_cons_self
    have h2 := piled_le (ds := ds) fun e he => h e (List.mem_cons_of_mem _ he)
    simp only [PyData.shownAll, piled_cons, wtL]
    omega
theorem textFrom_le : ∀ (ts : List Str) (k : Nat) (acc : Str), (textFrom k acc ts).length ≤ acc.length + piled ts
  | [], _, _ => by simp [textFrom, piled]
  | t :: r, k, acc => by
    have h := textFrom_le r (k + 1) (acc ++ (if k > 0 then ", " else "" : String) ++ t)
    have e : (acc ++ (if k > 0 then ", " else "" : String) ++ t : Str).length ≤ acc.length + 2 + t.length := by
      rw [strLen_append, strLen_append]
      have z : ((if k > 0 then ", " else "" : String) : Str).length ≤ 2 := by
        split
        · decide +kernel
        · decide +kernel
      omega
    show (textFrom (k + 1) _ r).length ≤ _
    rw [piled_cons]
    omega
theorem join_le (ts : List Str) : (Str.join ", " ts).length ≤ piled ts := by
  cases ts with
  | nil => show (Str.join ", " []).length ≤ 0; decide +kernel
  | cons t r =>
    have h := join_length_add (t :: r) (by simp)
    omega
mutual
theorem shown_le : ∀ {d : D}, sm d = true → (PyData.shown d).length ≤ wt d
  | .none, _ => by show (PyData.shown .none).length ≤ 5; decide +kernel
  | .bool true, _ => by show (PyData.shown (.bool true)).length ≤ 5; decide +kernel
  | .bool false, _ => by show (PyData.shown (.bool false)).length ≤ 5; decide +kernel
  | .int i, h => int_shown (by simpa [sm] using h)
  | .str x, h => by simp only [sm, Bool.and_eq_true, decide_eq_true_eq] at h; exact h.2
  | .list ds, h => by
    have h2 := shownL_le (ds := ds) (by simpa [sm] using h)
    show (listText (PyData.shownAll ds)).length ≤ wtL ds + 4
    have h3 := piled_le h2
    have h4 := textFrom_le (PyData.shownAll ds) 0 "["
    have e1 : ("[" : Str).length = 1 := by decide +kernel
    have e2 : ("]" : Str).length = 1 := by decide +kernel
    unfold listText
    rw [strLen_append]
    omega
  | .tuple ds, h => by
    have h2 := shownL_le (ds := ds) (by simpa [sm] using h)
    show (tupleText (PyData.shownAll ds)).length ≤ wtL ds + 4
    have h3 := piled_le h2
    have h4 := join_le (PyData.shownAll ds)
    have e1 : ("(" : Str).length = 1 := by decide +kernel
    have e2 : ((if (PyData.shownAll ds).length == 1 then ",)" else ")" : String) : Str).length ≤ 2 := by
      split
      · decide +kernel
      · decide +kernel
    unfold tupleText
    rw [strLen_append, strLen_append]
    omega
  | .dict _, h => by simp [sm] at h
theorem shownL_le : ∀ {ds : List D}, smL ds = true → ∀ d ∈ ds, (PyData.shown d).length ≤ wt d
  | [], _, d, hd => by cases hd
  | e :: ds, h, d, hd => by
    simp only [smL, Bool.and_eq_true] at h
    rcases List.mem_cons.mp hd with z | z
    · rw [z]; exact shown_le h.1
    · exact shownL_le h.2 d z
end
mutual
theorem sm_show : ∀ {d : D}, sm d = true → d.showable = true
  | .none, _ => by simp [PyData.showable]
  | .bool _, _ => by simp [PyData.showable]
  | .str _, _ => by simp [PyData.showable]
  | .int i, h => by
    simp only [sm, decide_eq_true_eq] at h
    simp only [PyData.showable, decide_eq_true_eq]
    have z : i.natAbs.log2 ≤ i.natAbs := by
      by_cases c : i.natAbs = 0
      · rw [c]; decide
      · exact Nat.le_of_lt (Nat.log2_lt (by omega) |>.mpr (Nat.lt_two_pow_self))
    omega
  | .list ds, h => by simp only [PyData.showable]; exact smL_show (by simpa [sm] using h)
  | .tuple ds, h => by simp only [PyData.showable]; exact smL_show (by simpa [sm] using h)
  | .dict _, h => by simp [sm] at h
theorem smL_show : ∀ {ds : List D}, smL ds = true → PyData.showableAll ds = true
  | [], _ => by simp [PyData.showableAll]
  | d :: ds, h => by
    simp only [smL, Bool.and_eq_true] at h
    simp only [PyData.showableAll, sm_show h.1, smL_show h.2, Bool.and_self]
end
mutual
theorem sm_nod : ∀ {d : D}, sm d = true → nod d = true
  | .none, _ => by simp [nod]
  | .bool _, _ => by simp [nod]
  | .str _, _ => by simp [nod]
  | .int i, h => by simp [nod]
  | .list ds, h => by simp only [nod]; exact smL_nod (by simpa [sm] using h)
  | .tuple ds, h => by simp only [nod]; exact smL_nod (by simpa [sm] using h)
  | .dict _, h => by simp [sm] at h
theorem smL_nod : ∀ {ds : List D}, smL ds = true → nodL ds = true
  | [], _ => by simp [nodL]
  | d :: ds, h => by
    simp only [smL, Bool.and_eq_true] at h
    simp only [nodL, sm_nod h.1, smL_nod h.2, Bool.and_self]
end
mutual
theorem sm_lay : ∀ {d : D}, sm d = true → d.canLay0 = true
  | .none, _ => by simp [PyData.canLay0]
  | .bool _, _ => by simp [PyData.canLay0]
  | .str _, h => by simp only [sm, Bool.and_eq_true] at h; exact h.1.1
  | .int i, h => by simp [PyData.canLay0]
  | .list ds, h => by simp only [PyData.canLay0]; exact smL_lay (by simpa [sm] using h)
  | .tuple ds, h => by simp only [PyData.canLay0]; exact smL_lay (by simpa [sm] using h)
  | .dict _, h => by simp [sm] at h
theorem smL_lay : ∀ {ds : List D}, smL ds = true → PyData.canLayAll0 ds = true
  | [], _ => by simp [PyData.canLayAll0]
  | d :: ds, h => by
    simp only [smL, Bool.and_eq_true] at h
    simp only [PyData.canLayAll0, sm_lay h.1, smL_lay h.2, Bool.and_self]
end
end Sd
namespace Sd
open PySem PySem.Spec PyProof.Rows
theorem strOk_iff {x : Str} : PyData.strOk x = true ↔ ∀ k ∈ x.cps.toList, k < 0x110000 := by
  unfold PyData.strOk
  rw [← Array.all_toList, List.all_eq_true]
  simp
theorem strOk_app {a b : Str} (h1 : PyData.strOk a = true) (h2 : PyData.strOk b = true) : PyData.strOk (a ++ b) = true := by
  rw [strOk_iff] at *
  intro k hk
  exact (mem_cps_append.mp hk).elim (h1 k) (h2 k)
theorem strOk_join {sep : Str} {ts : List Str} (hs : PyData.strOk sep = true) (h : ∀ t ∈ ts, PyData.strOk t = true) : PyData.strOk (Str.join sep ts) = true := by
  rw [strOk_iff]
  intro k hk
  rcases (mem_join sep k ts).mp hk with ⟨t, h1, h2⟩ | ⟨_, h2⟩
  · exact strOk_iff.mp (h t h1) k h2
  · exact strOk_iff.mp hs k h2
mutual
theorem sm_ok : ∀ {d : D}, sm d = true → PyData.strOk d.shown = true
  | .none, _ => by decide +kernel
  | .bool true, _ => by decide +kernel
  | .bool false, _ => by decide +kernel
  | .int i, h => by
    rw [strOk_iff]
    intro k hk
    by_cases c : k < 0x110000
    · exact c
    · exact absurd hk (shown_int_free' (by omega) i)
  | .str x, h => by simp only [sm, Bool.and_eq_true] at h; exact h.1.2
  | .list ds, h => by
    rw [PyData.shown_list]
    exact strOk_app (strOk_app (by decide +kernel) (strOk_join (by decide +kernel) (smL_ok (by simpa [sm] using h)))) (by decide +kernel)
  | .tuple ds, h => by
    rw [PyData.shown_tuple]
    refine strOk_app (strOk_app (by decide +kernel) (strOk_join (by decide +kernel) (smL_ok (by simpa [sm] using h)))) ?_
    split <;> decide +kernel
  | .dict _, h => by simp [sm] at h
theorem smL_ok : ∀ {ds : List D}, smL ds = true → ∀ t ∈ PyData.shownAll ds, PyData.strOk t = true
  | [], _, t, ht => by rw [PyData.shownAll_nil] at ht; exact absurd ht (by simp)
  | d :: ds, h, t, ht => by
    simp only [smL, Bool.and_eq_true] at h
    rw [PyData.shownAll_cons, List.mem_cons] at ht
    rcases ht with e | ht
    · rw [e]; exact sm_ok h.1
    · exact smL_ok h.2 t ht
end
/-- small enough to be shown -/
def SD (d : D) : Prop := sm d = true ∧ d.depth ≤ 10 ∧ wt d ≤ 100000
theorem okR_of {d : D} (h : SD d) (hl : okR.isLT d = true) : okR d = true := by
  unfold okR
  have h1 := shown_le h.1
  have h2 := h.2.1
  have h3 := h.2.2
  simp only [Bool.and_eq_true, decide_eq_true_eq]
  exact ⟨⟨hl, sm_nod h.1⟩, sm_show h.1, by omega, by omega⟩
theorem repr_ev {d : D} (h : SD d) (hl : okR.isLT d = true) : reprD [d] = some (.str d.shown) := if_pos (okR_of h hl)
theorem shaped_shown {d : D} (h : SD d) : SeqAt.shaped (.str d.shown) = true := by
  have e := sm_ok h.1
  simp [SeqAt.shaped, PyData.canLay0, PyData.depth, e]
theorem eq_str {x : Str} (h : SeqAt.shaped (.str x) = true) : eqD (.str x) (.str x) = some (.bool true) := by
  unfold eqD
  rw [if_pos (by simp [h, nod])]
  simp [PyData.eqv]
end Sd
/-! the plain law's kit: comprehensions, memberships, sorted sets -/
namespace Sd
open PySem PySem.Spec PyProof.Rows
theorem depthAll_le {k : Nat} : ∀ {ds : List D}, (∀ d ∈ ds, d.depth ≤ k) → PyData.depthAll ds ≤ k
  | [], _ => by simp [PyData.depthAll]
  | d :: ds, h => by
    simp only [PyData.depthAll]
    exact Nat.max_le.mpr ⟨h d List.mem_cons_self, depthAll_le fun e he => h e (List.mem_cons_of_mem _ he)⟩
theorem smL_mem : ∀ {ds : List D}, smL ds = true ↔ ∀ d ∈ ds, sm d = true
  | [] => by simp [smL]
  | d :: ds => by
    simp only [smL, Bool.and_eq_true, smL_mem (ds := ds), List.mem_cons]
    exact ⟨fun h e he => he.elim (fun z => z ▸ h.1) (h.2 e), fun h => ⟨h d (.inl rfl), fun e he => h e (.inr he)⟩⟩
theorem wtL_le {k : Nat} : ∀ {ds : List D}, (∀ d ∈ ds, wt d ≤ k) → wtL ds ≤ ds.length * (k + 2)
  | [], _ => by simp [wtL]
  | d :: ds, h => by
    have h1 := h d List.mem_cons_self
    have h2 := wtL_le (ds := ds) fun e he => h e (List.mem_cons_of_mem _ he)
    simp only [wtL, List.length_cons, Nat.add_mul]
    omega
/-! ### ints, pairs -/
abbrev iD (n : Int) : D := .int n
def pD (z : Int × Int) : D := tupOf [z.1, z.2]
theorem pD_eq (z : Int × Int) : pD z = .tuple [.int z.1, .int z.2] := rfl
theorem intsOf_map : ∀ l : List Int, intsOf (l.map iD) = some l
  | [] => rfl
  | n :: l => by show (intsOf (l.map iD)).map (n :: ·) = _; rw [intsOf_map l]; rfl
theorem keysOf_map : ∀ l : List (List Int), keysOf (l.map tupOf) = some l
  | [] => rfl
  | k :: l => by
    show (match intsOf (k.map iD), keysOf (l.map tupOf) with
      | some k, some ks => some (k :: ks)
      | _, _ => none) = _
    rw [intsOf_map, keysOf_map l]
def keyP (z : Int × Int) : List Int := [z.1, z.2]
theorem pD_map (S : List (Int × Int)) : S.map pD = (S.map keyP).map tupOf := by rw [List.map_map]; rfl
/-- a number in a list or tuple of numbers -/
theorem eqv_int (a b : Int) : PyData.eqv (iD a) (iD b) = decide (a = b) := by
  show (a == b) = _
  exact Bool.beq_eq_decide_eq a b
theorem any_eqv (l : List Int) (k : Int) : (l.map iD).any (fun z => PyData.eqv z (iD k)) = decide (k ∈ l) := by
  induction l with
  | nil => simp
  | cons n l ih =>
    rw [List.map_cons, List.any_cons, ih, eqv_int]
    by_cases c : n = k
    · simp [c]
    · have c' : ¬ k = n := fun z => c z.symm
      simp [c, c']
theorem lay_ints : ∀ l : List Int, PyData.canLayAll0 (l.map iD) = true
  | [] => by simp [PyData.canLayAll0]
  | n :: l => by simp only [List.map_cons, PyData.canLayAll0, PyData.canLay0, lay_ints l, Bool.and_self]
theorem nod_ints : ∀ l : List Int, nodL (l.map iD) = true
  | [] => by simp [nodL]
  | n :: l => by simp only [List.map_cons, nodL, nod, nod_ints l, Bool.and_self]
theorem dep_ints (l : List Int) : PyData.depthAll (l.map iD) = 0 := by
  refine Nat.le_zero.mp (depthAll_le fun d hd => ?_)
  obtain ⟨n, _, rfl⟩ := List.mem_map.mp hd
  simp [PyData.depth]
theorem shaped_tI (l : List Int) : SeqAt.shaped (.tuple (l.map iD)) = true := by
  unfold SeqAt.shaped
  simp only [PyData.canLay0, PyData.depth, dep_ints, lay_ints, Bool.true_and, decide_eq_true_eq]
  omega
theorem shaped_lI (l : List Int) : SeqAt.shaped (.list (l.map iD)) = true := by
  unfold SeqAt.shaped
  simp only [PyData.canLay0, PyData.depth, dep_ints, lay_ints, Bool.true_and, decide_eq_true_eq]
  omega
theorem shaped_i (k : Int) : SeqAt.shaped (.int k) = true := by simp [SeqAt.shaped, PyData.canLay0, PyData.depth]
theorem in_tI (neg : Bool) (k : Int) (l : List Int) : inG neg (.int k) (.tuple (l.map iD)) = some (.bool (neg != decide (k ∈ l))) := by
  unfold inG
  show (if _ then _ else _) = _
  rw [if_pos (by simp [shaped_i, shaped_tI, nod, nod_ints]), any_eqv]
theorem in_lI (neg : Bool) (k : Int) (l : List Int) : inG neg (.int k) (.list (l.map iD)) = some (.bool (neg != decide (k ∈ l))) := by
  unfold inG
  show (if _ then _ else _) = _
  rw [if_pos (by simp [shaped_i, shaped_lI, nod, nod_ints]), any_eqv]
/-- == with () -/
theorem eq_nil (l : List Int) : eqD (.tuple (l.map iD)) (.tuple []) = some (.bool (decide (l = []))) := by
  unfold eqD
  have z : SeqAt.shaped (.tuple []) = true := shaped_tI []
  rw [if_pos (by simp [shaped_tI, nod, nod_ints, z, nodL])]
  cases l with
  | nil => simp [PyData.eqv, PyData.eqvAll]
  | cons n l => simp [PyData.eqv, PyData.eqvAll]
theorem eq_i (a b : Int) : eqD (.int a) (.int b) = some (.bool (decide (a = b))) := by
  unfold eqD
  rw [if_pos (by simp [shaped_i, nod]), eqv_int]
theorem ne_i (a b : Int) : neD (.int a) (.int b) = some (.bool (!decide (a = b))) := by
  unfold neD
  rw [if_pos (by simp [shaped_i, nod]), eqv_int]
/-! ### comprehensions -/
theorem bind_eq {α β : Type} {m : M α} {f : α → M β} {q q' : Pot} {a : α} (h : m q = some (a, q')) : M.bind m f q = f a q' := by
  unfold M.bind; rw [h]
theorem of_eq {α : Type} {o : Option α} {a : α} {q : Pot} (h : o = some a) : M.of o q = some (a, q) := by subst h; rfl
theorem lcGo_yes {own : List Nat} {g : Gd} {tt te : Env → M D} {ρ : Env} {x y : D} {xs ys : List D} {q q1 q2 q3 : Pot} {as : List (Nat × D)} (h1 : g x = some as) (h2 : tt (sets (wipeD ρ own) (as.map (·.1)) (cl as)) q = some (.bool true, q1)) (h3 : te (sets (wipeD ρ own) (as.map (·.1)) (cl as)) q1 = some (y, q2))
    (h4 : lcGo own g tt te ρ xs q2 = some (ys, q3)) : lcGo own g tt te ρ (x :: xs) q = some (y :: ys, q3) :=
  (bind_eq (of_eq h1)).trans ((bind_eq h2).trans ((bind_eq h3).trans ((bind_eq h4).trans rfl)))
theorem lcGo_no {own : List Nat} {g : Gd} {tt te : Env → M D} {ρ : Env} {x : D} {xs ys : List D} {q q1 q3 : Pot} {as : List (Nat × D)} (h1 : g x = some as) (h2 : tt (sets (wipeD ρ own) (as.map (·.1)) (cl as)) q = some (.bool false, q1))
    (h4 : lcGo own g tt te ρ xs q1 = some (ys, q3)) : lcGo own g tt te ρ (x :: xs) q = some (ys, q3) :=
  (bind_eq (of_eq h1)).trans ((bind_eq h2).trans h4)
theorem lcE_of {own : List Nat} {it : IE} {g : Gd} {tt te : Env → M D} {ρ : Env} {q q1 q2 : Pot} {xs ys : List D} (hit : it ρ q = some (xs, q1)) (hown : own.all (fun i => decide (i < ρ.length)) = true) (h : lcGo own g tt te ρ xs q1 = some (ys, q2)) : lcE own it g tt te ρ q = some (.list ys, q2) := by
  refine (bind_eq hit).trans ?_
  rw [if_pos hown]
  exact (bind_eq h).trans rfl
theorem lcGo_map {α : Type} {own : List Nat} {g : Gd} {tt te : Env → M D} {ρ : Env} {q : Pot} (e : α → D) (as : α → List (Nat × D)) (t : α → Bool) (y : α → D) : ∀ (L : List α),
    (∀ x ∈ L, g (e x) = some (as x) ∧ tt (sets (wipeD ρ own) ((as x).map (·.1)) (cl (as x))) q = some (.bool (t x), q) ∧ (t x = true → te (sets (wipeD ρ own) ((as x).map (·.1)) (cl (as x))) q = some (y x, q))) →
    lcGo own g tt te ρ (L.map e) q = some ((L.filter t).map y, q)
  | [], _ => rfl
  | x :: L, h => by
    obtain ⟨h1, h2, h3⟩ := h x List.mem_cons_self
    have ih := lcGo_map e as t y L fun z hz => h z (List.mem_cons_of_mem _ hz)
    rw [List.map_cons]
    cases c : t x with
    | true =>
      rw [c] at h2
      rw [List.filter_cons_of_pos c, List.map_cons]
      exact lcGo_yes h1 h2 (h3 c) ih
    | false =>
      rw [c] at h2
      rw [List.filter_cons_of_neg (by rw [c]; decide)]
      exact lcGo_no h1 h2 ih
theorem lcE_map {α : Type} {own : List Nat} {it : IE} {g : Gd} {tt te : Env → M D} {ρ : Env} {q q1 : Pot} (L : List α) (e : α → D) (as : α → List (Nat × D)) (t : α → Bool) (y : α → D) (hit : it ρ q = some (L.map e, q1)) (hown : own.all (fun i => decide (i < ρ.length)) = true)
    (h : ∀ x ∈ L, g (e x) = some (as x) ∧ tt (sets (wipeD ρ own) ((as x).map (·.1)) (cl (as x))) q1 = some (.bool (t x), q1) ∧ (t x = true → te (sets (wipeD ρ own) ((as x).map (·.1)) (cl (as x))) q1 = some (y x, q1))) :
    lcE own it g tt te ρ q = some (.list ((L.filter t).map y), q1) := lcE_of hit hown (lcGo_map e as t y L h)
open PySem.W (EachIs)
/-- with draws: what comes is of what it goes over, in its sequence -/
theorem lcGo_st {own : List Nat} {g : Gd} {tt te : Env → M D} {ρ : Env} {I : Pot → Prop} {R : D → D → Prop} : ∀ (xs : List D) (q : Pot), I q →
    (∀ x ∈ xs, ∀ q, I q → ∃ as b q1, g x = some as ∧ tt (sets (wipeD ρ own) (as.map (·.1)) (cl as)) q = some (.bool b, q1) ∧ I q1 ∧ (b = true → ∃ y q2, te (sets (wipeD ρ own) (as.map (·.1)) (cl as)) q1 = some (y, q2) ∧ I q2 ∧ R x y)) →
    ∃ (sub ys : List D) (q' : Pot), List.Sublist sub xs ∧ lcGo own g tt te ρ xs q = some (ys, q') ∧ I q' ∧ EachIs R sub ys
  | [], q, hq, _ => ⟨[], [], q, .slnil, rfl, hq, .nil⟩
  | x :: xs, q, hq, h => by
    obtain ⟨as, b, q1, h1, h2, h3, h4⟩ := h x List.mem_cons_self q hq
    cases b with
    | true =>
      obtain ⟨y, q2, h5, h6, h7⟩ := h4 rfl
      obtain ⟨sub, ys, q', i1, i2, i3, i4⟩ := lcGo_st xs q2 h6 fun z hz => h z (List.mem_cons_of_mem _ hz)
      exact ⟨x :: sub, y :: ys, q', i1.cons_cons x, lcGo_yes h1 h2 h5 i2, i3, .cons h7 i4⟩
    | false =>
      obtain ⟨sub, ys, q', i1, i2, i3, i4⟩ := lcGo_st xs q1 h3 fun z hz => h z (List.mem_cons_of_mem _ hz)
      exact ⟨sub, ys, q', i1.cons x, lcGo_no h1 h2 i2, i3, i4⟩
theorem lcE_st {own : List Nat} {it : IE} {g : Gd} {tt te : Env → M D} {ρ : Env} {q q1 : Pot} {I : Pot → Prop} {R : D → D → Prop} (xs : List D) (hit : it ρ q = some (xs, q1)) (hown : own.all (fun i => decide (i < ρ.length)) = true) (hq : I q1)
    (h : ∀ x ∈ xs, ∀ q, I q → ∃ as b q1, g x = some as ∧ tt (sets (wipeD ρ own) (as.map (·.1)) (cl as)) q = some (.bool b, q1) ∧ I q1 ∧ (b = true → ∃ y q2, te (sets (wipeD ρ own) (as.map (·.1)) (cl as)) q1 = some (y, q2) ∧ I q2 ∧ R x y)) :
    ∃ (sub ys : List D) (q' : Pot), List.Sublist sub xs ∧ lcE own it g tt te ρ q = some (.list ys, q') ∧ I q' ∧ EachIs R sub ys := by
  obtain ⟨sub, ys, q', i1, i2, i3, i4⟩ := lcGo_st xs q1 hq h
  exact ⟨sub, ys, q', i1, lcE_of hit hown i2, i3, i4⟩
theorem boolsOf_map {α : Type} (f : α → Bool) : ∀ L : List α, boolsOf (L.map fun x => (.bool (f x) : D)) = some (L.map f)
  | [] => rfl
  | x :: L => by show (boolsOf (L.map fun x => (.bool (f x) : D))).map (f x :: ·) = _; rw [boolsOf_map f L]; rfl
theorem all_map {α : Type} (f : α → Bool) (L : List α) : allD [.list (L.map fun x => .bool (f x))] = some (.bool (L.all f)) := by
  show (boolsOf _).map _ = _
  rw [boolsOf_map]
  simp [List.all_map]
theorem any_map {α : Type} (f : α → Bool) (L : List α) : anyD [.list (L.map fun x => .bool (f x))] = some (.bool (L.any f)) := by
  show (boolsOf _).map _ = _
  rw [boolsOf_map]
  simp [List.any_map]
/-! ### sorted -/
theorem alike_ints : ∀ a b : List Int, PySem.W.alikeAll (a.map iD) (b.map iD) = true
  | [], _ => by simp [PySem.W.alikeAll]
  | _ :: _, [] => by simp [PySem.W.alikeAll]
  | x :: a, y :: b => by simp only [List.map_cons, PySem.W.alikeAll, PySem.W.alike, alike_ints a b, Bool.and_self]
theorem okS_tups {L : List (List Int)} (h : ∀ k ∈ L, k ≠ []) : okS (L.map tupOf) = true := by
  unfold okS alikeB sortB
  simp only [Bool.and_eq_true]
  refine ⟨?_, ?_, ?_, ?_⟩
  · rw [List.all_eq_true]; intro d hd
    rw [List.all_eq_true]; intro e he
    obtain ⟨a, _, rfl⟩ := List.mem_map.mp hd
    obtain ⟨b, _, rfl⟩ := List.mem_map.mp he
    show PySem.W.alike (.tuple _) (.tuple _) = true
    simp only [PySem.W.alike]
    exact alike_ints a b
  · rw [Bool.or_eq_true]; left
    rw [List.all_eq_true]; intro d hd
    obtain ⟨a, ha, rfl⟩ := List.mem_map.mp hd
    cases a with
    | nil => exact absurd rfl (h _ ha)
    | cons x r => rfl
  · rw [nodL_all, List.all_eq_true]; intro d hd
    obtain ⟨a, _, rfl⟩ := List.mem_map.mp hd
    show nod (.tuple _) = true
    simp only [nod]; exact nod_ints a
  · rw [List.all_eq_true]; intro d hd
    obtain ⟨a, _, rfl⟩ := List.mem_map.mp hd
    have z : (tupOf a).depth = 1 := by show PyData.depthAll (a.map iD) + 1 = 1; rw [dep_ints]
    rw [z]; decide
theorem sorted_tups (L : List (List Int)) (h : ∀ k ∈ L, k ≠ []) : sortedD [.list (L.map tupOf)] = some (.list ((sortK L).map tupOf)) := by
  show (if okS (L.map tupOf) = true then some (PyData.list (srt (L.map tupOf))) else none) = _
  rw [if_pos (okS_tups h), srt_tups]
theorem srtSet_ints (l : List Int) (h1 : l.length ≤ 4000) (h2 : (dedI l).length < 64) : srtSetD (.list (l.map iD)) = some (.list ((sortI (dedI l)).map iD)) := by
  unfold srtSetD
  simp only [intsOf_map]
  rw [if_pos ⟨h1, h2⟩]
theorem srtSet_tups (L : List (List Int)) (ne : L ≠ []) (h : ∀ k ∈ L, k ≠ []) (h2 : (ded L).length ≤ 76) : srtSetD (.list (L.map tupOf)) = some (.list ((sortK (ded L)).map tupOf)) := by
  unfold srtSetD
  have e : intsOf (L.map tupOf) = none := by
    cases L with
    | nil => exact absurd rfl ne
    | cons k L => rfl
  simp only [e, keysOf_map]
  rw [if_pos ⟨h2, okS_tups fun k hk => h k (mem_ded.mp hk)⟩]
theorem srtSet_any (L : List (List Int)) (h : ∀ k ∈ L, k ≠ []) (h2 : (ded L).length ≤ 76) : srtSetD (.list (L.map tupOf)) = some (.list ((sortK (ded L)).map tupOf)) := by
  by_cases ne : L = []
  · subst ne
    show srtSetD (.list ([].map iD)) = _
    rw [srtSet_ints [] (by simp) (by simp [dedI])]
    simp [sortI, sortK, ded, dedI]
  · exact srtSet_tups L ne h h2
theorem sortK_ded {a b : List (List Int)} (h : ∀ x, x ∈ a ↔ x ∈ b) : sortK (ded a) = sortK (ded b) := sortK_of_perm (perm_of_mem (nodup_ded a) (nodup_ded b) fun x => by rw [mem_ded, mem_ded, h])
end Sd
/-! the plain law's kit: running the meanings -/
namespace Sd
open PySem PySem.Spec PyProof.Rows
section
variable {f g c : SE} {ex t : Env → M D} {fs : List (Env → M D)} {ρ ρ' : Env} {q q1 q2 : Pot} {d e : D} {ds : List D} {n i : Nat} {φ : List D → M D}
theorem def_rt (h : f (startE n ds) q = some ((.rt d, ρ), q1)) : defM n f ds q = some (d, q1) := (bind_eq h).trans rfl
theorem def_nx (h : f (startE n ds) q = some ((.nx, ρ), q1)) : defM n f ds q = some (.none, q1) := (bind_eq h).trans rfl
theorem seq_nx (h : f ρ q = some ((.nx, ρ'), q1)) : seqS f g ρ q = g ρ' q1 := bind_eq h
theorem seq_rt (h : f ρ q = some ((.rt d, ρ'), q1)) : seqS f g ρ q = some ((.rt d, ρ'), q1) := (bind_eq h).trans rfl
theorem set_ev (h : ex ρ q = some (d, q1)) : setS i ex ρ q = some ((.nx, ρ.set i (some (false, d))), q1) := (bind_eq h).trans rfl
theorem ret_ev (h : ex ρ q = some (d, q1)) : retS ex ρ q = some ((.rt d, ρ), q1) := (bind_eq h).trans rfl
theorem exp_ev (h : ex ρ q = some (d, q1)) : exprS ex ρ q = some ((.nx, ρ), q1) := (bind_eq h).trans rfl
theorem if_t (h : ex ρ q = some (.bool true, q1)) : ifS ex f g ρ q = f ρ q1 := bind_eq h
theorem if_f (h : ex ρ q = some (.bool false, q1)) : ifS ex f g ρ q = g ρ q1 := bind_eq h
theorem and_t (h : ex ρ q = some (.bool true, q1)) : andE ex t ρ q = t ρ q1 := bind_eq h
theorem and_f (h : ex ρ q = some (.bool false, q1)) : andE ex t ρ q = some (.bool false, q1) := (bind_eq h).trans rfl
theorem or_t (h : ex ρ q = some (.bool true, q1)) : orE ex t ρ q = some (.bool true, q1) := (bind_eq h).trans rfl
theorem or_f (h : ex ρ q = some (.bool false, q1)) : orE ex t ρ q = t ρ q1 := bind_eq h
theorem seq_n {r : Option ((Fl × Env) × Pot)} (h : f ρ q = some ((.nx, ρ'), q1)) (h2 : g ρ' q1 = r) : seqS f g ρ q = r := (seq_nx h).trans h2
theorem if_tt {r : Option ((Fl × Env) × Pot)} (h : ex ρ q = some (.bool true, q1)) (h2 : f ρ q1 = r) : ifS ex f g ρ q = r := (if_t h).trans h2
theorem if_ff {r : Option ((Fl × Env) × Pot)} (h : ex ρ q = some (.bool false, q1)) (h2 : g ρ q1 = r) : ifS ex f g ρ q = r := (if_f h).trans h2
theorem and_tt {r : Option (D × Pot)} (h : ex ρ q = some (.bool true, q1)) (h2 : t ρ q1 = r) : andE ex t ρ q = r := (and_t h).trans h2
theorem or_ff {r : Option (D × Pot)} (h : ex ρ q = some (.bool false, q1)) (h2 : t ρ q1 = r) : orE ex t ρ q = r := (or_f h).trans h2
theorem ite_t {th el : Env → M D} {r : Option (D × Pot)} (h : ex ρ q = some (.bool true, q1)) (h2 : th ρ q1 = r) : iteE ex th el ρ q = r := (bind_eq h).trans h2
theorem ite_f {th el : Env → M D} {r : Option (D × Pot)} (h : ex ρ q = some (.bool false, q1)) (h2 : el ρ q1 = r) : iteE ex th el ρ q = r := (bind_eq h).trans h2
theorem bind2 {α β : Type} {m : M α} {k : α → M β} {a : α} {r : Option (β × Pot)} (h : m q = some (a, q1)) (h2 : k a q1 = r) : M.bind m k q = r := (bind_eq h).trans h2
theorem and_b {a b : Bool} (h : ex ρ q = some (.bool a, q)) (h2 : t ρ q = some (.bool b, q)) : andE ex t ρ q = some (.bool (a && b), q) := by
  cases a with
  | true => rw [and_t h, h2]; rfl
  | false => rw [and_f h]; rfl
theorem ap1_ev {h : D → Option D} (h1 : ex ρ q = some (d, q1)) (h2 : h d = some e) : ap1 h ex ρ q = some (e, q1) := (bind_eq h1).trans (of_eq h2)
theorem ap2_ev {h : D → D → Option D} {e1 : D} (h1 : ex ρ q = some (d, q1)) (h2 : t ρ q1 = some (e1, q2)) (h3 : h d e1 = some e) : ap2 h ex t ρ q = some (e, q2) := (bind_eq h1).trans ((bind_eq h2).trans (of_eq h3))
theorem sq_nil : seqE [] ρ q = some ([], q) := rfl
theorem sq_cons (h1 : ex ρ q = some (d, q1)) (h2 : seqE fs ρ q1 = some (ds, q2)) : seqE (ex :: fs) ρ q = some (d :: ds, q2) := (bind_eq h1).trans ((bind_eq h2).trans rfl)
theorem ap_ev {h : List D → Option D} (h1 : seqE fs ρ q = some (ds, q1)) (h2 : h ds = some e) : ap h fs ρ q = some (e, q1) := (bind_eq h1).trans (of_eq h2)
theorem ap_1 {h : List D → Option D} (h1 : ex ρ q = some (d, q1)) (h2 : h [d] = some e) : ap h [ex] ρ q = some (e, q1) := ap_ev (sq_cons h1 sq_nil) h2
theorem call_ev (h1 : seqE fs ρ q = some (ds, q1)) (h2 : φ ds q1 = some (e, q2)) : callE φ fs ρ q = some (e, q2) := (bind_eq h1).trans h2
theorem tup_ev (h1 : seqE fs ρ q = some (ds, q1)) : tupE fs ρ q = some (.tuple ds, q1) := (bind_eq h1).trans rfl
theorem lst_ev (h1 : seqE fs ρ q = some (ds, q1)) : lstE fs ρ q = some (.list ds, q1) := (bind_eq h1).trans rfl
theorem it_ev {xs : List D} (h1 : ex ρ q = some (d, q1)) (h2 : items d = some xs) : itE ex ρ q = some (xs, q1) := (bind_eq h1).trans (of_eq h2)
theorem rng_ev {j : Int} (h1 : ex ρ q = some (.int j, q1)) (h2 : -1000000 ≤ j ∧ j ≤ 1000000) : rngE ex ρ q = some ((List.range j.toNat).map fun i => .int (i : Nat), q1) := by
  refine (bind_eq h1).trans ?_
  show (if _ then _ else _ : M (List D)) q1 = _
  rw [if_pos h2]; rfl
end
theorem chain_tt {g1 g2 : D → D → Option D} {f1 f2 f3 : Env → M D} {ρ : Env} {q : Pot} {x y w r : D} (h1 : f1 ρ q = some (x, q)) (h2 : f2 ρ q = some (y, q)) (h : g1 x y = some (.bool true)) (h3 : f3 ρ q = some (w, q)) (h4 : g2 y w = some r) : chainE g1 g2 f1 f2 f3 ρ q = some (r, q) :=
  bind2 h1 (bind2 h2 (bind2 (of_eq h) (show M.bind (f3 ρ) _ q = _ from bind2 h3 (of_eq h4))))
theorem ne_str {x : Str} (h : SeqAt.shaped (.str x) = true) : neD (.str x) (.str x) = some (.bool false) := by
  unfold neD
  rw [if_pos (by simp [h, nod])]
  simp [PyData.eqv]
/-- the rest behind the first -/
theorem cut_1 (ds : List D) : cutD ds (some 1) none = ds.drop 1 := by
  unfold cutD
  cases ds with
  | nil => rfl
  | cons d r =>
    have e1 : HT.sIx (d :: r).length 0 (some 1) = 1 := by
      unfold HT.sIx
      simp
    have e2 : HT.sIx (d :: r).length (d :: r).length none = (d :: r).length := rfl
    rw [e1, e2]
    simp
theorem zip_drop {α β : Type} (f : α → β) (l : List α) : (l.map f).zip ((l.map f).drop 1) = (l.zip (l.drop 1)).map fun z => (f z.1, f z.2) := by
  rw [← List.map_drop, List.zip_map]
  rfl
theorem pw_next {α : Type} {R : α → α → Prop} : ∀ {l : List α}, l.Pairwise R → ∀ z ∈ l.zip (l.drop 1), R z.1 z.2
  | [], _, z, hz => by simp at hz
  | [_], _, z, hz => by simp at hz
  | a :: b :: r, h, z, hz => by
    have hz' : z ∈ (a, b) :: ((b :: r).zip r) := hz
    rcases List.mem_cons.mp hz' with e | e
    · rw [e]; exact (List.pairwise_cons.mp h).1 b List.mem_cons_self
    · exact pw_next (List.pairwise_cons.mp h).2 z e
/-! ### lots and disputes -/
abbrev tpI (l : List Int) : D := .tuple (l.map iD)
abbrev tpP (S : List (Int × Int)) : D := .tuple (S.map pD)
def ltP (z w : Int × Int) : Prop := z.1 < w.1 ∨ (z.1 = w.1 ∧ z.2 < w.2)
instance (z w : Int × Int) : Decidable (ltP z w) := by unfold ltP; infer_instance
theorem ltD_p (z w : Int × Int) : ltD (pD z) (pD w) = some (.bool (decide (ltP z w))) := by
  show some (PyData.bool (HT.lexLt [z.1, z.2] [w.1, w.2])) = _
  congr 2
  unfold ltP
  simp only [HT.lexLt]
  by_cases h1 : z.1 < w.1
  · have h2 : ¬ z.1 = w.1 := by omega
    simp [h1, h2]
  · by_cases h2 : z.1 = w.1
    · by_cases h3 : z.2 < w.2
      · have h4 : ¬ z.2 = w.2 := by omega
        simp [h2, h3, h4]
      · simp [h2, h3]
    · simp [h1, h2]
/-- drawn numbers -/
def PotOk' (q : Pot) : Prop := 0 ≤ q.1 ∧ 0 ≤ q.2 ∧ q.2 < 4294967296
theorem draw_ev (A B C m : Int) (hm : 0 < m ∧ m < 1073741824) {q : Pot} (h : PotOk' q) : ∃ r q', drawS A B C [potD, .int m] q = some (.int r, q') ∧ 0 ≤ r ∧ r < m ∧ PotOk' q' := by
  refine ⟨(drawN A B C m q).1, (drawN A B C m q).2, ?_, ?_⟩
  · show (if _ then _ else _) = _
    rw [if_pos ⟨rfl, hm, h.2⟩]
  · unfold drawN
    by_cases c : 0 < q.1
    · rw [if_pos c]
      exact ⟨Int.emod_nonneg _ (by omega), Int.emod_lt_of_pos _ hm.1, Int.ediv_nonneg h.1 (by omega), h.2⟩
    · rw [if_neg c]
      refine ⟨Int.emod_nonneg _ (by omega), Int.emod_lt_of_pos _ hm.1, h.1, ?_, ?_⟩
      · exact Int.emod_nonneg _ (by decide)
      · have := Int.emod_lt_of_pos (q.2 * A + B) (show (0 : Int) < 2147483587 by decide)
        show (q.2 * A + B) % 2147483587 < 4294967296
        omega
end Sd
namespace Hd
open PySem PySem.Spec PyProof.Rows Sd
theorem e1 (i : Int) (q : Pot) : s1 [.int i] q = some (.bool true, q) := by rfl
theorem e2 {i a b : Int} (h : a ≤ i ∧ i ≤ b) (q : Pot) : s2 [.int i, .int a, .int b] q = some (.bool true, q) := by
  refine def_rt (ret_ev (and_tt (call_ev (sq_cons rfl sq_nil) (e1 i q)) ?_))
  have h1 : leD (.int a) (.int i) = some (.bool true) := by show some (PyData.bool (decide (a ≤ i))) = _; simp [h.1]
  have h2 : leD (.int i) (.int b) = some (.bool true) := by show some (PyData.bool (decide (i ≤ b))) = _; simp [h.2]
  exact chain_tt (x := .int a) (y := .int i) (w := .int b) rfl rfl h1 rfl h2
theorem e3 {ds : List D} {k : Int} (h : (ds.length : Int) = k) (q : Pot) : s3 [.tuple ds, .int k] q = some (.bool true, q) := by
  refine def_rt (ret_ev (and_tt (ap1_ev (d := .tuple ds) rfl rfl) (ap2_ev (d := .int ds.length) (e1 := .int k) (ap_1 (d := .tuple ds) rfl rfl) rfl ?_)))
  rw [eq_i]; simp [h]
theorem e4 {l : List Int} (h : l.Pairwise (· < ·)) (q : Pot) : s4 [tpI l] q = some (.bool true, q) := by
  have hz : zipE [vr 0, sliE (vr 0) (soO (cst (.int 1))) noO] (startE 3 [tpI l]) q = some ((l.zip (l.drop 1)).map fun z => (.tuple [iD z.1, iD z.2] : D), q) := by
    refine bind2 (a := [tpI l, .tuple ((l.map iD).drop 1)]) (q1 := q) (sq_cons rfl (sq_cons ?_ sq_nil)) (of_eq ?_)
    · rw [← cut_1]; rfl
    · show some (((l.map iD).zip ((l.map iD).drop 1)).map _) = _
      rw [zip_drop, List.map_map]; rfl
  have hl := lcE_map (own := [1, 2]) (g := gT [gN 1, gN 2]) (tt := cst (.bool true)) (te := ap2 ltD (vr 1) (vr 2)) (l.zip (l.drop 1)) (fun z => (.tuple [iD z.1, iD z.2] : D)) (fun z => [(1, iD z.1), (2, iD z.2)]) (fun _ => true) (fun z => .bool (decide (z.1 < z.2))) hz rfl fun z _ => ⟨rfl, rfl, fun _ => rfl⟩
  refine def_rt (ret_ev (ap_1 hl ?_))
  rw [List.filter_eq_self.mpr fun _ _ => rfl, all_map]
  rw [List.all_eq_true.mpr fun z hz => by simpa using pw_next h z hz]
theorem e5 {l : List Int} {m : Int} (h : l.Pairwise (· < ·)) (hr : ∀ x ∈ l, 0 ≤ x ∧ x ≤ m) (q : Pot) : s5 [tpI l, .int m] q = some (.bool true, q) := by
  have hl := lcE_map (own := [2]) (g := gN 2) (tt := cst (.bool true)) (te := callE s2 [vr 2, cst (.int 0), vr 1]) (it := itE (vr 0)) (ρ := startE 3 [tpI l, .int m]) (q := q) (q1 := q) l iD (fun n => [(2, iD n)]) (fun _ => true) (fun _ => .bool true) (it_ev rfl rfl) rfl
    fun n hn => ⟨rfl, rfl, fun _ => call_ev (sq_cons rfl (sq_cons rfl (sq_cons rfl sq_nil))) (e2 (hr n hn) q)⟩
  refine def_rt (ret_ev (and_tt (ap1_ev (d := tpI l) rfl rfl) (and_tt (ap_1 hl ?_) (call_ev (ds := [tpI l]) (sq_cons rfl sq_nil) (e4 h q)))))
  rw [List.filter_eq_self.mpr fun _ _ => rfl, all_map (fun _ => true)]
  simp
theorem e15 {n : Int} {z : Int × Int} (h : 0 ≤ z.1 ∧ z.1 < n ∧ 0 ≤ z.2 ∧ z.2 < n) (q : Pot) : s15 [.int n, pD z] q = some (.bool true, q) := by
  have hl := lcE_map (own := [2]) (g := gN 2) (tt := cst (.bool true)) (te := callE s2 [vr 2, cst (.int 0), ap2 subD (vr 0) (cst (.int 1))]) (it := itE (vr 1)) (ρ := startE 3 [.int n, pD z]) (q := q) (q1 := q) [z.1, z.2] iD (fun n => [(2, iD n)]) (fun _ => true) (fun _ => .bool true) (it_ev rfl rfl) rfl
    fun k hk => ⟨rfl, rfl, fun _ => call_ev (ds := [.int k, .int 0, .int (n - 1)]) (sq_cons rfl (sq_cons rfl (sq_cons rfl sq_nil))) (e2 (by
      rcases List.mem_cons.mp hk with e | e
      · rw [e]; omega
      · rw [List.mem_singleton.mp e]; omega) q)⟩
  refine def_rt (ret_ev (and_tt (call_ev (ds := [pD z, .int 2]) (sq_cons rfl (sq_cons rfl sq_nil)) (e3 rfl q)) (ap_1 hl ?_)))
  rw [List.filter_eq_self.mpr fun _ _ => rfl, all_map (fun _ => true)]
  simp
/-- a dispute -/
abbrev dsp (n : Int) (S : List (Int × Int)) : D := .tuple [.str "dispute", .int n, tpP S]
structure VD (n : Int) (S : List (Int × Int)) : Prop where
  n1 : 1 ≤ n
  n10 : n ≤ 10
  rng : ∀ z ∈ S, 0 ≤ z.1 ∧ z.1 < n ∧ 0 ≤ z.2 ∧ z.2 < n
  pw : S.Pairwise ltP
theorem e16 {n : Int} {S : List (Int × Int)} (v : VD n S) (q : Pot) : s16 [dsp n S] q = some (.bool true, q) := by
  have hl := lcE_map (own := [3]) (g := gN 3) (tt := cst (.bool true)) (te := callE s15 [ap2 ixD (vr 0) (cst (.int 1)), vr 3]) (it := itE (ap2 ixD (vr 0) (cst (.int 2)))) (ρ := startE 4 [dsp n S]) (q := q) (q1 := q) S pD (fun z => [(3, pD z)]) (fun _ => true) (fun _ => .bool true) (it_ev (d := tpP S) rfl rfl) rfl
    fun z hz => ⟨rfl, rfl, fun _ => call_ev (ds := [.int n, pD z]) (sq_cons rfl (sq_cons rfl sq_nil)) (e15 (v.rng z hz) q)⟩
  have hz : zipE [ap2 ixD (vr 0) (cst (.int 2)), sliE (ap2 ixD (vr 0) (cst (.int 2))) (soO (cst (.int 1))) noO] (startE 4 [dsp n S]) q = some ((S.zip (S.drop 1)).map fun z => (.tuple [pD z.1, pD z.2] : D), q) := by
    refine bind2 (a := [tpP S, .tuple ((S.map pD).drop 1)]) (q1 := q) (sq_cons rfl (sq_cons ?_ sq_nil)) (of_eq ?_)
    · rw [← cut_1]; rfl
    · show some (((S.map pD).zip ((S.map pD).drop 1)).map _) = _
      rw [zip_drop, List.map_map]; rfl
  have hl2 := lcE_map (own := [1, 2]) (g := gT [gN 1, gN 2]) (tt := cst (.bool true)) (te := ap2 ltD (vr 1) (vr 2)) (S.zip (S.drop 1)) (fun z => (.tuple [pD z.1, pD z.2] : D)) (fun z => [(1, pD z.1), (2, pD z.2)]) (fun _ => true) (fun z => .bool (decide (ltP z.1 z.2))) hz rfl fun z _ => ⟨rfl, rfl, fun _ => ap2_ev rfl rfl (ltD_p z.1 z.2)⟩
  have a1 : orE (ap1 notD (callE s3 [vr 0, cst (.int 3)])) (orE (ap1 notD (ap1 (isiD "str") (ap2 ixD (vr 0) (cst (.int 0))))) (ap2 neD (ap2 ixD (vr 0) (cst (.int 0))) (cst (.str "dispute")))) (startE 4 [dsp n S]) q = some (.bool false, q) := by
    refine or_ff (ap1_ev (call_ev (ds := [dsp n S, .int 3]) (sq_cons rfl (sq_cons rfl sq_nil)) (e3 rfl q)) rfl) (or_ff (ap1_ev (ap1_ev (d := .str "dispute") rfl rfl) rfl) ?_)
    exact ap2_ev (d := .str "dispute") (e1 := .str "dispute") rfl rfl (ne_str (by decide +kernel))
  have a2 : orE (ap1 notD (callE s2 [ap2 ixD (vr 0) (cst (.int 1)), cst (.int 1), cst (.int 10)])) (ap1 notD (ap1 (isiD "tuple") (ap2 ixD (vr 0) (cst (.int 2))))) (startE 4 [dsp n S]) q = some (.bool false, q) := by
    exact or_ff (ap1_ev (call_ev (ds := [.int n, .int 1, .int 10]) (sq_cons rfl (sq_cons rfl (sq_cons rfl sq_nil))) (e2 ⟨v.n1, v.n10⟩ q)) rfl) (ap1_ev (ap1_ev (d := tpP S) rfl rfl) rfl)
  have a3 : ap1 notD (ap allD [lcE [3] (itE (ap2 ixD (vr 0) (cst (.int 2)))) (gN 3) (cst (.bool true)) (callE s15 [ap2 ixD (vr 0) (cst (.int 1)), vr 3])]) (startE 4 [dsp n S]) q = some (.bool false, q) := by
    refine ap1_ev (d := .bool true) (ap_1 hl ?_) rfl
    rw [List.filter_eq_self.mpr fun _ _ => rfl, all_map (fun _ => true)]
    simp
  refine def_rt (ρ := startE 4 [dsp n S]) (seq_n (if_ff a1 rfl) (seq_n (if_ff a2 rfl) (seq_n (if_ff a3 rfl) (ret_ev (ap_1 hl2 ?_)))))
  rw [List.filter_eq_self.mpr fun _ _ => rfl, all_map]
  rw [List.all_eq_true.mpr fun z hz => by simpa using pw_next v.pw z hz]
end Hd
/-! the plain law's kit: places of claims, few claims -/
namespace Sd
open PySem PySem.Spec PyProof.Rows
theorem nodup_sub {α : Type} [DecidableEq α] : ∀ {a b : List α}, a.Nodup → (∀ x ∈ a, x ∈ b) → a.length ≤ b.length
  | [], _, _, _ => Nat.zero_le _
  | x :: a, b, h, s => by
    obtain ⟨h1, h2⟩ := List.nodup_cons.mp h
    have z := nodup_sub (b := b.erase x) h2 fun y hy => (List.mem_erase_of_ne (fun e : y = x => h1 (e ▸ hy))).mpr (s y (List.mem_cons_of_mem _ hy))
    have hx := s x List.mem_cons_self
    rw [List.length_erase_of_mem hx] at z
    have hp : 0 < b.length := List.length_pos_of_mem hx
    rw [List.length_cons]
    omega
/-- the numbers below n -/
def upTo (n : Int) : List Int := (List.range n.toNat).map fun i : Nat => (i : Int)
theorem mem_upTo {n x : Int} : x ∈ upTo n ↔ 0 ≤ x ∧ x < n := by
  unfold upTo
  rw [List.mem_map]
  constructor
  · rintro ⟨i, hi, rfl⟩
    have := List.mem_range.mp hi
    omega
  · rintro ⟨h1, h2⟩
    exact ⟨x.toNat, List.mem_range.mpr (by omega), by omega⟩
theorem upTo_len (n : Int) : (upTo n).length = n.toNat := by simp [upTo]
theorem upTo_nodup (n : Int) : (upTo n).Nodup := by
  unfold upTo List.Nodup
  rw [List.pairwise_map]
  exact List.nodup_range.imp fun h e => h (by omega)
theorem upTo_pw (n : Int) : (upTo n).Pairwise (· < ·) := by
  unfold upTo
  rw [List.pairwise_map]
  exact List.pairwise_lt_range.imp fun h => by omega
theorem few_in {l : List Int} {n : Int} (h : ∀ x ∈ l, 0 ≤ x ∧ x < n) : (dedI l).length ≤ n.toNat := by
  rw [← upTo_len]
  exact nodup_sub (nodup_dedI l) fun x hx => mem_upTo.mpr (h x (mem_dedI.mp hx))
def pairsOf (n : Int) : List (Int × Int) := (upTo n).flatMap fun a => (upTo n).map fun b => (a, b)
theorem mem_pairs {n : Int} {z : Int × Int} : z ∈ pairsOf n ↔ (0 ≤ z.1 ∧ z.1 < n) ∧ 0 ≤ z.2 ∧ z.2 < n := by
  unfold pairsOf
  rw [List.mem_flatMap]
  constructor
  · rintro ⟨a, ha, h⟩
    obtain ⟨b, hb, rfl⟩ := List.mem_map.mp h
    exact ⟨mem_upTo.mp ha, mem_upTo.mp hb⟩
  · rintro ⟨h1, h2⟩
    exact ⟨z.1, mem_upTo.mpr h1, List.mem_map.mpr ⟨z.2, mem_upTo.mpr h2, rfl⟩⟩
theorem pairs_len (n : Int) : (pairsOf n).length = n.toNat * n.toNat := by
  unfold pairsOf
  have key : ∀ l : List Int, (l.flatMap fun a => (upTo n).map fun b => (a, b)).length = l.length * n.toNat := fun l => by
    induction l with
    | nil => simp
    | cons a l ih => rw [List.flatMap_cons, List.length_append, ih, List.length_map, upTo_len, List.length_cons, Nat.add_mul]; omega
  rw [key, upTo_len]
theorem pw_nodup {S : List (Int × Int)} (h : S.Pairwise ltP) : S.Nodup := h.imp fun h e => by
  unfold ltP at h
  rw [e] at h
  omega
theorem few_pairs {S : List (Int × Int)} {n : Int} (h : S.Pairwise ltP) (hr : ∀ z ∈ S, 0 ≤ z.1 ∧ z.1 < n ∧ 0 ≤ z.2 ∧ z.2 < n) : S.length ≤ n.toNat * n.toNat := by
  rw [← pairs_len]
  exact nodup_sub (pw_nodup h) fun z hz => mem_pairs.mpr ⟨⟨(hr z hz).1, (hr z hz).2.1⟩, (hr z hz).2.2⟩
/-! ### a dict of places -/
theorem dcGo_yes {own : List Nat} {g : Gd} {tt tk tv : Env → M D} {ρ : Env} {x y : D} {k : Int} {xs : List D} {acc l : IDict} {q q1 q2 q3 q4 : Pot} {as : List (Nat × D)} (h1 : g x = some as) (h2 : tt (sets (wipeD ρ own) (as.map (·.1)) (cl as)) q = some (.bool true, q1)) (h3 : tk (sets (wipeD ρ own) (as.map (·.1)) (cl as)) q1 = some (.int k, q2))
    (h4 : tv (sets (wipeD ρ own) (as.map (·.1)) (cl as)) q2 = some (y, q3)) (nk : (acc.any fun z => decide (z.1 = k)) = false) (h5 : dcGo own g tt tk tv ρ xs (acc ++ [(k, y)]) q3 = some (l, q4)) : dcGo own g tt tk tv ρ (x :: xs) acc q = some (l, q4) := by
  refine bind2 (of_eq h1) (bind2 h2 (bind2 h3 ?_))
  show M.bind (tv _) _ q2 = _
  refine bind2 h4 ?_
  rw [if_neg (by rw [nk]; exact Bool.false_ne_true)]
  exact h5
theorem dcGo_map {α : Type} {own : List Nat} {g : Gd} {tt tk tv : Env → M D} {ρ : Env} {q : Pot} (e : α → D) (as : α → List (Nat × D)) (k : α → Int) (y : α → D) : ∀ (L : List α) (acc : IDict), (L.map k).Nodup → (∀ x ∈ L, ∀ z ∈ acc, z.1 ≠ k x) →
    (∀ x ∈ L, g (e x) = some (as x) ∧ tt (sets (wipeD ρ own) ((as x).map (·.1)) (cl (as x))) q = some (.bool true, q) ∧ tk (sets (wipeD ρ own) ((as x).map (·.1)) (cl (as x))) q = some (.int (k x), q) ∧ tv (sets (wipeD ρ own) ((as x).map (·.1)) (cl (as x))) q = some (y x, q)) →
    dcGo own g tt tk tv ρ (L.map e) acc q = some (acc ++ L.map fun x => (k x, y x), q)
  | [], acc, _, _, _ => by rw [List.map_nil, List.map_nil, List.append_nil]; rfl
  | x :: L, acc, nd, fr, h => by
    obtain ⟨h1, h2, h3, h4⟩ := h x List.mem_cons_self
    obtain ⟨n1, n2⟩ := List.nodup_cons.mp nd
    have ih := dcGo_map e as k y L (acc ++ [(k x, y x)]) n2 (fun z hz w hw => by
      rcases List.mem_append.mp hw with c | c
      · exact fr z (List.mem_cons_of_mem _ hz) w c
      · rw [List.mem_singleton.mp c]
        exact fun c => n1 (by have c' : k x = k z := c; rw [c']; exact List.mem_map.mpr ⟨z, hz, rfl⟩)) fun z hz => h z (List.mem_cons_of_mem _ hz)
    rw [List.map_cons, List.map_cons]
    rw [show acc ++ (k x, y x) :: L.map (fun x => (k x, y x)) = (acc ++ [(k x, y x)]) ++ L.map fun x => (k x, y x) by simp]
    refine dcGo_yes h1 h2 h3 h4 ?_ ih
    rw [List.any_eq_false]
    intro w hw
    simpa using fr x List.mem_cons_self w hw
theorem dcE_map {α : Type} {own : List Nat} {it : IE} {g : Gd} {tt tk tv : Env → M D} {ρ : Env} {q q1 : Pot} (L : List α) (e : α → D) (as : α → List (Nat × D)) (k : α → Int) (y : α → D) (hit : it ρ q = some (L.map e, q1)) (hown : own.all (fun i => decide (i < ρ.length)) = true) (nd : (L.map k).Nodup)
    (h : ∀ x ∈ L, g (e x) = some (as x) ∧ tt (sets (wipeD ρ own) ((as x).map (·.1)) (cl (as x))) q1 = some (.bool true, q1) ∧ tk (sets (wipeD ρ own) ((as x).map (·.1)) (cl (as x))) q1 = some (.int (k x), q1) ∧ tv (sets (wipeD ρ own) ((as x).map (·.1)) (cl (as x))) q1 = some (y x, q1)) :
    dcE own it g tt tk tv ρ q = some (dkD (L.map fun x => (k x, y x)), q1) := by
  refine bind2 hit ?_
  rw [if_pos hown]
  refine bind2 (dcGo_map e as k y L [] nd (fun _ _ _ z => by cases z) h) ?_
  rfl
theorem numFrom_ints : ∀ (l : List Int) (i : Nat), numFrom i (l.map iD) = (l.zipIdx i).map fun z => (.tuple [.int (z.2 : Nat), iD z.1] : D)
  | [], _ => rfl
  | c :: l, i => by
    rw [List.map_cons, List.zipIdx_cons, List.map_cons, ← numFrom_ints l (i + 1)]; rfl
/-- the dict from each to its place -/
def placeD (l : List Int) (i : Nat) : IDict := (l.zipIdx i).map fun z => (z.1, iD (z.2 : Nat))
theorem find_place : ∀ (l : List Int) (i : Nat) (c : Int), findI (placeD l i) c = if c ∈ l then some (iD ((i + l.idxOf c : Nat))) else none
  | [], _, _ => rfl
  | a :: l, i, c => by
    unfold placeD
    rw [List.zipIdx_cons, List.map_cons]
    by_cases e : a = c
    · subst e
      simp [findI, List.find?_cons, List.idxOf_cons]
    · have ih := find_place l (i + 1) c
      have e' : ¬ c = a := fun z => e z.symm
      have z : findI ((a, iD (i : Nat)) :: (l.zipIdx (i + 1)).map fun z => (z.1, iD (z.2 : Nat))) c = findI (placeD l (i + 1)) c := by
        unfold findI placeD
        rw [List.find?_cons, decide_eq_false e]
      rw [z, ih]
      have e2 : (a == c) = false := by simpa using e
      by_cases m : c ∈ l
      · rw [if_pos m, if_pos (List.mem_cons_of_mem _ m), List.idxOf_cons, e2]
        simp only [cond_false]
        congr 2
        omega
      · rw [if_neg m, if_neg (by simp [e', m])]
theorem dkOf_dk : ∀ l : IDict, dkOf (l.map fun z => ((.int z.1 : D), z.2)) = some l
  | [] => rfl
  | z :: l => by show (dkOf (l.map fun z => ((.int z.1 : D), z.2))).map ((z.1, z.2) :: ·) = _; rw [dkOf_dk l]; rfl
theorem get_place {l : List Int} {c : Int} (h : c ∈ l) : getD' (dkD (placeD l 0)) (.int c) = some (iD (l.idxOf c : Nat)) := by
  show (match dkOf ((placeD l 0).map fun z => ((.int z.1 : D), z.2)) with
    | some l => findI l c
    | none => none) = _
  rw [dkOf_dk]
  show findI (placeD l 0) c = _
  rw [find_place, if_pos h, Nat.zero_add]
theorem in_place {l : List Int} (ne : l ≠ []) (neg : Bool) (c : Int) : inDk neg (.int c) (dkD (placeD l 0)) = some (.bool (neg != decide (c ∈ l))) := by
  show (match dkOf ((placeD l 0).map fun z => ((.int z.1 : D), z.2)) with
    | some l => if l = [] then none else some (PyData.bool (neg != (findI l c).isSome))
    | none => none) = _
  rw [dkOf_dk]
  have e : ¬ placeD l 0 = [] := fun z => ne (by
    cases l with
    | nil => rfl
    | cons a l => unfold placeD at z; rw [List.zipIdx_cons] at z; cases z)
  show (if placeD l 0 = [] then none else some (PyData.bool (neg != (findI (placeD l 0) c).isSome))) = _
  rw [if_neg e, find_place]
  by_cases m : c ∈ l <;> simp [m]
theorem idx_tI {l : List Int} {c : Int} (hf : frzOk = true) (h : c ∈ l) : idxD (tpI l) (.int c) = some (iD (l.idxOf c : Nat)) := by
  show (match intsOf (l.map iD) with
    | some ns => if c ∈ ns ∧ frzOk = true then some (PyData.int (ns.idxOf c : Nat)) else none
    | none => none) = _
  rw [intsOf_map]
  show (if c ∈ l ∧ frzOk = true then some (PyData.int (l.idxOf c : Nat)) else none) = _
  rw [if_pos ⟨h, hf⟩]
end Sd
namespace Hd
open PySem PySem.Spec PyProof.Rows Sd
theorem in0 (k : Int) (l : List Int) : inG false (.int k) (tpI l) = some (.bool (decide (k ∈ l))) := by
  rw [in_tI]; cases decide (k ∈ l) <;> rfl
theorem nin0 (k : Int) (l : List Int) : inG true (.int k) (tpI l) = some (.bool (!decide (k ∈ l))) := by
  rw [in_tI]; cases decide (k ∈ l) <;> rfl
theorem in1 (k : Int) (l : List Int) : inG false (.int k) (.list (l.map iD)) = some (.bool (decide (k ∈ l))) := by
  rw [in_lI]; cases decide (k ∈ l) <;> rfl
theorem nin1 (k : Int) (l : List Int) : inG true (.int k) (.list (l.map iD)) = some (.bool (!decide (k ∈ l))) := by
  rw [in_lI]; cases decide (k ∈ l) <;> rfl
/-- a lot -/
structure LV (n : Int) (l : List Int) : Prop where
  rng : ∀ x ∈ l, 0 ≤ x ∧ x < n
  pw : l.Pairwise (· < ·)
theorem e17 {n : Int} {S : List (Int × Int)} {l : List Int} (h : LV n l) (q : Pot) : s17 [dsp n S, tpI l] q = some (.bool true, q) :=
  def_rt (ret_ev (call_ev (ds := [tpI l, .int (n - 1)]) (sq_cons rfl (sq_cons rfl sq_nil)) (e5 h.pw (fun x hx => by have := h.rng x hx; omega) q)))
theorem e18 {n : Int} {S : List (Int × Int)} (v : VD n S) (q : Pot) : s18 [dsp n S] q = some (.none, q) :=
  def_nx (if_ff (ap1_ev (call_ev (ds := [dsp n S]) (sq_cons rfl sq_nil) (e16 v q)) rfl) rfl)
theorem e19 {n : Int} {S : List (Int × Int)} (v : VD n S) (q : Pot) : s19 [dsp n S] q = some (.none, q) :=
  def_nx (if_ff (ap1_ev (call_ev (ds := [dsp n S]) (sq_cons rfl sq_nil) (e16 v q)) rfl) rfl)
def strL (S : List (Int × Int)) (l : List Int) : List Int := (S.filter fun z => decide (z.1 ∈ l)).map (·.2)
theorem mem_strL {S : List (Int × Int)} {l : List Int} {x : Int} : x ∈ strL S l ↔ ∃ z ∈ S, z.1 ∈ l ∧ z.2 = x := by
  unfold strL
  rw [List.mem_map]
  constructor
  · rintro ⟨z, hz, e⟩
    obtain ⟨h1, h2⟩ := List.mem_filter.mp hz
    exact ⟨z, h1, by simpa using h2, e⟩
  · rintro ⟨z, h1, h2, e⟩
    exact ⟨z, List.mem_filter.mpr ⟨h1, by simpa using h2⟩, e⟩
theorem strL_len (S : List (Int × Int)) (l : List Int) : (strL S l).length ≤ S.length := by
  unfold strL
  rw [List.length_map]
  exact List.length_filter_le _ _
theorem VD.few {n : Int} {S : List (Int × Int)} (v : VD n S) : S.length ≤ 100 := by
  have h := few_pairs v.pw v.rng
  have h2 : n.toNat ≤ 10 := by have := v.n10; omega
  have := Nat.mul_le_mul h2 h2
  omega
theorem strL_rng {n : Int} {S : List (Int × Int)} (v : VD n S) (l : List Int) : ∀ x ∈ strL S l, 0 ≤ x ∧ x < n := fun x hx => by
  obtain ⟨z, h1, _, e⟩ := mem_strL.mp hx
  have := v.rng z h1
  omega
def struck (S : List (Int × Int)) (l : List Int) : List Int := sortI (dedI (strL S l))
theorem mem_struck {S : List (Int × Int)} {l : List Int} {x : Int} : x ∈ struck S l ↔ x ∈ strL S l := by
  unfold struck
  rw [(sortI_perm _).mem_iff, mem_dedI]
theorem struck_few {n : Int} {S : List (Int × Int)} (v : VD n S) (l : List Int) : (struck S l).length ≤ 10 := by
  unfold struck
  rw [(sortI_perm _).length_eq]
  have h1 := few_in (strL_rng v l)
  have := v.n10
  omega
theorem e21 {n : Int} {S : List (Int × Int)} (v : VD n S) (l : List Int) (q : Pot) : s21 [dsp n S, tpI l] q = some (.list ((struck S l).map iD), q) := by
  have hl := lcE_map (own := [2, 3]) (g := gT [gN 2, gN 3]) (tt := ap2 (inG false) (vr 2) (vr 1)) (te := vr 3) (it := itE (ap2 ixD (vr 0) (cst (.int 2)))) (ρ := startE 4 [dsp n S, tpI l]) (q := q) (q1 := q) S pD (fun z => [(2, iD z.1), (3, iD z.2)]) (fun z => decide (z.1 ∈ l)) (fun z => iD z.2) (it_ev (d := tpP S) rfl rfl) rfl
    fun z _ => ⟨rfl, ap2_ev rfl rfl (in0 z.1 l), fun _ => rfl⟩
  refine def_rt (ret_ev (ap1_ev hl ?_))
  have e : (S.filter fun z => decide (z.1 ∈ l)).map (fun z => iD z.2) = (strL S l).map iD := by
    unfold strL
    rw [List.map_map]; rfl
  rw [e]
  have h1 := struck_few v l
  unfold struck at h1
  rw [(sortI_perm _).length_eq] at h1
  have h2 := strL_len S l
  have h3 := v.few
  exact srtSet_ints _ (by omega) (by omega)
/-- a lot that stands ahead -/
structure AV (n : Int) (S : List (Int × Int)) (l : List Int) : Prop extends LV n l where
  ne : l ≠ []
  cl : ∀ z ∈ S, z.2 ∈ l → z.1 ∈ l
theorem e23 {n : Int} {S : List (Int × Int)} {l : List Int} (h : AV n S l) (q : Pot) : s23 [dsp n S, tpI l] q = some (.bool true, q) := by
  have hl := lcE_map (own := [2, 3]) (g := gT [gN 2, gN 3]) (tt := cst (.bool true)) (te := andE (ap2 (inG false) (vr 3) (vr 1)) (ap2 (inG true) (vr 2) (vr 1))) (it := itE (ap2 ixD (vr 0) (cst (.int 2)))) (ρ := startE 4 [dsp n S, tpI l]) (q := q) (q1 := q) S pD (fun z => [(2, iD z.1), (3, iD z.2)]) (fun _ => true) (fun z => .bool (decide (z.2 ∈ l) && !decide (z.1 ∈ l))) (it_ev (d := tpP S) rfl rfl) rfl
    fun z _ => ⟨rfl, rfl, fun _ => and_b (ap2_ev rfl rfl (in0 z.2 l)) (ap2_ev rfl rfl (nin0 z.1 l))⟩
  refine def_rt (ρ := startE 4 [dsp n S, tpI l]) (seq_n (if_ff (or_ff (ap1_ev (call_ev (ds := [dsp n S, tpI l]) (sq_cons rfl (sq_cons rfl sq_nil)) (e17 h.toLV q)) rfl) ?_) rfl) (ret_ev (ap1_ev (d := .bool false) (ap_1 hl ?_) rfl)))
  · refine ap2_ev (d := tpI l) (e1 := .tuple []) rfl rfl ?_
    rw [eq_nil]; simp [h.ne]
  · rw [List.filter_eq_self.mpr fun _ _ => rfl, any_map]
    have z : (S.any fun z => decide (z.2 ∈ l) && !decide (z.1 ∈ l)) = false := by
      rw [List.any_eq_false]
      intro z hz
      have := h.cl z hz
      by_cases c : z.2 ∈ l <;> simp [c, this]
    rw [z]
theorem e24 {n : Int} {S : List (Int × Int)} {l : List Int} (v : VD n S) (h : AV n S l) (q : Pot) : s24 [dsp n S, tpI l] q = some (.none, q) :=
  def_nx (seq_n (exp_ev (call_ev (ds := [dsp n S]) (sq_cons rfl sq_nil) (e18 v q))) (if_ff (ap1_ev (call_ev (ds := [dsp n S, tpI l]) (sq_cons rfl (sq_cons rfl sq_nil)) (e23 h q)) rfl) rfl))
end Hd
namespace Hd
open PySem PySem.Spec PyProof.Rows Sd
def plc (l : List Int) (c : Int) : Int := (l.idxOf c : Nat)
def pairsK (S : List (Int × Int)) (l : List Int) : List (Int × Int) := (S.filter fun z => decide (z.1 ∈ l) && decide (z.2 ∈ l)).map fun z => (plc l z.1, plc l z.2)
def looseK (x l : List Int) : List (Int × Int) := (x.filter fun c => decide (c ∈ l)).map fun c => (plc l c, plc l c)
def allK (S : List (Int × Int)) (x l : List Int) : List (List Int) := (pairsK S l ++ looseK x l).map keyP
def aloneD (S : List (Int × Int)) (l x : List Int) : D := .tuple [.str "dispute", .int l.length, .tuple ((sortK (ded (allK S x l))).map tupOf)]
theorem plc_lt {l : List Int} {c : Int} (h : c ∈ l) : 0 ≤ plc l c ∧ plc l c < l.length := by
  have := List.idxOf_lt_length_iff.mpr h
  unfold plc
  omega
theorem mem_allK {S : List (Int × Int)} {x l : List Int} {k : List Int} : k ∈ allK S x l ↔ (∃ z ∈ S, z.1 ∈ l ∧ z.2 ∈ l ∧ k = [plc l z.1, plc l z.2]) ∨ ∃ c ∈ x, c ∈ l ∧ k = [plc l c, plc l c] := by
  unfold allK pairsK looseK
  rw [List.map_append, List.mem_append, List.map_map, List.map_map]
  refine or_congr ?_ ?_
  · rw [List.mem_map]
    constructor
    · rintro ⟨z, hz, e⟩
      obtain ⟨h1, h2⟩ := List.mem_filter.mp hz
      simp only [Bool.and_eq_true, decide_eq_true_eq] at h2
      exact ⟨z, h1, h2.1, h2.2, e.symm⟩
    · rintro ⟨z, h1, h2, h3, e⟩
      exact ⟨z, List.mem_filter.mpr ⟨h1, by simp [h2, h3]⟩, e.symm⟩
  · rw [List.mem_map]
    constructor
    · rintro ⟨z, hz, e⟩
      obtain ⟨h1, h2⟩ := List.mem_filter.mp hz
      exact ⟨z, h1, by simpa using h2, e.symm⟩
    · rintro ⟨z, h1, h2, e⟩
      exact ⟨z, List.mem_filter.mpr ⟨h1, by simp [h2]⟩, e.symm⟩
theorem alone_congr {S : List (Int × Int)} {l x x' : List Int} (h : ∀ c, c ∈ x ↔ c ∈ x') : aloneD S l x = aloneD S l x' := by
  unfold aloneD
  rw [sortK_ded (b := allK S x' l) fun k => by
    rw [mem_allK, mem_allK]
    refine or_congr Iff.rfl ⟨?_, ?_⟩
    · rintro ⟨c, h1, h2⟩; exact ⟨c, (h c).mp h1, h2⟩
    · rintro ⟨c, h1, h2⟩; exact ⟨c, (h c).mpr h1, h2⟩]
theorem allK_few {S : List (Int × Int)} {x l : List Int} (h : l.length ≤ 8) : (ded (allK S x l)).length ≤ 76 := by
  have z := nodup_sub (b := (pairsOf l.length).map keyP) (nodup_ded (allK S x l)) fun k hk => by
    rw [mem_ded] at hk
    rw [List.mem_map]
    rcases mem_allK.mp hk with ⟨z, _, h1, h2, e⟩ | ⟨c, _, h1, e⟩
    · exact ⟨(plc l z.1, plc l z.2), mem_pairs.mpr ⟨plc_lt h1, plc_lt h2⟩, e.symm⟩
    · exact ⟨(plc l c, plc l c), mem_pairs.mpr ⟨plc_lt h1, plc_lt h1⟩, e.symm⟩
  rw [List.length_map, Sd.pairs_len] at z
  have h2 : ((l.length : Nat) : Int).toNat ≤ 8 := by omega
  have := Nat.mul_le_mul h2 h2
  omega
theorem allK_ne {S : List (Int × Int)} {x l : List Int} : ∀ k ∈ allK S x l, k ≠ [] := fun k hk => by
  rcases mem_allK.mp hk with ⟨z, _, _, _, e⟩ | ⟨c, _, _, e⟩ <;> rw [e] <;> exact List.cons_ne_nil _ _
theorem allK_map (S : List (Int × Int)) (x l : List Int) : (pairsK S l).map pD ++ (looseK x l).map pD = (allK S x l).map tupOf := by
  unfold allK
  rw [← List.map_append, pD_map]
theorem add_few {S : List (Int × Int)} {x l : List Int} (hf : S.length + x.length ≤ 1000000) : addD (.list ((pairsK S l).map pD)) (.list ((looseK x l).map pD)) = some (.list ((allK S x l).map tupOf)) := by
  rw [← allK_map]
  refine if_pos ?_
  rw [List.length_map, List.length_map]
  unfold pairsK looseK
  rw [List.length_map, List.length_map]
  have h1 := List.length_filter_le (fun z => decide (z.1 ∈ l) && decide (z.2 ∈ l)) S
  have h2 := List.length_filter_le (fun c => decide (c ∈ l)) x
  omega
theorem e26 {n : Int} {S : List (Int × Int)} {l x : List Int} {dx : D} (hx : items dx = some (x.map iD)) (ne : l ≠ []) (nd : l.Nodup) (h8 : l.length ≤ 8) (hf : S.length + x.length ≤ 1000000) (q : Pot) : s26 [dsp n S, tpI l, dx] q = some (aloneD S l x, q) := by
  have h1 : dcE [5, 6] (enuE (vr 1)) (gT [gN 5, gN 6]) (cst (.bool true)) (vr 6) (vr 5) (startE 8 [dsp n S, tpI l, dx]) q = some (dkD (placeD l 0), q) := by
    refine dcE_map (l.zipIdx 0) (fun z => (.tuple [.int (z.2 : Nat), iD z.1] : D)) (fun z => [(5, .int (z.2 : Nat)), (6, iD z.1)]) (fun z => z.1) (fun z => iD (z.2 : Nat)) (bind2 (a := tpI l) rfl (of_eq ?_)) rfl ?_ fun z _ => ⟨rfl, rfl, rfl, rfl⟩
    · show some (numFrom 0 (l.map iD)) = _
      rw [numFrom_ints]
    · rw [List.zipIdx_map_fst]; exact nd
  have in' : ∀ c : Int, inDk false (.int c) (dkD (placeD l 0)) = some (.bool (decide (c ∈ l))) := fun c => by
    rw [in_place ne]; cases decide (c ∈ l) <;> rfl
  refine def_rt (seq_n (set_ev h1) (seq_n (set_ev (lcE_map S pD (fun z => [(6, iD z.1), (7, iD z.2)]) (fun z => decide (z.1 ∈ l) && decide (z.2 ∈ l)) (fun z => pD (plc l z.1, plc l z.2)) (it_ev (d := tpP S) rfl rfl) rfl fun z _ => ⟨rfl, and_b (ap2_ev rfl rfl (in' z.1)) (ap2_ev rfl rfl (in' z.2)), fun m => ?_⟩)) (seq_n (set_ev (ap2_ev (q1 := q) (q2 := q) (d := .list ((pairsK S l).map pD)) (e1 := .list ((looseK x l).map pD)) ?_ ?_ (add_few hf))) (ret_ev ?_))))
  · simp only [Bool.and_eq_true, decide_eq_true_eq] at m
    exact tup_ev (ds := [iD (plc l z.1), iD (plc l z.2)]) (sq_cons (ap2_ev rfl rfl (get_place m.1)) (sq_cons (ap2_ev rfl rfl (get_place m.2)) sq_nil))
  · unfold pairsK; rw [List.map_map]; rfl
  · have z := lcE_map (own := [6]) (it := itE (vr 2)) (g := gN 6) (tt := ap2 (inDk false) (vr 6) (vr 3)) (te := tupE [ap2 getD' (vr 3) (vr 6), ap2 getD' (vr 3) (vr 6)]) (ρ := (((startE 8 [dsp n S, tpI l, dx]).set 3 (some (false, dkD (placeD l 0)))).set 4 (some (false, .list ((S.filter fun z => decide (z.1 ∈ l) && decide (z.2 ∈ l)).map fun z => pD (plc l z.1, plc l z.2)))))) (q := q) (q1 := q)
      x iD (fun c => [(6, iD c)]) (fun c => decide (c ∈ l)) (fun c => pD (plc l c, plc l c)) (it_ev (d := dx) rfl hx) rfl fun c _ => ⟨rfl, ap2_ev rfl rfl (in' c), fun m => tup_ev (ds := [iD (plc l c), iD (plc l c)]) (sq_cons (ap2_ev rfl rfl (get_place (by simpa using m))) (sq_cons (ap2_ev rfl rfl (get_place (by simpa using m))) sq_nil))⟩
    rw [z]; unfold looseK; rw [List.map_map]; rfl
  · refine tup_ev (sq_cons rfl (sq_cons ?_ (sq_cons (ap_1 (ap1_ev (d := .list ((allK S x l).map tupOf)) rfl (srtSet_any _ allK_ne (allK_few h8))) rfl) sq_nil)))
    show some (PyData.int ((l.map iD).length : Nat), q) = _
    rw [List.length_map]
end Hd
namespace Hd
open PySem PySem.Spec PyProof.Rows Sd
theorem idx0 {l : List Int} {c : Int} (h : c ∈ l) : idxD (tpI l) (.int c) = some (iD (plc l c)) := idx_tI rfl h
theorem e37 {n : Int} {S : List (Int × Int)} {l x : List Int} {dx : D} (hx : items dx = some (x.map iD)) (h8 : l.length ≤ 8) (hf : S.length + x.length ≤ 1000000) (q : Pot) : s37 [dsp n S, tpI l, dx] q = some (aloneD S l x, q) := by
  refine def_rt (seq_n (set_ev (lcE_map S pD (fun z => [(4, iD z.1), (5, iD z.2)]) (fun z => decide (z.1 ∈ l) && decide (z.2 ∈ l)) (fun z => pD (plc l z.1, plc l z.2)) (it_ev (d := tpP S) rfl rfl) rfl fun z _ => ⟨rfl, and_b (ap2_ev rfl rfl (in0 z.1 l)) (ap2_ev rfl rfl (in0 z.2 l)), fun m => ?_⟩)) (ret_ev ?_))
  · simp only [Bool.and_eq_true, decide_eq_true_eq] at m
    exact tup_ev (ds := [iD (plc l z.1), iD (plc l z.2)]) (sq_cons (ap2_ev rfl rfl (idx0 m.1)) (sq_cons (ap2_ev rfl rfl (idx0 m.2)) sq_nil))
  · have z := lcE_map (own := [4]) (it := itE (vr 2)) (g := gN 4) (tt := ap2 (inG false) (vr 4) (vr 1)) (te := tupE [ap2 idxD (vr 1) (vr 4), ap2 idxD (vr 1) (vr 4)]) (ρ := ((startE 6 [dsp n S, tpI l, dx]).set 3 (some (false, .list ((S.filter fun z => decide (z.1 ∈ l) && decide (z.2 ∈ l)).map fun z => pD (plc l z.1, plc l z.2)))))) (q := q) (q1 := q)
      x iD (fun c => [(4, iD c)]) (fun c => decide (c ∈ l)) (fun c => pD (plc l c, plc l c)) (it_ev (d := dx) rfl hx) rfl fun c _ => ⟨rfl, ap2_ev rfl rfl (in0 c l), fun m => tup_ev (ds := [iD (plc l c), iD (plc l c)]) (sq_cons (ap2_ev rfl rfl (idx0 (by simpa using m))) (sq_cons (ap2_ev rfl rfl (idx0 (by simpa using m))) sq_nil))⟩
    refine tup_ev (sq_cons rfl (sq_cons (q1 := q) ?_ (sq_cons (ap_1 (ap1_ev (d := .list ((allK S x l).map tupOf)) (ap2_ev (q1 := q) (q2 := q) (d := .list ((pairsK S l).map pD)) (e1 := .list ((looseK x l).map pD)) ?_ ?_ (add_few hf)) (srtSet_any _ allK_ne (allK_few h8))) rfl) sq_nil)))
    · show some (PyData.int ((l.map iD).length : Nat), q) = _
      rw [List.length_map]
    · unfold pairsK; rw [List.map_map]; rfl
    · rw [z]; unfold looseK; rw [List.map_map]; rfl
/-! ### the rest -/
def openL (n : Int) (l st : List Int) : List Int := (Sd.upTo n).filter fun c => !decide (c ∈ l) && !decide (c ∈ st)
def looseL (l m st : List Int) : List Int := l.filter fun c => !decide (c ∈ m) && !decide (c ∈ st)
theorem openL_congr {n : Int} {l st st' : List Int} (h : ∀ c, c ∈ st ↔ c ∈ st') : openL n l st = openL n l st' := by
  unfold openL
  congr 1
  funext c
  rw [decide_eq_decide.mpr (h c)]
theorem looseL_congr {l m st st' : List Int} (h : ∀ c, c ∈ st ↔ c ∈ st') : looseL l m st = looseL l m st' := by
  unfold looseL
  congr 1
  funext c
  rw [decide_eq_decide.mpr (h c)]
def restD (n : Int) (S : List (Int × Int)) (l m : List Int) : D :=
  if openL n l (strL S m) = [] then .tuple [.none, .tuple []] else .tuple [aloneD S (openL n l (strL S m)) (strL S (looseL l m (strL S m))), tpI (openL n l (strL S m))]
theorem upTo_map (n : Int) : (Sd.upTo n).map iD = (List.range n.toNat).map fun i => (.int (i : Nat) : D) := by
  unfold Sd.upTo; rw [List.map_map]; rfl
theorem openL_few {n : Int} {l st : List Int} (h : n ≤ 8) : (openL n l st).length ≤ 8 := by
  have h1 := List.length_filter_le (fun c => !decide (c ∈ l) && !decide (c ∈ st)) (Sd.upTo n)
  rw [upTo_len] at h1
  unfold openL
  omega
theorem openL_nodup {n : Int} {l st : List Int} : (openL n l st).Nodup := (upTo_nodup n).filter _
theorem e27 {n : Int} {S : List (Int × Int)} {l m : List Int} (v : VD n S) (h8 : n ≤ 8) (q : Pot) : s27 [dsp n S, tpI l, tpI m] q = some (restD n S l m, q) := by
  have ms : ∀ c, c ∈ struck S m ↔ c ∈ strL S m := fun c => mem_struck
  have a1 : callE s21 [vr 0, vr 2] (startE 7 [dsp n S, tpI l, tpI m]) q = some (.list ((struck S m).map iD), q) := call_ev (ds := [dsp n S, tpI m]) (sq_cons rfl (sq_cons rfl sq_nil)) (e21 v m q)
  have n1 := v.n1
  have a2 : ap tupD [lcE [6] (rngE (ap2 ixD (vr 0) (cst (.int 1)))) (gN 6) (andE (ap2 (inG true) (vr 6) (vr 1)) (ap2 (inG true) (vr 6) (vr 3))) (vr 6)] ((startE 7 [dsp n S, tpI l, tpI m]).set 3 (some (false, .list ((struck S m).map iD)))) q = some (tpI (openL n l (struck S m)), q) := by
    refine ap_1 (lcE_map (Sd.upTo n) iD (fun c => [(6, iD c)]) (fun c => !decide (c ∈ l) && !decide (c ∈ struck S m)) iD (q1 := q) ?_ rfl fun c _ => ⟨rfl, and_b (ap2_ev rfl rfl (nin0 c l)) (ap2_ev rfl rfl (nin1 c (struck S m))), fun _ => rfl⟩) rfl
    rw [upTo_map]; exact rng_ev rfl (by omega)
  rw [openL_congr ms] at a2
  unfold restD
  generalize hC : openL n l (strL S m) = C at *
  by_cases ne : C = []
  · rw [if_pos ne]
    refine def_rt (seq_n (set_ev a1) (seq_n (set_ev a2) (seq_rt (if_tt (q1 := q) (ap2_ev (d := tpI C) (e1 := .tuple []) rfl rfl ?_) (ret_ev (tup_ev (ds := [.none, .tuple []]) (sq_cons rfl (sq_cons rfl sq_nil))))))))
    rw [eq_nil, ne]; rfl
  · rw [if_neg ne]
    have a3 : ap tupD [lcE [6] (itE (vr 1)) (gN 6) (andE (ap2 (inG true) (vr 6) (vr 2)) (ap2 (inG true) (vr 6) (vr 3))) (vr 6)] (((startE 7 [dsp n S, tpI l, tpI m]).set 3 (some (false, .list ((struck S m).map iD)))).set 4 (some (false, tpI C))) q = some (tpI (looseL l m (struck S m)), q) :=
      ap_1 (lcE_map l iD (fun c => [(6, iD c)]) (fun c => !decide (c ∈ m) && !decide (c ∈ struck S m)) iD (q1 := q) (it_ev (d := tpI l) rfl rfl) rfl fun c _ => ⟨rfl, and_b (ap2_ev rfl rfl (nin0 c m)) (ap2_ev rfl rfl (nin1 c (struck S m))), fun _ => rfl⟩) rfl
    rw [looseL_congr ms] at a3
    generalize looseL l m (strL S m) = Lo at *
    have f1 := v.few
    have f2 := struck_few v Lo
    have a4 := e26 (n := n) (S := S) (l := C) (x := struck S Lo) (dx := .list ((struck S Lo).map iD)) rfl ne (hC ▸ openL_nodup) (hC ▸ openL_few h8) (by omega) q
    rw [alone_congr (x' := strL S Lo) fun c => mem_struck] at a4
    refine def_rt (seq_n (set_ev a1) (seq_n (set_ev a2) (seq_n (if_ff (q1 := q) (ap2_ev (d := tpI C) (e1 := .tuple []) rfl rfl ?_) rfl) (seq_n (set_ev a3) (ret_ev (tup_ev (sq_cons (call_ev (ds := [dsp n S, tpI C, .list ((struck S Lo).map iD)]) (sq_cons rfl (sq_cons rfl (sq_cons (call_ev (ds := [dsp n S, tpI Lo]) (sq_cons rfl (sq_cons rfl sq_nil)) (e21 v Lo q)) sq_nil))) a4) (sq_cons rfl sq_nil))))))))
    rw [eq_nil]; simp [ne]
theorem e38 {n : Int} {S : List (Int × Int)} {l m : List Int} (v : VD n S) (h8 : n ≤ 8) (q : Pot) : s38 [dsp n S, tpI l, tpI m] q = some (restD n S l m, q) := by
  have n1 := v.n1
  have a1 : lcE [7, 8] (itE (ap2 ixD (vr 0) (cst (.int 2)))) (gT [gN 7, gN 8]) (ap2 (inG false) (vr 7) (vr 2)) (vr 8) (startE 9 [dsp n S, tpI l, tpI m]) q = some (.list ((strL S m).map iD), q) := by
    rw [lcE_map (q1 := q) S pD (fun z => [(7, iD z.1), (8, iD z.2)]) (fun z => decide (z.1 ∈ m)) (fun z => iD z.2) (it_ev (d := tpP S) rfl rfl) rfl fun z _ => ⟨rfl, ap2_ev rfl rfl (in0 z.1 m), fun _ => rfl⟩]
    unfold strL; rw [List.map_map]; rfl
  have a2 : ap tupD [lcE [7] (rngE (ap2 ixD (vr 0) (cst (.int 1)))) (gN 7) (andE (ap2 (inG true) (vr 7) (vr 1)) (ap2 (inG true) (vr 7) (vr 3))) (vr 7)] ((startE 9 [dsp n S, tpI l, tpI m]).set 3 (some (false, .list ((strL S m).map iD)))) q = some (tpI (openL n l (strL S m)), q) := by
    refine ap_1 (lcE_map (Sd.upTo n) iD (fun c => [(7, iD c)]) (fun c => !decide (c ∈ l) && !decide (c ∈ strL S m)) iD (q1 := q) ?_ rfl fun c _ => ⟨rfl, and_b (ap2_ev rfl rfl (nin0 c l)) (ap2_ev rfl rfl (nin1 c (strL S m))), fun _ => rfl⟩) rfl
    rw [upTo_map]; exact rng_ev rfl (by omega)
  unfold restD
  generalize hC : openL n l (strL S m) = C at *
  have a3 : lcE [7] (itE (vr 1)) (gN 7) (andE (ap2 (inG true) (vr 7) (vr 2)) (ap2 (inG true) (vr 7) (vr 3))) (vr 7) (((startE 9 [dsp n S, tpI l, tpI m]).set 3 (some (false, .list ((strL S m).map iD)))).set 4 (some (false, tpI C))) q = some (.list ((looseL l m (strL S m)).map iD), q) :=
    lcE_map l iD (fun c => [(7, iD c)]) (fun c => !decide (c ∈ m) && !decide (c ∈ strL S m)) iD (q1 := q) (it_ev (d := tpI l) rfl rfl) rfl fun c _ => ⟨rfl, and_b (ap2_ev rfl rfl (nin0 c m)) (ap2_ev rfl rfl (nin1 c (strL S m))), fun _ => rfl⟩
  generalize looseL l m (strL S m) = Lo at *
  have a4 : lcE [7, 8] (itE (ap2 ixD (vr 0) (cst (.int 2)))) (gT [gN 7, gN 8]) (ap2 (inG false) (vr 7) (vr 5)) (vr 8) ((((startE 9 [dsp n S, tpI l, tpI m]).set 3 (some (false, .list ((strL S m).map iD)))).set 4 (some (false, tpI C))).set 5 (some (false, .list (Lo.map iD)))) q = some (.list ((strL S Lo).map iD), q) := by
    rw [lcE_map (q1 := q) S pD (fun z => [(7, iD z.1), (8, iD z.2)]) (fun z => decide (z.1 ∈ Lo)) (fun z => iD z.2) (it_ev (d := tpP S) rfl rfl) rfl fun z _ => ⟨rfl, ap2_ev rfl rfl (in1 z.1 Lo), fun _ => rfl⟩]
    unfold strL; rw [List.map_map]; rfl
  refine def_rt (seq_n (set_ev a1) (seq_n (set_ev a2) (seq_n (set_ev a3) (seq_n (set_ev a4) (ret_ev ?_)))))
  by_cases ne : C = []
  · rw [if_pos ne]
    refine ite_t (q1 := q) (ap2_ev (d := tpI C) (e1 := .tuple []) rfl rfl ?_) (tup_ev (ds := [.none, .tuple []]) (sq_cons rfl (sq_cons rfl sq_nil)))
    rw [eq_nil, ne]; rfl
  · rw [if_neg ne]
    have f1 := v.few
    have f2 := strL_len S Lo
    have a5 := e37 (n := n) (S := S) (l := C) (x := strL S Lo) (dx := .list ((strL S Lo).map iD)) rfl (hC ▸ openL_few h8) (by omega) q
    refine ite_f (q1 := q) (ap2_ev (d := tpI C) (e1 := .tuple []) rfl rfl ?_) (tup_ev (sq_cons (call_ev (ds := [dsp n S, tpI C, .list ((strL S Lo).map iD)]) (sq_cons rfl (sq_cons rfl (sq_cons rfl sq_nil))) a5) (sq_cons rfl sq_nil)))
    rw [eq_nil]; simp [ne]
/-! ### the answers -/
theorem e28 {n : Int} {S : List (Int × Int)} {l m : List Int} (v : VD n S) (h : AV n S l) (hm : LV n m) (hs : ∀ x ∈ m, x ∈ l) (q : Pot) : s28 [dsp n S, tpI l, tpI m] q = some (.none, q) := by
  have hl := lcE_map (own := [3]) (g := gN 3) (tt := cst (.bool true)) (te := ap2 (inG false) (vr 3) (vr 1)) (it := itE (vr 2)) (ρ := startE 4 [dsp n S, tpI l, tpI m]) (q := q) (q1 := q) m iD (fun c => [(3, iD c)]) (fun _ => true) (fun c => .bool (decide (c ∈ l))) (it_ev (d := tpI m) rfl rfl) rfl
    fun c _ => ⟨rfl, rfl, fun _ => ap2_ev rfl rfl (in0 c l)⟩
  refine def_nx (seq_n (exp_ev (call_ev (ds := [dsp n S, tpI l]) (sq_cons rfl (sq_cons rfl sq_nil)) (e24 v h q))) (if_ff (or_ff (ap1_ev (call_ev (ds := [dsp n S, tpI m]) (sq_cons rfl (sq_cons rfl sq_nil)) (e17 hm q)) rfl) (ap1_ev (d := .bool true) (ap_1 hl ?_) rfl)) rfl))
  rw [List.filter_eq_self.mpr fun _ _ => rfl, all_map]
  rw [List.all_eq_true.mpr fun z hz => by simpa using hs z hz]
theorem e29 {n : Int} {S : List (Int × Int)} {l : List Int} (v : VD n S) (h8 : n ≤ 8) (h : AV n S l) (h9 : l.length ≤ 8) (q : Pot) : s29 [dsp n S, tpI l] q = some (aloneD S l [], q) := by
  have f1 := v.few
  exact def_rt (seq_n (exp_ev (call_ev (ds := [dsp n S, tpI l]) (sq_cons rfl (sq_cons rfl sq_nil)) (e24 v h q))) (ret_ev (call_ev (ds := [dsp n S, tpI l, .tuple []]) (sq_cons rfl (sq_cons rfl (sq_cons rfl sq_nil))) (e26 (x := []) rfl h.ne (h.pw.imp fun a e => by omega) h9 (by simp; omega) q))))
theorem e30 {n : Int} {S : List (Int × Int)} {l m : List Int} (v : VD n S) (h8 : n ≤ 8) (h : AV n S l) (hm : LV n m) (hs : ∀ x ∈ m, x ∈ l) (q : Pot) : s30 [dsp n S, tpI l, tpI m] q = some (restD n S l m, q) :=
  def_rt (seq_n (exp_ev (call_ev (ds := [dsp n S, tpI l, tpI m]) (sq_cons rfl (sq_cons rfl (sq_cons rfl sq_nil))) (e28 v h hm hs q))) (ret_ev (call_ev (ds := [dsp n S, tpI l, tpI m]) (sq_cons rfl (sq_cons rfl (sq_cons rfl sq_nil))) (e27 v h8 q))))
def hitB (S : List (Int × Int)) (l : List Int) : Bool := S.any fun z => decide (z.2 ∈ l)
theorem e31 {n k : Int} {S T : List (Int × Int)} {l : List Int} (v : VD n S) (h : AV n S l) (w : VD k T) (q : Pot) : s31 [dsp n S, tpI l, dsp k T] q = some (.bool (!hitB T l), q) := by
  have hl := lcE_map (own := [3, 4]) (g := gT [gN 3, gN 4]) (tt := cst (.bool true)) (te := ap2 (inG false) (vr 4) (vr 1)) (it := itE (ap2 ixD (vr 2) (cst (.int 2)))) (ρ := startE 5 [dsp n S, tpI l, dsp k T]) (q := q) (q1 := q) T pD (fun z => [(3, iD z.1), (4, iD z.2)]) (fun _ => true) (fun z => .bool (decide (z.2 ∈ l))) (it_ev (d := tpP T) rfl rfl) rfl
    fun z _ => ⟨rfl, rfl, fun _ => ap2_ev rfl rfl (in0 z.2 l)⟩
  refine def_rt (seq_n (exp_ev (call_ev (ds := [dsp n S, tpI l]) (sq_cons rfl (sq_cons rfl sq_nil)) (e24 v h q))) (seq_n (exp_ev (call_ev (ds := [dsp k T]) (sq_cons rfl sq_nil) (e19 w q))) (ret_ev (ap1_ev (d := .bool (hitB T l)) (ap_1 hl ?_) rfl))))
  rw [List.filter_eq_self.mpr fun _ _ => rfl, any_map]
  rfl
end Hd
/-! the plain law's kit: what draws is run with any drawn numbers -/
namespace Sd
open PySem PySem.Spec PyProof.Rows
def ES (e : Sd.Env → M D) (ρ : Sd.Env) (R : D → Prop) : Prop := ∀ q, PotOk' q → ∃ d q', e ρ q = some (d, q') ∧ PotOk' q' ∧ R d
def TS (e : Sd.Env → M D) (ρ : Sd.Env) : Prop := ES e ρ fun d => ∃ b, d = .bool b
def SS (s : SE) (ρ : Sd.Env) (R : Sd.Env → Prop) : Prop := ∀ q, PotOk' q → ∃ ρ' q', s ρ q = some ((.nx, ρ'), q') ∧ PotOk' q' ∧ R ρ'
/-- ends with a value -/
def RS (s : SE) (ρ : Sd.Env) (R : D → Prop) : Prop := ∀ q, PotOk' q → ∃ d ρ' q', s ρ q = some ((.rt d, ρ'), q') ∧ PotOk' q' ∧ R d
def FS (φ : List D → M D) (ds : List D) (R : D → Prop) : Prop := ∀ q, PotOk' q → ∃ d q', φ ds q = some (d, q') ∧ PotOk' q' ∧ R d
section
variable {e t a b : Sd.Env → M D} {f g s : SE} {ρ : Sd.Env} {R R' : D → Prop} {S S' : Sd.Env → Prop} {i n : Nat} {d : D} {ds : List D} {φ : List D → M D} {fs : List (Sd.Env → M D)}
theorem ES.imp (h : ES e ρ R) (z : ∀ d, R d → R' d) : ES e ρ R' := fun q hq => by
  obtain ⟨d, q', h1, h2, h3⟩ := h q hq
  exact ⟨d, q', h1, h2, z d h3⟩
theorem SS.imp (h : SS s ρ S) (z : ∀ d, S d → S' d) : SS s ρ S' := fun q hq => by
  obtain ⟨d, q', h1, h2, h3⟩ := h q hq
  exact ⟨d, q', h1, h2, z d h3⟩
theorem es_p (h : ∀ q, e ρ q = some (d, q)) (r : R d) : ES e ρ R := fun q hq => ⟨d, q, h q, hq, r⟩
theorem ts_p {c : Bool} (h : ∀ q, e ρ q = some (.bool c, q)) : TS e ρ := es_p h ⟨c, rfl⟩
theorem ts_and (h1 : TS a ρ) (h2 : TS b ρ) : TS (andE a b) ρ := fun q hq => by
  obtain ⟨d, q1, e1, k1, c, rfl⟩ := h1 q hq
  cases c with
  | true => obtain ⟨d, q2, e2, k2, z⟩ := h2 q1 k1; exact ⟨d, q2, and_tt e1 e2, k2, z⟩
  | false => exact ⟨_, q1, and_f e1, k1, false, rfl⟩
theorem ts_or (h1 : TS a ρ) (h2 : TS b ρ) : TS (orE a b) ρ := fun q hq => by
  obtain ⟨d, q1, e1, k1, c, rfl⟩ := h1 q hq
  cases c with
  | false => obtain ⟨d, q2, e2, k2, z⟩ := h2 q1 k1; exact ⟨d, q2, or_ff e1 e2, k2, z⟩
  | true => exact ⟨_, q1, or_t e1, k1, true, rfl⟩
theorem es_ap1 {h : D → Option D} (h1 : ES e ρ R') (h2 : ∀ d, R' d → ∃ c, h d = some c ∧ R c) : ES (ap1 h e) ρ R := fun q hq => by
  obtain ⟨d, q1, e1, k1, r⟩ := h1 q hq
  obtain ⟨c, e2, r2⟩ := h2 d r
  exact ⟨c, q1, ap1_ev e1 e2, k1, r2⟩
theorem ts_not (h1 : TS a ρ) : TS (ap1 notD a) ρ := es_ap1 h1 fun d ⟨c, e⟩ => by
  subst e
  exact ⟨_, rfl, _, rfl⟩
theorem es_ap2 {h : D → D → Option D} {R1 R2 : D → Prop} (h1 : ES a ρ R1) (h2 : ES b ρ R2) (h3 : ∀ d e, R1 d → R2 e → ∃ c, h d e = some c ∧ R c) : ES (ap2 h a b) ρ R := fun q hq => by
  obtain ⟨d, q1, e1, k1, r1⟩ := h1 q hq
  obtain ⟨d2, q2, e2, k2, r2⟩ := h2 q1 k1
  obtain ⟨c, e3, r3⟩ := h3 d d2 r1 r2
  exact ⟨c, q2, ap2_ev e1 e2 e3, k2, r3⟩
theorem es_ap {h : List D → Option D} (h1 : ES e ρ R') (h2 : ∀ d, R' d → ∃ c, h [d] = some c ∧ R c) : ES (ap h [e]) ρ R := fun q hq => by
  obtain ⟨d, q1, e1, k1, r⟩ := h1 q hq
  obtain ⟨c, e2, r2⟩ := h2 d r
  exact ⟨c, q1, ap_1 e1 e2, k1, r2⟩
theorem es_call (h1 : ∀ q, seqE fs ρ q = some (ds, q)) (h2 : FS φ ds R) : ES (callE φ fs) ρ R := fun q hq => by
  obtain ⟨d, q1, e1, k1, r⟩ := h2 q hq
  exact ⟨d, q1, call_ev (h1 q) e1, k1, r⟩
theorem fs_draw (A B C m : Int) (hm : 0 < m ∧ m < 1073741824) : FS (drawS A B C) [potD, .int m] fun d => ∃ r, d = .int r ∧ 0 ≤ r ∧ r < m := fun q hq => by
  obtain ⟨r, q', h1, h2, h3, h4⟩ := draw_ev A B C m hm hq
  exact ⟨_, q', h1, h4, r, rfl, h2, h3⟩
theorem ts_draw {A B C m k : Int} {ex : Sd.Env → M D} (hm : 0 < m ∧ m < 1073741824) (h0 : ∀ q, vr 0 ρ q = some (potD, q)) (h1 : ∀ q, ex ρ q = some (.int m, q)) : TS (ap2 eqD (callE (drawS A B C) [vr 0, ex]) (cst (.int k))) ρ :=
  es_ap2 (R2 := fun d => d = .int k) (es_call (ds := [potD, .int m]) (fun q => sq_cons (h0 q) (sq_cons (h1 q) sq_nil)) (fs_draw A B C m hm)) (es_p (fun _ => rfl) rfl) fun d e ⟨r, h, _⟩ h2 => by
    subst h; subst h2
    exact ⟨_, eq_i r k, _, rfl⟩
theorem es_draw {A B C m : Int} {ex : Sd.Env → M D} (hm : 0 < m ∧ m < 1073741824) (h0 : ∀ q, vr 0 ρ q = some (potD, q)) (h1 : ∀ q, ex ρ q = some (.int m, q)) : ES (callE (drawS A B C) [vr 0, ex]) ρ fun d => ∃ r, d = .int r ∧ 0 ≤ r ∧ r < m :=
  es_call (ds := [potD, .int m]) (fun q => sq_cons (h0 q) (sq_cons (h1 q) sq_nil)) (fs_draw A B C m hm)
theorem es_drawP {A B C m k : Int} {ex : Sd.Env → M D} (hm : 0 < m ∧ m < 1073741824) (h0 : ∀ q, vr 0 ρ q = some (potD, q)) (h1 : ∀ q, ex ρ q = some (.int m, q)) : ES (ap2 addD (cst (.int k)) (callE (drawS A B C) [vr 0, ex])) ρ fun d => ∃ r, d = .int r ∧ k ≤ r ∧ r < k + m :=
  es_ap2 (R1 := fun d => d = .int k) (es_p (fun _ => rfl) rfl) (es_draw hm h0 h1) fun d e h2 ⟨r, h, h3, h4⟩ => by
    subst h; subst h2
    exact ⟨_, rfl, k + r, rfl, by omega, by omega⟩
theorem ss_nil (h : S ρ) : SS nilS ρ S := fun q hq => ⟨ρ, q, rfl, hq, h⟩
theorem ss_seq (h1 : SS f ρ S) (h2 : ∀ ρ', S ρ' → SS g ρ' S') : SS (seqS f g) ρ S' := fun q hq => by
  obtain ⟨ρ1, q1, e1, k1, r1⟩ := h1 q hq
  obtain ⟨ρ2, q2, e2, k2, r2⟩ := h2 ρ1 r1 q1 k1
  exact ⟨ρ2, q2, seq_n e1 e2, k2, r2⟩
theorem rs_seq (h1 : SS f ρ S) (h2 : ∀ ρ', S ρ' → RS g ρ' R) : RS (seqS f g) ρ R := fun q hq => by
  obtain ⟨ρ1, q1, e1, k1, r1⟩ := h1 q hq
  obtain ⟨d, ρ2, q2, e2, k2, r2⟩ := h2 ρ1 r1 q1 k1
  exact ⟨d, ρ2, q2, seq_n e1 e2, k2, r2⟩
theorem rs_ret (h : ES e ρ R) : RS (retS e) ρ R := fun q hq => by
  obtain ⟨d, q1, e1, k1, r⟩ := h q hq
  exact ⟨d, ρ, q1, ret_ev e1, k1, r⟩
theorem fs_def (h : RS f (startE n ds) R) : FS (defM n f) ds R := fun q hq => by
  obtain ⟨d, ρ', q1, e1, k1, r⟩ := h q hq
  exact ⟨d, q1, def_rt e1, k1, r⟩
theorem ss_set (h : ES e ρ R) (z : ∀ d, R d → S (ρ.set i (some (false, d)))) : SS (setS i e) ρ S := fun q hq => by
  obtain ⟨d, q1, e1, k1, r⟩ := h q hq
  exact ⟨_, q1, set_ev e1, k1, z d r⟩
theorem ss_if (h : TS t ρ) (h1 : SS f ρ S) (h2 : SS g ρ S) : SS (ifS t f g) ρ S := fun q hq => by
  obtain ⟨d, q1, e1, k1, c, rfl⟩ := h q hq
  cases c with
  | true => obtain ⟨ρ', q2, e2, k2, r⟩ := h1 q1 k1; exact ⟨ρ', q2, if_tt e1 e2, k2, r⟩
  | false => obtain ⟨ρ', q2, e2, k2, r⟩ := h2 q1 k1; exact ⟨ρ', q2, if_ff e1 e2, k2, r⟩
theorem ss_ifF (h : ∀ q, t ρ q = some (.bool false, q)) (h2 : SS g ρ S) : SS (ifS t f g) ρ S := fun q hq => by
  obtain ⟨ρ', q2, e2, k2, r⟩ := h2 q hq; exact ⟨ρ', q2, if_ff (h q) e2, k2, r⟩
/-- two names at once -/
theorem ss_par2 {i j : Nat} {ba bb : Bool} {R1 R2 : D → Prop} (hi : i < ρ.length) (hj : j < ρ.length) (h1 : ES a ρ R1) (h2 : ES b ρ R2) (n1 : ba = true → ∀ d, R1 d → isLD d = true) (n2 : bb = true → ∀ d, R2 d → isLD d = true) (z : ∀ d e, R1 d → R2 e → S ((ρ.set i (some (ba, d))).set j (some (bb, e)))) : SS (parS [i, j] [(ba, a), (bb, b)]) ρ S := fun q hq => by
  obtain ⟨d, q1, e1, k1, r1⟩ := h1 q hq
  obtain ⟨d2, q2, e2, k2, r2⟩ := h2 q1 k1
  refine ⟨_, q2, ?_, k2, z d d2 r1 r2⟩
  show (if ([i, j].all fun i => decide (i < ρ.length)) = true then _ else _ : M (Fl × Sd.Env)) q = _
  rw [if_pos (by simp [hi, hj])]
  have s2 : seqB [(bb, b)] ρ q1 = some ([(bb, d2)], q2) := by
    refine bind2 e2 ?_
    rw [if_neg (by rintro ⟨x, y⟩; rw [n2 x d2 r2] at y; cases y)]
    rfl
  have s1 : seqB [(ba, a), (bb, b)] ρ q = some ([(ba, d), (bb, d2)], q2) := by
    refine bind2 e1 ?_
    rw [if_neg (by rintro ⟨x, y⟩; rw [n1 x d r1] at y; cases y)]
    exact bind2 s2 rfl
  exact bind2 s1 rfl
theorem forGo_ss {g : Gd} {body : SE} {I : Nat → Sd.Env → Prop} : ∀ (xs : List D) (i : Nat) (ρ : Sd.Env), I i ρ → (∀ j x, xs[j]? = some x → ∀ ρ, I (i + j) ρ → ∃ as, g x = some as ∧ SS body (sets ρ (as.map (·.1)) (cl as)) (I (i + j + 1))) → SS (forGo g body xs) ρ (I (i + xs.length))
  | [], i, ρ, h, _ => fun q hq => ⟨ρ, q, rfl, hq, h⟩
  | x :: xs, i, ρ, h, st => fun q hq => by
    obtain ⟨as, e0, k⟩ := st 0 x rfl ρ h
    obtain ⟨ρ1, q1, e1, k1, r1⟩ := k q hq
    obtain ⟨ρ2, q2, e2, k2, r2⟩ := forGo_ss xs (i + 1) ρ1 r1 (fun j y hy ρ hi => by
      have z := st (j + 1) y hy ρ (by rw [show i + (j + 1) = i + 1 + j by omega]; exact hi)
      rw [show i + (j + 1) + 1 = i + 1 + j + 1 by omega] at z
      exact z) q1 k1
    rw [show i + 1 + xs.length = i + (x :: xs).length by rw [List.length_cons]; omega] at r2
    exact ⟨ρ2, q2, bind2 (of_eq e0) (bind2 e1 e2), k2, r2⟩
/-- for x in range(n) -/
theorem ss_range {g : Gd} {body : SE} {ex : Sd.Env → M D} {m : Int} (I : Nat → Sd.Env → Prop) (hx : ∀ q, ex ρ q = some (.int m, q)) (hm : -1000000 ≤ m ∧ m ≤ 1000000) (h0 : I 0 ρ) (st : ∀ j : Nat, j < m.toNat → ∀ ρ, I j ρ → ∃ as, g (.int (j : Nat)) = some as ∧ SS body (sets ρ (as.map (·.1)) (cl as)) (I (j + 1))) : SS (forS (rngE ex) g body) ρ (I m.toNat) := fun q hq => by
  have k := forGo_ss (g := g) (body := body) (I := I) ((List.range m.toNat).map fun i => (.int (i : Nat) : D)) 0 ρ h0 fun j x hj ρ hi => by
    rw [List.getElem?_map] at hj
    cases e : (List.range m.toNat)[j]? with
    | none => rw [e] at hj; cases hj
    | some y =>
      rw [e] at hj; cases hj
      obtain ⟨h1, h2⟩ := List.getElem?_eq_some_iff.mp e
      rw [List.getElem_range] at h2
      subst h2
      rw [List.length_range] at h1
      rw [Nat.zero_add] at hi ⊢
      exact st j h1 ρ hi
  rw [List.length_map, List.length_range, Nat.zero_add] at k
  obtain ⟨ρ2, q2, e2, k2, r2⟩ := k q hq
  exact ⟨ρ2, q2, bind2 (rng_ev (hx q) hm) e2, k2, r2⟩
theorem ss_app {i : Nat} {ds : List D} (h : ∀ q, e ρ q = some (d, q)) (hi : ρ[i]? = some (some (true, .list ds))) (hl : ds.length < 1000000) (z : S (ρ.set i (some (true, .list (ds ++ [d]))))) : SS (bldS i appH e) ρ S := fun q hq => by
  refine ⟨_, q, ?_, hq, z⟩
  refine bind2 (h q) ?_
  rw [hi]
  show (if _ then _ else _ : M (Fl × Sd.Env)) q = _
  rw [if_pos (by rw [List.length_append]; exact hl)]
  rfl
theorem ss_ext {i : Nat} {ds xs : List D} (h : ∀ q, e ρ q = some (.list xs, q)) (hi : ρ[i]? = some (some (true, .list ds))) (hl : ds.length + xs.length ≤ 1000000) (z : S (ρ.set i (some (true, .list (ds ++ xs))))) : SS (bldS i extL e) ρ S := fun q hq => by
  refine ⟨_, q, ?_, hq, z⟩
  refine bind2 (h q) ?_
  rw [hi]
  show (if _ then _ else _ : M (Fl × Sd.Env)) q = _
  rw [if_pos (by rw [List.length_append]; exact hl)]
  rfl
end
theorem keyP_le {z w : Int × Int} (h : ltP z w) : keyP z ≤ keyP w := by
  refine List.le_of_lt ?_
  show [z.1, z.2] < [w.1, w.2]
  rw [List.cons_lt_cons_iff]
  rcases h with h | ⟨h1, h2⟩
  · exact .inl h
  · exact .inr ⟨h1, by rw [List.cons_lt_cons_iff]; exact .inl h2⟩
theorem sortK_id {F : List (Int × Int)} (h : F.Pairwise ltP) : sortK (F.map keyP) = F.map keyP :=
  List.Perm.eq_of_pairwise (le := (· ≤ ·)) (fun _ _ _ _ h1 h2 => List.le_antisymm h1 h2) (sortK_pw _) (by
    rw [List.pairwise_map]
    exact h.imp keyP_le) (sortK_perm _)
theorem sorted_pairs {F : List (Int × Int)} (h : F.Pairwise ltP) : sortedD [.list (F.map pD)] = some (.list (F.map pD)) := by
  rw [pD_map, sorted_tups _ fun k hk => by
    obtain ⟨z, _, e⟩ := List.mem_map.mp hk
    rw [← e]; exact List.cons_ne_nil _ _, sortK_id h]
theorem okS_ints (l : List Int) : okS (l.map iD) = true := by
  unfold okS alikeB sortB
  simp only [Bool.and_eq_true]
  refine ⟨?_, ?_, ?_, ?_⟩
  · rw [List.all_eq_true]; intro d hd
    rw [List.all_eq_true]; intro e he
    obtain ⟨a, _, rfl⟩ := List.mem_map.mp hd
    obtain ⟨b, _, rfl⟩ := List.mem_map.mp he
    simp only [PySem.W.alike]
  · rw [Bool.or_eq_true]; right
    rw [List.all_eq_true]; intro d hd
    obtain ⟨a, _, rfl⟩ := List.mem_map.mp hd
    rfl
  · exact nod_ints l
  · rw [List.all_eq_true]; intro d hd
    obtain ⟨a, _, rfl⟩ := List.mem_map.mp hd
    simp [PyData.depth]
theorem leS_int (a b : Int) : leS (iD a) (iD b) = decide (a ≤ b) := by
  show (!PySem.W.dataLt (.int b) (.int a)) = _
  have e : PySem.W.dataLt (.int b) (.int a) = decide (b < a) := by exact PySem.W.dataLt_int b a
  rw [e]
  by_cases c : a ≤ b
  · have : ¬ b < a := by omega
    simp [c, this]
  · have : b < a := by omega
    simp [c, this]
theorem sorted_ints (l : List Int) : sortedD [.list (l.map iD)] = some (.list ((sortI l).map iD)) := by
  show (if okS (l.map iD) = true then some (PyData.list (srt (l.map iD))) else none) = _
  rw [if_pos (okS_ints l)]
  unfold srt sortI
  rw [List.map_mergeSort fun a _ b _ => (leS_int a b).symm]
theorem sortI_lt {l : List Int} (h : l.Nodup) : (sortI l).Pairwise (· < ·) := by
  have h1 := sortI_pw l
  have h2 : (sortI l).Nodup := (sortI_perm l).nodup_iff.mpr h
  exact List.Pairwise.imp₂ (fun a b h1 h2 => by have h2 : a ≠ b := h2; omega) h1 h2
end Sd
namespace Hd
open PySem PySem.Spec PyProof.Rows Sd
abbrev dE (m n r : Int) (fl : Bool) (F : List (Int × Int)) (o6 o7 : Option (Bool × D)) : Sd.Env := [some (false, potD), some (false, .int m), some (false, .int n), some (false, .int r), some (false, .bool fl), some (true, .list (F.map pD)), o6, o7]
/-- what is found before (a, b) -/
structure Fd (n a b : Int) (F : List (Int × Int)) : Prop where
  rng : ∀ z ∈ F, 0 ≤ z.1 ∧ z.1 < n ∧ 0 ≤ z.2 ∧ z.2 < n
  pw : F.Pairwise ltP
  bef : ∀ z ∈ F, ltP z (a, b)
theorem Fd.next {n a b : Int} {F : List (Int × Int)} (h : Fd n a b F) : Fd n a (b + 1) F := ⟨h.rng, h.pw, fun z hz => by
  have := h.bef z hz
  unfold ltP at *
  dsimp only at *
  omega⟩
theorem Fd.line {n a b : Int} {F : List (Int × Int)} (h : Fd n a b F) : Fd n (a + 1) 0 F := ⟨h.rng, h.pw, fun z hz => by
  have := h.bef z hz
  unfold ltP at *
  dsimp only at *
  omega⟩
theorem Fd.app {n a b : Int} {F : List (Int × Int)} (h : Fd n a b F) (ha : 0 ≤ a ∧ a < n) (hb : 0 ≤ b ∧ b < n) : Fd n a (b + 1) (F ++ [(a, b)]) := by
  refine ⟨fun z hz => ?_, ?_, fun z hz => ?_⟩
  · rcases List.mem_append.mp hz with c | c
    · exact h.rng z c
    · rw [List.mem_singleton.mp c]; exact ⟨ha.1, ha.2, hb.1, hb.2⟩
  · rw [List.pairwise_append]
    refine ⟨h.pw, by simp, fun z hz w hw => ?_⟩
    rw [List.mem_singleton.mp hw]; exact h.bef z hz
  · rcases List.mem_append.mp hz with c | c
    · exact h.next.bef z c
    · rw [List.mem_singleton.mp c]; exact .inr ⟨rfl, by show b < b + 1; omega⟩
theorem Fd.few {n a b : Int} {F : List (Int × Int)} (h : Fd n a b F) (hn : n ≤ 10) : F.length ≤ 100 := by
  have z := few_pairs h.pw h.rng
  have h2 : n.toNat ≤ 10 := by omega
  have := Nat.mul_le_mul h2 h2
  omega
theorem e35 {m : Int} (hm : 1 ≤ m ∧ m ≤ 10) : FS s35 [potD, .int m] fun d => ∃ n S, d = dsp n S ∧ VD n S ∧ n ≤ m := by
  refine fs_def ?_
  refine rs_seq (S := fun ρ => ∃ n r, ρ = [some (false, potD), some (false, .int m), some (false, .int n), some (false, .int r), none, none, none, none] ∧ (1 ≤ n ∧ n ≤ m) ∧ 2 ≤ r ∧ r ≤ 5) (ss_par2 (show 2 < 8 by decide) (show 3 < 8 by decide) (es_drawP (m := m) (by omega) (fun _ => rfl) fun _ => rfl) (es_drawP (m := 4) (by omega) (fun _ => rfl) fun _ => rfl) (fun z => by cases z) (fun z => by cases z) ?_) ?_
  · rintro d e ⟨n, rfl, h1, h2⟩ ⟨r, rfl, h3, h4⟩
    exact ⟨n, r, rfl, by omega, by omega, by omega⟩
  rintro _ ⟨n, r, rfl, hn, hr⟩
  refine rs_seq (S := fun ρ => ∃ fl, ρ = dE m n r fl [] none none) (ss_par2 (show 4 < 8 by decide) (show 5 < 8 by decide) (ts_draw (m := 3) (by omega) (fun _ => rfl) fun _ => rfl) (es_p (R := fun d => d = .list []) (fun _ => rfl) rfl) (fun z => by cases z) (fun _ d h => by subst h; rfl) ?_) ?_
  · rintro d e ⟨fl, rfl⟩ rfl
    exact ⟨fl, rfl⟩
  rintro _ ⟨fl, rfl⟩
  have inner : ∀ (a b : Int) (F : List (Int × Int)) , 0 ≤ a ∧ a < n → 0 ≤ b ∧ b < n → Fd n a b F → SS (ifS (andE (ap2 eqD (callE s34 [vr 0, vr 3]) (cst (.int 0))) (orE (ap2 neD (vr 6) (vr 7)) (ap2 eqD (callE s34 [vr 0, cst (.int 2)]) (cst (.int 0))))) (ifS (orE (ap1 notD (vr 4)) (orE (ap2 ltD (vr 6) (vr 7)) (ap2 eqD (callE s34 [vr 0, cst (.int 4)]) (cst (.int 0))))) (bldS 5 appH (tupE [vr 6, vr 7])) (nilS)) (nilS))
      (dE m n r fl F (some (false, .int a)) (some (false, .int b))) fun ρ => ∃ F', ρ = dE m n r fl F' (some (false, .int a)) (some (false, .int b)) ∧ Fd n a (b + 1) F' := fun a b F ha hb h => by
    refine ss_if (ts_and (ts_draw (m := r) (by omega) (fun _ => rfl) fun _ => rfl) (ts_or (ts_p (c := !decide (a = b)) fun q => ap2_ev (d := .int a) (e1 := .int b) rfl rfl (ne_i a b)) (ts_draw (m := 2) (by omega) (fun _ => rfl) fun _ => rfl))) (ss_if (ts_or (ts_p (c := !fl) fun q => rfl) (ts_or (ts_p (c := decide (a < b)) fun q => rfl) (ts_draw (m := 4) (by omega) (fun _ => rfl) fun _ => rfl))) ?_ (ss_nil ⟨F, rfl, h.next⟩)) (ss_nil ⟨F, rfl, h.next⟩)
    refine ss_app (d := pD (a, b)) (ds := F.map pD) (fun q => rfl) rfl ?_ ⟨F ++ [(a, b)], ?_, h.app ha hb⟩
    · rw [List.length_map]
      have := h.few (by omega)
      omega
    · show [_, _, _, _, _, _, _, _] = dE m n r fl _ _ _
      unfold dE
      rw [List.map_append]; rfl
  refine rs_seq (ss_range (m := n) (fun i ρ => ∃ F o6 o7, ρ = dE m n r fl F o6 o7 ∧ Fd n i 0 F) (fun _ => rfl) (by omega) ⟨[], none, none, rfl, fun _ z => (by cases z), .nil, fun _ z => (by cases z)⟩ ?_) ?_
  · rintro a ha _ ⟨F, o6, o7, rfl, hF⟩
    refine ⟨_, rfl, ?_⟩
    refine (ss_range (ρ := dE m n r fl F (some (false, .int a)) o7) (m := n) (fun i ρ => ∃ F o7, ρ = dE m n r fl F (some (false, .int a)) o7 ∧ Fd n a i F) (fun _ => rfl) (by omega) ⟨F, o7, rfl, hF⟩ ?_).imp ?_
    · rintro b hb _ ⟨F, o7, rfl, hF⟩
      refine ⟨_, rfl, (inner a b F (by omega) (by omega) hF).imp ?_⟩
      rintro _ ⟨F', rfl, h⟩
      exact ⟨F', _, rfl, h⟩
    · rintro _ ⟨F, o7, rfl, h⟩
      exact ⟨F, _, o7, rfl, h.line⟩
  · rintro _ ⟨F, o6, o7, rfl, hF⟩
    refine rs_ret (es_p (d := dsp n F) (fun q => tup_ev (sq_cons rfl (sq_cons rfl (sq_cons (ap_1 (d := .list (F.map pD)) (ap_1 (d := .list (F.map pD)) rfl (sorted_pairs hF.pw)) rfl) sq_nil)))) ⟨n, F, rfl, ⟨hn.1, by omega, hF.rng, hF.pw⟩, hn.2⟩)
end Hd
namespace Hd
open PySem PySem.Spec PyProof.Rows Sd
def preL (S : List (Int × Int)) (F : List Int) : List Int := (S.filter fun z => decide (z.2 ∈ F)).map (·.1)
theorem mem_preL {S : List (Int × Int)} {F : List Int} {x : Int} : x ∈ preL S F ↔ ∃ z ∈ S, z.2 ∈ F ∧ z.1 = x := by
  unfold preL
  rw [List.mem_map]
  constructor
  · rintro ⟨z, hz, e⟩
    obtain ⟨h1, h2⟩ := List.mem_filter.mp hz
    exact ⟨z, h1, by simpa using h2, e⟩
  · rintro ⟨z, h1, h2, e⟩
    exact ⟨z, List.mem_filter.mpr ⟨h1, by simpa using h2⟩, e⟩
def newL (S : List (Int × Int)) (F : List Int) : List Int := (sortI (dedI (preL S F))).filter fun x => !decide (x ∈ F)
theorem mem_newL {S : List (Int × Int)} {F : List Int} {x : Int} : x ∈ newL S F ↔ (∃ z ∈ S, z.2 ∈ F ∧ z.1 = x) ∧ x ∉ F := by
  unfold newL
  rw [List.mem_filter, (sortI_perm _).mem_iff, mem_dedI, mem_preL]
  simp
def clo (S : List (Int × Int)) (F : List Int) : Prop := ∀ z ∈ S, z.2 ∈ F → z.1 ∈ F
structure Bs (n : Int) (S : List (Int × Int)) (c : Int) (i : Nat) (F : List Int) : Prop where
  nd : F.Nodup
  rng : ∀ x ∈ F, 0 ≤ x ∧ x < n
  c : c ∈ F
  ok : clo S F ∨ i + 1 ≤ F.length
theorem Bs.len {n : Int} {S : List (Int × Int)} {c : Int} {i : Nat} {F : List Int} (h : Bs n S c i F) : F.length ≤ n.toNat := by
  rw [← upTo_len]
  exact nodup_sub h.nd fun x hx => Sd.mem_upTo.mpr (h.rng x hx)
theorem Bs.step {n : Int} {S : List (Int × Int)} {c : Int} {i : Nat} {F : List Int} (v : VD n S) (h : Bs n S c i F) : Bs n S c (i + 1) (F ++ newL S F) := by
  refine ⟨?_, fun x hx => ?_, List.mem_append_left _ h.c, ?_⟩
  · rw [List.nodup_append]
    refine ⟨h.nd, ((sortI_perm _).nodup_iff.mpr (nodup_dedI _)).filter _, fun x hx y hy e => ?_⟩
    subst e
    exact (mem_newL.mp hy).2 hx
  · rcases List.mem_append.mp hx with k | k
    · exact h.rng x k
    · obtain ⟨⟨z, h1, h2, rfl⟩, _⟩ := mem_newL.mp k
      have := v.rng z h1
      omega
  · by_cases k : clo S F
    · left
      have e : newL S F = [] := List.eq_nil_iff_forall_not_mem.mpr fun x hx => by
        obtain ⟨⟨z, h1, h2, rfl⟩, h3⟩ := mem_newL.mp hx
        exact h3 (k z h1 h2)
      rw [e, List.append_nil]; exact k
    · right
      have hl := h.ok.resolve_left k
      have hn : 0 < (newL S F).length := by
        unfold clo at k
        simp only [Classical.not_forall] at k
        obtain ⟨z, h1, h2, h3⟩ := k
        exact List.length_pos_of_mem (mem_newL.mpr ⟨⟨z, h1, h2, rfl⟩, h3⟩)
      rw [List.length_append]
      omega
abbrev bE (n : Int) (S : List (Int × Int)) (c : Int) (F : List Int) (o3 o4 o5 o6 : Option (Bool × D)) : Sd.Env := [some (false, dsp n S), some (false, .int c), some (true, .list (F.map iD)), o3, o4, o5, o6]
theorem e36 {n : Int} {S : List (Int × Int)} {c : Int} (v : VD n S) (hc : 0 ≤ c ∧ c < n) : FS s36 [dsp n S, .int c] fun d => ∃ l, d = tpI l ∧ AV n S l := by
  have n1 := v.n1
  have n10 := v.n10
  refine fs_def ?_
  refine rs_seq (S := fun ρ => ρ = bE n S c [c] none none none none) (fun q hq => ⟨_, q, rfl, hq, rfl⟩) ?_
  rintro _ rfl
  refine rs_seq (ss_range (m := n) (fun i ρ => ∃ F o3 o4 o5 o6, ρ = bE n S c F o3 o4 o5 o6 ∧ Bs n S c i F) (fun _ => rfl) (by omega) ⟨[c], none, none, none, none, rfl, by simp, fun x hx => by rw [List.mem_singleton.mp hx]; exact hc, List.mem_singleton.mpr rfl, .inr (Nat.le_refl _)⟩ ?_) ?_
  · rintro i hi _ ⟨F, o3, o4, o5, o6, rfl, hF⟩
    refine ⟨_, rfl, ?_⟩
    have f1 := hF.len
    have f2 := hF.step v
    have f3 := f2.len
    rw [List.length_append] at f3
    refine ss_ext (ds := F.map iD) (xs := (newL S F).map iD) (fun q => ?_) rfl (by rw [List.length_map, List.length_map]; omega) ⟨F ++ newL S F, some (false, .int (i : Nat)), o4, o5, o6, ?_, f2⟩
    · refine lcE_map (q1 := q) (sortI (dedI (preL S F))) iD (fun x => [(4, iD x)]) (fun x => !decide (x ∈ F)) iD (it_ev (d := .list ((sortI (dedI (preL S F))).map iD)) (ap1_ev (d := .list ((preL S F).map iD)) ?_ ?_) rfl) rfl fun x _ => ⟨rfl, ap2_ev rfl rfl (nin1 x F), fun _ => rfl⟩
      · have z := lcE_map (own := [5, 6]) (it := itE (ap2 ixD (vr 0) (cst (.int 2)))) (g := gT [gN 5, gN 6]) (tt := ap2 (inG false) (vr 6) (vrC 2)) (te := vr 5) (ρ := bE n S c F (some (false, .int i)) o4 o5 o6) (q := q) (q1 := q) S pD (fun z => [(5, iD z.1), (6, iD z.2)]) (fun z => decide (z.2 ∈ F)) (fun z => iD z.1) (it_ev (d := tpP S) rfl rfl) rfl
          fun z _ => ⟨rfl, ap2_ev rfl rfl (in1 z.2 F), fun _ => rfl⟩
        refine z.trans ?_
        unfold preL; rw [List.map_map]; rfl
      · have g1 : (preL S F).length ≤ S.length := by unfold preL; rw [List.length_map]; exact List.length_filter_le _ _
        have g2 := v.few
        have g3 := few_in (l := preL S F) (n := n) fun x hx => by
          obtain ⟨z, h1, _, rfl⟩ := mem_preL.mp hx
          have := v.rng z h1
          omega
        exact srtSet_ints _ (by omega) (by omega)
    · show [_, _, _, _, _, _, _] = bE n S c _ _ _ _ _
      unfold bE
      rw [List.map_append]
  · rintro _ ⟨F, o3, o4, o5, o6, rfl, hF⟩
    have cl : clo S F := hF.ok.resolve_right (by have := hF.len; omega)
    have mm : ∀ x, x ∈ sortI F ↔ x ∈ F := fun x => (sortI_perm F).mem_iff
    refine rs_ret (es_p (d := tpI (sortI F)) (fun q => ap_1 (ap_1 (d := .list (F.map iD)) rfl (sorted_ints F)) rfl) ⟨_, rfl, ⟨⟨fun x hx => hF.rng x ((mm x).mp hx), sortI_lt hF.nd⟩, fun e => ?_, fun z hz h2 => (mm _).mpr (cl z hz ((mm _).mp h2))⟩⟩)
    have := (mm c).mpr hF.c
    rw [e] at this; cases this
end Hd
/-! the plain law's kit: comprehensions with draws, what can be shown -/
namespace Sd
open PySem PySem.Spec PyProof.Rows
section
variable {e t a b te tt : Sd.Env → M D} {g : Gd} {own : List Nat} {it : IE} {ρ : Sd.Env} {R R' : D → Prop} {d : D} {φ : List D → M D}
theorem es_call2 (h1 : ∀ q, a ρ q = some (d, q)) (h2 : ES b ρ R') (h3 : ∀ c, R' c → FS φ [d, c] R) : ES (callE φ [a, b]) ρ R := fun q hq => by
  obtain ⟨c, q1, e1, k1, r⟩ := h2 q hq
  obtain ⟨x, q2, e2, k2, r2⟩ := h3 c r q1 k1
  exact ⟨x, q2, call_ev (sq_cons (h1 q) (sq_cons e1 sq_nil)) e2, k2, r2⟩
theorem lcGo_all : ∀ xs : List D, (∀ x ∈ xs, ∃ as, g x = some as ∧ ES te (sets (wipeD ρ own) (as.map (·.1)) (cl as)) R) → ∀ q, PotOk' q → ∃ ys q', lcGo own g (cst (.bool true)) te ρ xs q = some (ys, q') ∧ PotOk' q' ∧ ys.length = xs.length ∧ ∀ y ∈ ys, R y
  | [], _, q, hq => ⟨[], q, rfl, hq, rfl, fun _ z => by cases z⟩
  | x :: xs, h, q, hq => by
    obtain ⟨as, e0, k⟩ := h x List.mem_cons_self
    obtain ⟨y, q1, e1, k1, r⟩ := k q hq
    obtain ⟨ys, q2, e2, k2, hl, r2⟩ := lcGo_all xs (fun z hz => h z (List.mem_cons_of_mem _ hz)) q1 k1
    refine ⟨y :: ys, q2, lcGo_yes e0 rfl e1 e2, k2, by rw [List.length_cons, List.length_cons, hl], fun z hz => ?_⟩
    rcases List.mem_cons.mp hz with c | c
    · rw [c]; exact r
    · exact r2 z c
theorem es_lc {I : List D → Prop} (hit : ∀ q, PotOk' q → ∃ xs q', it ρ q = some (xs, q') ∧ PotOk' q' ∧ I xs) (hown : own.all (fun i => decide (i < ρ.length)) = true) (h : ∀ xs, I xs → ∀ x ∈ xs, ∃ as, g x = some as ∧ ES te (sets (wipeD ρ own) (as.map (·.1)) (cl as)) R) : ES (lcE own it g (cst (.bool true)) te) ρ fun d => ∃ xs ys, d = .list ys ∧ I xs ∧ ys.length = xs.length ∧ ∀ y ∈ ys, R y := fun q hq => by
  obtain ⟨xs, q1, e1, k1, hI⟩ := hit q hq
  obtain ⟨ys, q2, e2, k2, hl, r⟩ := lcGo_all xs (h xs hI) q1 k1
  exact ⟨_, q2, lcE_of e1 hown e2, k2, xs, ys, rfl, hI, hl, r⟩
theorem it_range {ex : Sd.Env → M D} {lo hi : Int} (h : ES ex ρ fun d => ∃ r, d = .int r ∧ lo ≤ r ∧ r < hi) (hh : -1000000 ≤ lo ∧ hi ≤ 1000000) : ∀ q, PotOk' q → ∃ xs q', rngE ex ρ q = some (xs, q') ∧ PotOk' q' ∧ ∃ r, lo ≤ r ∧ r < hi ∧ xs = (List.range r.toNat).map fun i => .int (i : Nat) := fun q hq => by
  obtain ⟨d, q1, e1, k1, r, rfl, h1, h2⟩ := h q hq
  exact ⟨_, q1, rng_ev e1 (by omega), k1, r, h1, h2, rfl⟩
theorem lcGo_subs {α : Type} (e : α → D) (as : α → List (Nat × D)) (y : α → D) : ∀ L : List α, (∀ x ∈ L, g (e x) = some (as x) ∧ TS tt (sets (wipeD ρ own) ((as x).map (·.1)) (cl (as x))) ∧ ∀ q, te (sets (wipeD ρ own) ((as x).map (·.1)) (cl (as x))) q = some (y x, q)) → ∀ q, PotOk' q → ∃ sub q', lcGo own g tt te ρ (L.map e) q = some (sub.map y, q') ∧ PotOk' q' ∧ List.Sublist sub L
  | [], _, q, hq => ⟨[], q, rfl, hq, .slnil⟩
  | x :: L, h, q, hq => by
    obtain ⟨e0, k, ht⟩ := h x List.mem_cons_self
    obtain ⟨_, q1, e1, k1, c, rfl⟩ := k q hq
    obtain ⟨sub, q2, e2, k2, r2⟩ := lcGo_subs e as y L (fun z hz => h z (List.mem_cons_of_mem _ hz)) q1 k1
    cases c with
    | true => exact ⟨x :: sub, q2, lcGo_yes e0 e1 (ht q1) e2, k2, r2.cons₂ x⟩
    | false => exact ⟨sub, q2, lcGo_no e0 e1 e2, k2, r2.cons x⟩
theorem es_lcF {α : Type} (L : List α) (e : α → D) (as : α → List (Nat × D)) (y : α → D) (hit : ∀ q, it ρ q = some (L.map e, q)) (hown : own.all (fun i => decide (i < ρ.length)) = true) (h : ∀ x ∈ L, g (e x) = some (as x) ∧ TS tt (sets (wipeD ρ own) ((as x).map (·.1)) (cl (as x))) ∧ ∀ q, te (sets (wipeD ρ own) ((as x).map (·.1)) (cl (as x))) q = some (y x, q)) : ES (lcE own it g tt te) ρ fun d => ∃ sub, d = .list (sub.map y) ∧ List.Sublist sub L := fun q hq => by
  obtain ⟨sub, q2, e2, k2, r⟩ := lcGo_subs e as y L h q hq
  exact ⟨_, q2, lcE_of (hit q) hown e2, k2, sub, rfl, r⟩
theorem pick {α : Type} {f : α → D} {P : α → Prop} : ∀ {ys : List D}, (∀ y ∈ ys, ∃ l, y = f l ∧ P l) → ∃ L : List α, ys = L.map f ∧ ∀ l ∈ L, P l
  | [], _ => ⟨[], rfl, fun _ z => by cases z⟩
  | y :: ys, h => by
    obtain ⟨l, rfl, h1⟩ := h y List.mem_cons_self
    obtain ⟨L, rfl, h2⟩ := pick (ys := ys) fun z hz => h z (List.mem_cons_of_mem _ hz)
    refine ⟨l :: L, rfl, fun z hz => ?_⟩
    rcases List.mem_cons.mp hz with c | c
    · rw [c]; exact h1
    · exact h2 z c
theorem listsOf_map : ∀ L : List (List Int), listsOf (L.map fun l => (.list (l.map iD) : D)) = some (L.map fun l => l.map iD)
  | [] => rfl
  | l :: L => by show (listsOf (L.map fun l => (.list (l.map iD) : D))).map (_ :: ·) = _; rw [listsOf_map L]; rfl
theorem sum_lists (L : List (List Int)) (h : L.flatten.length ≤ 1000000) : sumLD [.list (L.map fun l => .list (l.map iD)), .list []] = some (.list (L.flatten.map iD)) := by
  unfold sumLD
  simp only [listsOf_map]
  have e : (L.map fun l => l.map iD).flatten = L.flatten.map iD := by rw [List.map_flatten]
  rw [e, if_pos (by rw [List.length_map]; exact h)]
end
/-! ### what can be shown -/
def SDn (k w : Nat) (d : D) : Prop := sm d = true ∧ d.depth ≤ k ∧ wt d ≤ w
theorem SDn.imp {k w k' w' : Nat} {d : D} (h : SDn k w d) (h1 : k ≤ k') (h2 : w ≤ w') : SDn k' w' d := ⟨h.1, Nat.le_trans h.2.1 h1, Nat.le_trans h.2.2 h2⟩
theorem SDn.sd {k w : Nat} {d : D} (h : SDn k w d) (h1 : k ≤ 10) (h2 : w ≤ 100000) : SD d := ⟨h.1, Nat.le_trans h.2.1 h1, Nat.le_trans h.2.2 h2⟩
theorem sd_tuple {k w m : Nat} {ds : List D} (h : ∀ d ∈ ds, SDn k w d) (hm : ds.length ≤ m) : SDn (k + 1) (m * (w + 2) + 4) (.tuple ds) := by
  refine ⟨?_, ?_, ?_⟩
  · simp only [sm]; exact smL_mem.mpr fun d hd => (h d hd).1
  · simp only [PyData.depth]
    have := depthAll_le fun d hd => (h d hd).2.1
    omega
  · simp only [wt]
    have := wtL_le fun d hd => (h d hd).2.2
    have := Nat.mul_le_mul_right (w + 2) hm
    omega
theorem sd_list {k w m : Nat} {ds : List D} (h : ∀ d ∈ ds, SDn k w d) (hm : ds.length ≤ m) : SDn (k + 1) (m * (w + 2) + 4) (.list ds) := by
  refine ⟨?_, ?_, ?_⟩
  · simp only [sm]; exact smL_mem.mpr fun d hd => (h d hd).1
  · simp only [PyData.depth]
    have := depthAll_le fun d hd => (h d hd).2.1
    omega
  · simp only [wt]
    have := wtL_le fun d hd => (h d hd).2.2
    have := Nat.mul_le_mul_right (w + 2) hm
    omega
theorem sd_i {i : Int} (h : i.natAbs < 200) : SDn 0 5 (.int i) := ⟨by simpa [sm] using h, by simp [PyData.depth], by simp [wt]⟩
theorem sd_none : SDn 0 5 .none := ⟨rfl, by simp [PyData.depth], by simp [wt]⟩
theorem sd_bool (b : Bool) : SDn 0 5 (.bool b) := ⟨rfl, by simp [PyData.depth], by simp [wt]⟩
theorem sd_str {x : Str} (h : sm (.str x) = true) : SDn 0 30 (.str x) := ⟨h, by simp [PyData.depth], by simp [wt]⟩
theorem sd_tpI {l : List Int} {m : Nat} (h : ∀ x ∈ l, x.natAbs < 200) (hm : l.length ≤ m) : SDn 1 (m * 7 + 4) (tpI l) :=
  sd_tuple (fun d hd => by
    obtain ⟨x, hx, rfl⟩ := List.mem_map.mp hd
    exact sd_i (h x hx)) (by rw [List.length_map]; exact hm)
/-- two shows of the same -/
theorem ne_repr {f g : Sd.Env → M D} {ρ : Sd.Env} {q q1 : Pot} {d : D} (h : SD d) (hl : okR.isLT d = true) (h1 : f ρ q = some (d, q1)) (h2 : g ρ q1 = some (d, q1)) : ap2 neD (ap reprD [f]) (ap reprD [g]) ρ q = some (.bool false, q1) :=
  ap2_ev (ap_1 h1 (repr_ev h hl)) (ap_1 h2 (repr_ev h hl)) (ne_str (shaped_shown h))
theorem eq_repr {f g : Sd.Env → M D} {ρ : Sd.Env} {q q1 : Pot} {d : D} (h : SD d) (hl : okR.isLT d = true) (h1 : f ρ q = some (d, q1)) (h2 : g ρ q1 = some (d, q1)) : ap2 eqD (ap reprD [f]) (ap reprD [g]) ρ q = some (.bool true, q1) :=
  ap2_ev (ap_1 h1 (repr_ev h hl)) (ap_1 h2 (repr_ev h hl)) (eq_str (shaped_shown h))
end Sd
namespace Hd
open PySem PySem.Spec PyProof.Rows Sd
theorem sm_disp : sm (.str "dispute") = true := by decide +kernel
theorem sd_dsp {n : Int} {S : List (Int × Int)} (v : VD n S) : SDn 3 6022 (dsp n S) := by
  have n1 := v.n1
  have n10 := v.n10
  have h : SDn 2 (100 * 20 + 4) (tpP S) := sd_tuple (k := 1) (w := 18) (fun d hd => by
    obtain ⟨z, hz, rfl⟩ := List.mem_map.mp hd
    have := v.rng z hz
    exact sd_tpI (l := [z.1, z.2]) (m := 2) (fun x hx => by
      rcases List.mem_cons.mp hx with e | e
      · rw [e]; omega
      · rw [List.mem_singleton.mp e]; omega) (by simp)) (by rw [List.length_map]; exact v.few)
  refine sd_tuple (k := 2) (w := 2004) (m := 3) (fun d hd => ?_) (by simp)
  rcases List.mem_cons.mp hd with e | hd
  · rw [e]; exact (sd_str sm_disp).imp (by omega) (by omega)
  rcases List.mem_cons.mp hd with e | hd
  · rw [e]; exact (sd_i (by omega)).imp (by omega) (by omega)
  · rw [List.mem_singleton.mp hd]; exact h
theorem sd_alone {S : List (Int × Int)} {l x : List Int} (h8 : l.length ≤ 8) : SDn 3 6022 (aloneD S l x) := by
  have h : SDn 2 (100 * 20 + 4) (.tuple ((sortK (ded (allK S x l))).map tupOf)) := sd_tuple (k := 1) (w := 18) (fun d hd => by
    obtain ⟨k, hk, rfl⟩ := List.mem_map.mp hd
    rw [(sortK_perm _).mem_iff, mem_ded, mem_allK] at hk
    have key : ∃ a b : Int, (0 ≤ a ∧ a < 8) ∧ (0 ≤ b ∧ b < 8) ∧ k = [a, b] := by
      rcases hk with ⟨z, _, h1, h2, e⟩ | ⟨c, _, h1, e⟩
      · have p1 := plc_lt h1
        have p2 := plc_lt h2
        exact ⟨_, _, by omega, by omega, e⟩
      · have p1 := plc_lt h1
        exact ⟨_, _, by omega, by omega, e⟩
    obtain ⟨a, b, ha, hb, rfl⟩ := key
    exact sd_tpI (l := [a, b]) (m := 2) (fun x hx => by
      rcases List.mem_cons.mp hx with e | e
      · rw [e]; omega
      · rw [List.mem_singleton.mp e]; omega) (by simp)) (by
      rw [List.length_map, (sortK_perm _).length_eq]
      have := allK_few (S := S) (x := x) h8
      omega)
  refine sd_tuple (k := 2) (w := 2004) (m := 3) (fun d hd => ?_) (by simp)
  rcases List.mem_cons.mp hd with e | hd
  · rw [e]; exact (sd_str sm_disp).imp (by omega) (by omega)
  rcases List.mem_cons.mp hd with e | hd
  · rw [e]; exact (sd_i (by omega)).imp (by omega) (by omega)
  · rw [List.mem_singleton.mp hd]; exact h
theorem sd_no : SDn 4 12052 (.tuple [.none, .tuple []]) := by
  refine (sd_tuple (k := 1) (w := 5) (m := 2) (fun d hd => ?_) (by simp)).imp (by omega) (by omega)
  rcases List.mem_cons.mp hd with e | hd
  · rw [e]; exact sd_none.imp (by omega) (by omega)
  · rw [List.mem_singleton.mp hd]
    exact (sd_tpI (l := []) (m := 0) (fun x hx => by cases hx) (by simp)).imp (by omega) (by omega)
theorem sd_rest {n : Int} {S : List (Int × Int)} {l m : List Int} (h8 : n ≤ 8) : SDn 4 12052 (restD n S l m) := by
  unfold restD
  by_cases ne : openL n l (strL S m) = []
  · rw [if_pos ne]; exact sd_no
  · rw [if_neg ne]
    refine sd_tuple (k := 3) (w := 6022) (m := 2) (fun d hd => ?_) (by simp)
    rcases List.mem_cons.mp hd with e | hd
    · rw [e]; exact sd_alone (openL_few h8)
    · rw [List.mem_singleton.mp hd]
      refine (sd_tpI (m := 8) (fun x hx => ?_) (openL_few h8)).imp (by omega) (by omega)
      unfold openL at hx
      have := Sd.mem_upTo.mp (List.mem_filter.mp hx).1
      omega
theorem sd_two {k w : Nat} {d e : D} (h : SDn k w d) (h' : SDn k w e) (hk : k ≤ 9) (hw : w ≤ 20000) : SD (.list [d, e]) :=
  (sd_list (k := k) (w := w) (m := 2) (fun x hx => by
    rcases List.mem_cons.mp hx with c | hx
    · rw [c]; exact h
    · rw [List.mem_singleton.mp hx]; exact h') (by simp)).sd (by omega) (by omega)
/-! ### lots that stand ahead, together -/
theorem LV.len {n : Int} {l : List Int} (h : LV n l) : l.length ≤ n.toNat := by
  rw [← upTo_len]
  exact nodup_sub (h.pw.imp fun a e => by omega) fun x hx => Sd.mem_upTo.mpr (h.rng x hx)
theorem flat_len {k : Nat} : ∀ L : List (List Int), (∀ l ∈ L, l.length ≤ k) → L.flatten.length ≤ L.length * k
  | [], _ => by simp
  | l :: L, h => by
    rw [List.flatten_cons, List.length_append, List.length_cons, Nat.add_mul]
    have h1 := h l List.mem_cons_self
    have h2 := flat_len L fun z hz => h z (List.mem_cons_of_mem _ hz)
    omega
theorem av_all {n : Int} {S : List (Int × Int)} {L : List (List Int)} (hL : L ≠ []) (h : ∀ l ∈ L, AV n S l) : AV n S (sortI (dedI L.flatten)) := by
  have mm : ∀ x, x ∈ sortI (dedI L.flatten) ↔ ∃ l ∈ L, x ∈ l := fun x => by
    rw [(sortI_perm _).mem_iff, mem_dedI, List.mem_flatten]
  refine ⟨⟨fun x hx => ?_, sortI_lt (nodup_dedI _)⟩, fun e => ?_, fun z hz h2 => ?_⟩
  · obtain ⟨l, h1, h2⟩ := (mm x).mp hx
    exact (h l h1).rng x h2
  · cases L with
    | nil => exact hL rfl
    | cons l L =>
      have hl := h l List.mem_cons_self
      cases l with
      | nil => exact hl.ne rfl
      | cons x r =>
        have := (mm x).mpr ⟨_, List.mem_cons_self, List.mem_cons_self⟩
        rw [e] at this; cases this
  · obtain ⟨l, h1, h3⟩ := (mm _).mp h2
    exact (mm _).mpr ⟨l, h1, (h l h1).cl z hz h3⟩
theorem av_upTo {n : Int} {S : List (Int × Int)} (v : VD n S) : AV n S (Sd.upTo n) := by
  refine ⟨⟨fun x hx => Sd.mem_upTo.mp hx, upTo_pw n⟩, fun e => ?_, fun z hz _ => Sd.mem_upTo.mpr ?_⟩
  · have h := upTo_len n
    rw [e] at h
    have := v.n1
    simp at h
    omega
  · have := v.rng z hz; omega
/-- the whole stands for itself -/
theorem plc_upTo {n c : Int} (h : 0 ≤ c ∧ c < n) : plc (Sd.upTo n) c = c := by
  have nd := upTo_nodup n
  have hc : c.toNat < (Sd.upTo n).length := by rw [upTo_len]; omega
  have e : (Sd.upTo n)[c.toNat] = c := by
    show ((List.range n.toNat).map fun i : Nat => (i : Int))[c.toNat]'(by rw [List.length_map, List.length_range]; omega) = c
    rw [List.getElem_map, List.getElem_range]
    omega
  unfold plc
  have z := nd.idxOf_getElem c.toNat hc
  rw [e] at z
  rw [z]; omega
theorem alone_all {n : Int} {S : List (Int × Int)} (v : VD n S) : aloneD S (Sd.upTo n) [] = dsp n S := by
  have e1 : allK S [] (Sd.upTo n) = S.map keyP := by
    unfold allK looseK pairsK
    rw [List.filter_nil, List.map_nil, List.append_nil]
    have f1 : (S.filter fun z => decide (z.1 ∈ Sd.upTo n) && decide (z.2 ∈ Sd.upTo n)) = S := List.filter_eq_self.mpr fun z hz => by
      have := v.rng z hz
      simp [Sd.mem_upTo, this.1, this.2.1, this.2.2.1, this.2.2.2]
    rw [f1, List.map_map]
    refine List.map_congr_left fun z hz => ?_
    have := v.rng z hz
    show keyP (plc _ z.1, plc _ z.2) = _
    rw [plc_upTo ⟨this.1, this.2.1⟩, plc_upTo ⟨this.2.2.1, this.2.2.2⟩]
  unfold aloneD
  rw [e1, upTo_len]
  have nd : (S.map keyP).Nodup := by
    unfold List.Nodup
    rw [List.pairwise_map]
    exact v.pw.imp fun {a b} h e => by
      unfold keyP at e
      unfold ltP at h
      simp only [List.cons.injEq, and_true] at e
      omega
  have e2 : sortK (ded (S.map keyP)) = S.map keyP := (sortK_of_perm (perm_of_mem (nodup_ded _) nd fun x => mem_ded)).trans (sortK_id v.pw)
  rw [e2, ← pD_map]
  have := v.n1
  have e3 : ((n.toNat : Nat) : Int) = n := by omega
  rw [e3]
theorem rest_all {n : Int} {S : List (Int × Int)} (m : List Int) : restD n S (Sd.upTo n) m = .tuple [.none, .tuple []] := by
  unfold restD
  have e : openL n (Sd.upTo n) (strL S m) = [] := by
    unfold openL
    rw [List.filter_eq_nil_iff]
    intro x hx
    simp [hx]
  rw [if_pos e]
end Hd
namespace Hd
open PySem PySem.Spec PyProof.Rows Sd
abbrev O := Option (Bool × D)
abbrev mE (n : Int) (S : List (Int × Int)) (o3 o4 o5 o6 o7 o8 o9 o10 o11 o12 o13 o14 : O) : Sd.Env := [some (false, potD), some (false, dsp n S), some (false, .str (dsp n S).shown), o3, o4, o5, o6, o7, o8, o9, o10, o11, o12, o13, o14]
def Tn (n : Int) (S : List (Int × Int)) (ρ : Sd.Env) : Prop := ∃ o3 o4 o5 o6 o7 o8 o9 o10 o11 o12 o13 o14, ρ = mE n S o3 o4 o5 o6 o7 o8 o9 o10 o11 o12 o13 o14
theorem cut2 (n : Int) (S : List (Int × Int)) (x : D) : slD (dsp n S) none (some 2) = some (.tuple [.str "dispute", .int n]) := rfl
theorem turn {n : Int} {S : List (Int × Int)} (v : VD n S) (h8 : n ≤ 8) (o3 o4 o5 o6 o7 o8 o9 o10 o11 o12 o13 o14 : O) : SS (seqS (setS 5 (lcE [11] (rngE (ap2 addD (cst (.int 1)) (callE s34 [vr 0, cst (.int 3)]))) (gN 11) (cst (.bool true)) (callE s36 [vr 1, callE s34 [vr 0, ap2 ixD (vr 1) (cst (.int 1))]]))) (seqS (setS 5 (ap tupD [ap1 srtSetD (ap sumLD [lcE [6] (itE (vr 5)) (gN 6) (cst (.bool true)) (ap listD [vr 6]), lstE []])])) (seqS (setS 6 (ap tupD [lcE [12] (itE (vr 5)) (gN 12) (ap2 eqD (callE s34 [vr 0, cst (.int 2)]) (cst (.int 0))) (vr 12)])) (seqS (parS [7, 8] [(false, callE s37 [vr 1, vr 5, lstE []]), (false, callE s38 [vr 1, vr 5, vr 6])]) (seqS (ifS (ap2 neD (ap reprD [lstE [callE s29 [vr 1, vr 5], callE (fun ds => s29 (permL [1, 0] ds)) [vr 5, vr 1]]]) (ap reprD [lstE [vr 7, vr 7]])) (retS (cst (.bool false))) (nilS)) (seqS (ifS (ap2 neD (ap reprD [lstE [callE s30 [vr 1, vr 5, vr 6], callE (fun ds => s30 (permL [2, 1, 0] ds)) [vr 6, vr 5, vr 1]]]) (ap reprD [lstE [vr 8, vr 8]])) (retS (cst (.bool false))) (nilS)) (seqS (setS 9 (callE s35 [vr 0, cst (.int 10)])) (seqS (ifS (ap2 eqD (callE s34 [vr 0, cst (.int 2)]) (cst (.int 0))) (setS 9 (ap2 addD (sliE (vr 9) (noO) (soO (cst (.int 2)))) (tupE [ap tupD [lcE [14] (itE (ap2 ixD (vr 9) (cst (.int 2)))) (gN 14) (ap2 (inG true) (ap2 ixD (vr 14) (cst (.int 1))) (vr 5)) (vr 14)]]))) (nilS)) (seqS (setS 10 (ap1 notD (ap anyD [lcE [12, 13] (itE (ap2 ixD (vr 9) (cst (.int 2)))) (gT [gN 12, gN 13]) (cst (.bool true)) (ap2 (inG false) (vr 13) (vr 5))]))) (ifS (ap2 neD (ap reprD [lstE [callE s31 [vr 1, vr 5, vr 9], callE (fun ds => s31 (permL [2, 1, 0] ds)) [vr 9, vr 5, vr 1]]]) (ap reprD [lstE [vr 10, vr 10]])) (retS (cst (.bool false))) (nilS))))))))))) (mE n S o3 o4 o5 o6 o7 o8 o9 o10 o11 o12 o13 o14) (Tn n S) := by
  have n1 := v.n1
  -- the lots
  refine ss_seq (S := fun ρ => ∃ L : List (List Int), ρ = mE n S o3 o4 (some (false, .list (L.map tpI))) o6 o7 o8 o9 o10 o11 o12 o13 o14 ∧ (1 ≤ L.length ∧ L.length ≤ 3) ∧ ∀ l ∈ L, AV n S l) (ss_set (es_lc (R := fun d => ∃ l, d = tpI l ∧ AV n S l) (it_range (lo := 1) (hi := 1 + 3) (es_drawP (m := 3) (k := 1) (by omega) (fun _ => rfl) fun _ => rfl) (by omega)) rfl ?_) ?_) ?_
  · rintro xs ⟨r, h1, h2, rfl⟩ x hx
    exact ⟨_, rfl, es_call2 (fun _ => rfl) (es_draw (m := n) (by omega) (fun _ => rfl) fun _ => rfl) fun c ⟨k, e, h3, h4⟩ => by
      subst e
      exact e36 v ⟨h3, h4⟩⟩
  · rintro d ⟨xs, ys, rfl, ⟨r, h1, h2, rfl⟩, hl, hy⟩
    obtain ⟨L, rfl, hL⟩ := pick hy
    rw [List.length_map, List.length_map, List.length_range] at hl
    exact ⟨L, rfl, by omega, hL⟩
  rintro _ ⟨L, rfl, hl, hL⟩
  -- together
  have hlen : ∀ l ∈ L, l.length ≤ 8 := fun l h => by
    have := (hL l h).toLV.len
    omega
  have hfl : L.flatten.length ≤ 24 := by
    have h1 := flat_len L hlen
    have h2 := Nat.mul_le_mul_right 8 hl.2
    omega
  have av := av_all (n := n) (S := S) (L := L) (fun e => by rw [e] at hl; simp at hl) hL
  refine ss_seq (S := fun ρ => ρ = mE n S o3 o4 (some (false, tpI (sortI (dedI L.flatten)))) o6 o7 o8 o9 o10 o11 o12 o13 o14) (ss_set (es_p (R := fun d => d = tpI (sortI (dedI L.flatten))) (fun q => ?_) rfl) ?_) ?_
  · refine ap_1 (d := .list ((sortI (dedI L.flatten)).map iD)) (ap1_ev (d := .list (L.flatten.map iD)) (ap_ev (ds := [.list (L.map fun l => .list (l.map iD)), .list []]) (sq_cons ?_ (sq_cons rfl sq_nil)) (sum_lists L (by omega))) (srtSet_ints _ (by omega) ?_)) rfl
    · have z := lcE_map (own := [6]) (it := itE (vr 5)) (g := gN 6) (tt := cst (.bool true)) (te := ap listD [vr 6]) (ρ := mE n S o3 o4 (some (false, .list (L.map tpI))) o6 o7 o8 o9 o10 o11 o12 o13 o14) (q := q) (q1 := q) L tpI (fun l => [(6, tpI l)]) (fun _ => true) (fun l => .list (l.map iD)) (it_ev (d := .list (L.map tpI)) rfl rfl) rfl fun l _ => ⟨rfl, rfl, fun _ => ap_1 (d := tpI l) rfl rfl⟩
      rw [List.filter_eq_self.mpr fun _ _ => rfl] at z
      exact z
    · have h1 := few_in (l := L.flatten) (n := n) fun x hx => by
        obtain ⟨l, h1, h2⟩ := List.mem_flatten.mp hx
        exact (hL l h1).rng x h2
      omega
  · rintro d rfl; rfl
  rintro _ rfl
  generalize sortI (dedI L.flatten) = l at av
  clear hL hlen hfl hl
  clear L
  have l8 : l.length ≤ 8 := by
    have := av.toLV.len
    omega
  -- a part of it
  refine ss_seq (S := fun ρ => ∃ m, ρ = mE n S o3 o4 (some (false, tpI l)) (some (false, tpI m)) o7 o8 o9 o10 o11 o12 o13 o14 ∧ LV n m ∧ ∀ x ∈ m, x ∈ l) (ss_set (es_ap (R := fun d => ∃ m, d = tpI m ∧ List.Sublist m l) (es_lcF l iD (fun c => [(12, iD c)]) iD (fun q => it_ev (d := tpI l) rfl rfl) rfl fun c _ => ⟨rfl, ts_draw (m := 2) (by omega) (fun _ => rfl) fun _ => rfl, fun _ => rfl⟩) fun d ⟨sub, e, h⟩ => ⟨tpI sub, by subst e; rfl, sub, rfl, h⟩) ?_) ?_
  · rintro d ⟨m, rfl, h⟩
    exact ⟨m, rfl, ⟨fun x hx => av.rng x (h.subset hx), av.pw.sublist h⟩, fun x hx => h.subset hx⟩
  rintro _ ⟨m, rfl, hm, hs⟩
  -- what is due
  have f1 := v.few
  refine ss_seq (S := fun ρ => ρ = mE n S o3 o4 (some (false, tpI l)) (some (false, tpI m)) (some (false, aloneD S l [])) (some (false, restD n S l m)) o9 o10 o11 o12 o13 o14) (ss_par2 (show 7 < 15 by decide) (show 8 < 15 by decide) (es_p (R := fun d => d = aloneD S l []) (fun q => call_ev (ds := [dsp n S, tpI l, .list []]) (sq_cons rfl (sq_cons rfl (sq_cons rfl sq_nil))) (e37 (x := []) rfl l8 (by simp; omega) q)) rfl)
    (es_p (R := fun d => d = restD n S l m) (fun q => call_ev (ds := [dsp n S, tpI l, tpI m]) (sq_cons rfl (sq_cons rfl (sq_cons rfl sq_nil))) (e38 v h8 q)) rfl) (fun z => by cases z) (fun z => by cases z) ?_) ?_
  · rintro d e rfl rfl; rfl
  rintro _ rfl
  generalize hA : aloneD S l [] = A at *
  generalize hR : restD n S l m = Rr at *
  have sA : SDn 3 6022 A := hA ▸ sd_alone l8
  have sR : SDn 4 12052 Rr := hR ▸ sd_rest h8
  have c29 : ∀ q, s29 [dsp n S, tpI l] q = some (A, q) := fun q => by rw [← hA]; exact e29 v h8 av l8 q
  have c30 : ∀ q, s30 [dsp n S, tpI l, tpI m] q = some (Rr, q) := fun q => by rw [← hR]; exact e30 v h8 av hm hs q
  refine ss_seq (S := fun ρ => ρ = mE n S o3 o4 (some (false, tpI l)) (some (false, tpI m)) (some (false, A)) (some (false, Rr)) o9 o10 o11 o12 o13 o14) (ss_ifF (fun q => ne_repr (d := .list [A, A]) (sd_two sA sA (by omega) (by omega)) rfl (lst_ev (sq_cons (call_ev (ds := [dsp n S, tpI l]) (sq_cons rfl (sq_cons rfl sq_nil)) (c29 q)) (sq_cons (call_ev (ds := [tpI l, dsp n S]) (sq_cons rfl (sq_cons rfl sq_nil)) (c29 q)) sq_nil))) (lst_ev (sq_cons rfl (sq_cons rfl sq_nil)))) (ss_nil rfl)) ?_
  rintro _ rfl
  refine ss_seq (S := fun ρ => ρ = mE n S o3 o4 (some (false, tpI l)) (some (false, tpI m)) (some (false, A)) (some (false, Rr)) o9 o10 o11 o12 o13 o14) (ss_ifF (fun q => ne_repr (d := .list [Rr, Rr]) (sd_two sR sR (by omega) (by omega)) rfl (lst_ev (sq_cons (call_ev (ds := [dsp n S, tpI l, tpI m]) (sq_cons rfl (sq_cons rfl (sq_cons rfl sq_nil))) (c30 q)) (sq_cons (call_ev (ds := [tpI m, tpI l, dsp n S]) (sq_cons rfl (sq_cons rfl (sq_cons rfl sq_nil))) (c30 q)) sq_nil))) (lst_ev (sq_cons rfl (sq_cons rfl sq_nil)))) (ss_nil rfl)) ?_
  rintro _ rfl
  -- one dispute more
  refine ss_seq (S := fun ρ => ∃ k T, ρ = mE n S o3 o4 (some (false, tpI l)) (some (false, tpI m)) (some (false, A)) (some (false, Rr)) (some (false, dsp k T)) o10 o11 o12 o13 o14 ∧ VD k T) (ss_set (es_call (ds := [potD, .int 10]) (fun q => sq_cons rfl (sq_cons rfl sq_nil)) (e35 (m := 10) (by omega))) ?_) ?_
  · rintro d ⟨k, T, rfl, w, _⟩
    exact ⟨k, T, rfl, w⟩
  rintro _ ⟨k, T, rfl, w⟩
  refine ss_seq (S := fun ρ => ∃ k T, ρ = mE n S o3 o4 (some (false, tpI l)) (some (false, tpI m)) (some (false, A)) (some (false, Rr)) (some (false, dsp k T)) o10 o11 o12 o13 o14 ∧ VD k T) (ss_if (ts_draw (m := 2) (by omega) (fun _ => rfl) fun _ => rfl) (ss_set (es_p (R := fun d => d = dsp k (T.filter fun z => !decide (z.2 ∈ l))) (fun q => ?_) rfl) ?_) (ss_nil ⟨k, T, rfl, w⟩)) ?_
  · have z := lcE_map (own := [14]) (it := itE (ap2 ixD (vr 9) (cst (.int 2)))) (g := gN 14) (tt := ap2 (inG true) (ap2 ixD (vr 14) (cst (.int 1))) (vr 5)) (te := vr 14) (ρ := mE n S o3 o4 (some (false, tpI l)) (some (false, tpI m)) (some (false, A)) (some (false, Rr)) (some (false, dsp k T)) o10 o11 o12 o13 o14) (q := q) (q1 := q) T pD (fun z => [(14, pD z)]) (fun z => !decide (z.2 ∈ l)) pD (it_ev (d := tpP T) rfl rfl) rfl fun z _ => ⟨rfl, ap2_ev (d := .int z.2) rfl rfl (nin0 z.2 l), fun _ => rfl⟩
    exact ap2_ev (q1 := q) (q2 := q) (d := .tuple [.str "dispute", .int k]) (e1 := .tuple [tpP (T.filter fun z => !decide (z.2 ∈ l))]) rfl (tup_ev (sq_cons (ap_1 z rfl) sq_nil)) rfl
  · rintro d rfl
    exact ⟨k, _, rfl, w.n1, w.n10, fun z hz => w.rng z (List.mem_filter.mp hz).1, w.pw.filter _⟩
  clear w
  clear k T
  rintro _ ⟨k, T, rfl, w⟩
  -- told
  refine ss_seq (S := fun ρ => ρ = mE n S o3 o4 (some (false, tpI l)) (some (false, tpI m)) (some (false, A)) (some (false, Rr)) (some (false, dsp k T)) (some (false, .bool (!hitB T l))) o11 o12 o13 o14) (ss_set (es_p (R := fun d => d = .bool (!hitB T l)) (fun q => ?_) rfl) ?_) ?_
  · have z := lcE_map (own := [12, 13]) (it := itE (ap2 ixD (vr 9) (cst (.int 2)))) (g := gT [gN 12, gN 13]) (tt := cst (.bool true)) (te := ap2 (inG false) (vr 13) (vr 5)) (ρ := mE n S o3 o4 (some (false, tpI l)) (some (false, tpI m)) (some (false, A)) (some (false, Rr)) (some (false, dsp k T)) o10 o11 o12 o13 o14) (q := q) (q1 := q) T pD (fun z => [(12, iD z.1), (13, iD z.2)]) (fun _ => true) (fun z => .bool (decide (z.2 ∈ l))) (it_ev (d := tpP T) rfl rfl) rfl fun z _ => ⟨rfl, rfl, fun _ => ap2_ev rfl rfl (in0 z.2 l)⟩
    refine ap1_ev (d := .bool (hitB T l)) (ap_1 z ?_) rfl
    rw [List.filter_eq_self.mpr fun _ _ => rfl, any_map]
    rfl
  · rintro d rfl; rfl
  rintro _ rfl
  generalize hB : (!hitB T l) = bb at *
  have c31 : ∀ q, s31 [dsp n S, tpI l, dsp k T] q = some (.bool bb, q) := fun q => by rw [← hB]; exact e31 v av w q
  exact ss_ifF (fun q => ne_repr (d := .list [.bool bb, .bool bb]) (sd_two (sd_bool bb) (sd_bool bb) (by omega) (by omega)) rfl (lst_ev (sq_cons (call_ev (ds := [dsp n S, tpI l, dsp k T]) (sq_cons rfl (sq_cons rfl (sq_cons rfl sq_nil))) (c31 q)) (sq_cons (call_ev (ds := [dsp k T, tpI l, dsp n S]) (sq_cons rfl (sq_cons rfl (sq_cons rfl sq_nil))) (c31 q)) sq_nil))) (lst_ev (sq_cons rfl (sq_cons rfl sq_nil)))) (ss_nil ⟨_, _, _, _, _, _, _, _, _, _, _, _, rfl⟩)
end Hd
namespace Hd
open PySem PySem.Spec PyProof.Rows Sd
theorem e39 : FS s39 [potD] fun d => d = .bool true := by
  refine fs_def ?_
  refine rs_seq (S := fun ρ => ∃ n S, ρ = [some (false, potD), some (false, dsp n S), none, none, none, none, none, none, none, none, none, none, none, none, none] ∧ VD n S ∧ n ≤ 8) (ss_set (es_call (ds := [potD, .int 8]) (fun q => sq_cons rfl (sq_cons rfl sq_nil)) (e35 (m := 8) (by omega))) ?_) ?_
  · rintro d ⟨n, S, rfl, v, h8⟩
    exact ⟨n, S, rfl, v, h8⟩
  rintro _ ⟨n, S, rfl, v, h8⟩
  have sd := sd_dsp v
  refine rs_seq (S := fun ρ => ρ = mE n S none none none none none none none none none none none none) (ss_set (es_p (R := fun d => d = .str (dsp n S).shown) (fun q => ap_1 (d := dsp n S) rfl (repr_ev (sd.sd (by omega) (by omega)) rfl)) rfl) ?_) ?_
  · rintro d rfl; rfl
  rintro _ rfl
  refine rs_seq (ss_range (m := 6) (fun _ ρ => Tn n S ρ) (fun _ => rfl) (by omega) ⟨_, _, _, _, _, _, _, _, _, _, _, _, rfl⟩ ?_) ?_
  · rintro j _ _ ⟨o3, o4, o5, o6, o7, o8, o9, o10, o11, o12, o13, o14, rfl⟩
    exact ⟨_, rfl, turn v h8 (some (false, .int (j : Nat))) o4 o5 o6 o7 o8 o9 o10 o11 o12 o13 o14⟩
  rintro _ ⟨o3, o4, o5, o6, o7, o8, o9, o10, o11, o12, o13, o14, rfl⟩
  have n1 := v.n1
  refine rs_seq (S := fun ρ => ρ = mE n S o3 (some (false, tpI (Sd.upTo n))) o5 o6 o7 o8 o9 o10 o11 o12 o13 o14) (ss_set (es_p (R := fun d => d = tpI (Sd.upTo n)) (fun q => ?_) rfl) ?_) ?_
  · show (if 0 ≤ n ∧ n ≤ 1000000 then M.pure (PyData.tuple (rgD 0 n)) else M.fail) q = _
    rw [if_pos (by omega)]
    have e : rgD 0 n = (Sd.upTo n).map iD := by
      rw [upTo_map]
      unfold rgD
      rw [Int.sub_zero]
      refine List.map_congr_left fun i _ => ?_
      rw [Int.zero_add]
    rw [e]; rfl
  · rintro d rfl; rfl
  rintro _ rfl
  have av := av_upTo v
  have l8 : (Sd.upTo n).length ≤ 8 := by rw [upTo_len]; omega
  have c29 : ∀ q, s29 [dsp n S, tpI (Sd.upTo n)] q = some (dsp n S, q) := fun q => by rw [← alone_all v]; exact alone_all v ▸ e29 v h8 av l8 q
  have c30 : ∀ m q, LV n m → (∀ x ∈ m, x ∈ Sd.upTo n) → s30 [dsp n S, tpI (Sd.upTo n), tpI m] q = some (.tuple [.none, .tuple []], q) := fun m q hm hs => by rw [← rest_all (n := n) (S := S) m]; exact e30 v h8 av hm hs q
  have sdl : SD (.list [dsp n S, .tuple [.none, .tuple []], .tuple [.none, .tuple []]]) := (sd_list (k := 4) (w := 12052) (m := 3) (fun x hx => by
    rcases List.mem_cons.mp hx with c | hx
    · rw [c]; exact sd.imp (by omega) (by omega)
    rcases List.mem_cons.mp hx with c | hx
    · rw [c]; exact sd_no
    · rw [List.mem_singleton.mp hx]; exact sd_no) (by simp)).sd (by omega) (by omega)
  refine rs_ret (es_p (d := .bool true) (fun q => and_tt (eq_repr sdl rfl (lst_ev (sq_cons (call_ev (ds := [dsp n S, tpI (Sd.upTo n)]) (sq_cons rfl (sq_cons rfl sq_nil)) (c29 q)) (sq_cons (call_ev (ds := [dsp n S, tpI (Sd.upTo n), tpI []]) (sq_cons rfl (sq_cons rfl (sq_cons rfl sq_nil))) (c30 [] q ⟨(fun x hx => by cases hx), List.Pairwise.nil⟩ fun x hx => by cases hx)) (sq_cons (call_ev (ds := [dsp n S, tpI (Sd.upTo n), tpI (Sd.upTo n)]) (sq_cons rfl (sq_cons rfl (sq_cons rfl sq_nil))) (c30 _ q av.toLV fun x hx => hx)) sq_nil)))) (lst_ev (sq_cons rfl (sq_cons rfl (sq_cons rfl sq_nil))))) ?_) rfl)
  exact ap2_ev (ap_1 (d := dsp n S) rfl (repr_ev (sd.sd (by omega) (by omega)) rfl)) rfl (eq_str (shaped_shown (sd.sd (by omega) (by omega))))
end Hd
namespace Hd
open PySem PySem.Spec PyProof.Rows L2 Sd
theorem good : ∀ q, PotOk q → ∃ q', s39 [potD] q = some (.bool true, q') := fun q h => by
  obtain ⟨d, q', e, _, rfl⟩ := e39 q h
  exact ⟨q', e⟩
end Hd
open PySem PySem.W PySem.Calls PyProof.Rows
theorem PySem.Challenge.cw_stillsaid_k84_whole_fronts_and_rests_holds : PySem.Challenge.rw_stillsaid_k84_whole_fronts_and_rests.Holds := by
  w_on; o_law
  refine HandSHeadRun.head_any (r := OpenLaw.row PySem.Challenge.rw_stillsaid_k84_whole_fronts_and_rests) (q := view (OpenLaw.row PySem.Challenge.rw_stillsaid_k84_whole_fronts_and_rests).prog [40]) (H := Hd.hk) (ob := Hd.ob) (M := 3000) (loose := Hd.loose) (d := HandSHeadRun.topDef (OpenLaw.row PySem.Challenge.rw_stillsaid_k84_whole_fronts_and_rests).prog 40) (kwd := []) Hd.ob_eq
    (by kernel_rfl) (fun s => by kernel_rfl) Hd.run (by kernel_rfl) (by kernel_rfl) (by kernel_rfl) (by rfl) (by first | assumption | decide +kernel) (by decide +kernel) ⟨rfl, rfl, rfl, rfl, rfl, by decide +kernel⟩ ?hw ?hc
  case hw => w_witness2
  case hc =>
    refine Sd.walk_ofG (l := PySem.Challenge.rw_stillsaid_k84_whole_fronts_and_rests) (n := 63) (k := 10) (x := "script") rfl (by decide) (by kernel_rfl) ⟨rfl, by decide, by decide⟩ ?_
    intro w mg fa h Y G hmg0
    obtain ⟨K, KX, c⟩ := Y
    have hmg : mg ("law" : PySem.Str) = some (.ref fa) := by
      have e : (HandSHeadRun.topDef (OpenLaw.row PySem.Challenge.rw_stillsaid_k84_whole_fronts_and_rests).prog 40).name = ("law" : PySem.Str) := by kernel_rfl
      rw [← e]
      exact hmg0
    obtain ⟨a, rfl⟩ := Hd.have_al KX G hmg c
    have hb := a.F40.bindsA (ps := ["script"]) fun _ _ _ _ _ _ us hl => match us, hl with | [_], _ => rfl
    refine ⟨K, a.fd40, Hd.spLaw K, KX, fun s v => hb s [v] rfl, fun H b ns _ only sq => ⟨b, ns, rfl, only, sq, fun _ => rfl⟩, fun base _ _ => ?_⟩
    exact (Hd.gLaw (n := 8) (sem := Hd.s39) a.F40 a.F33 a.F39 (Hd.gPot a.F33 a.m_len a.m_int a.m_abs a.m_max) ((Hd.g39 a).mono (by decide)) a.h33 a.h39 a.m_all a.m_range a.m_max a.m_min a.m_len Hd.good)
