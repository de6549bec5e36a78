import PyProof.Rows.All
import Wide.All
import OpenK.AllK
import Wide.FinOn
import HandS.ForMost
import HandS.Wide
import HandS.Gcd
import HandS.IsInst
import HandS.TupAny
import HandS.TupMul
import HandS.Walk
import HandS.Style
import HandS.Conv
import HandS.CallSlots
import HandS.ForExc
import HandS.ExcInit
import HandS.ExcField
import HandS.Zip
import HandS.Flow
import HandS.Deep
import HandS.More
import HandS.TupLen
import KE.KTupSum
import KE.KMathGC
import HandS.WideBits
import HandS.SortInts
import HandS.Dict
import KE.GoesEnum
import KE.KeyNested
import HandS.SetFor
import HandS.Strs
import PySem.Challenge.RW_tosstrees_k40_whole_texts_shown
set_option Elab.async false
set_option linter.all false
set_option maxRecDepth 100000
set_option autoImplicit false
/-! PD1: data in the tracked heap, environments of data, what a slot's own list is. -/
namespace PD
open PySem PySem.Spec PyProof.Rows L2

/-- the world that the run stands in (hashes of texts hang on it) -/
class WW where
  w : World
variable [WW]
/-! ### keys of dicts that are tuples -/
mutual
def nkOk : PyData → Bool
  | .none => true
  | .int _ => true
  | .str _ => true
  | .tuple ds => nkOks ds
  | _ => false
def nkOks : List PyData → Bool
  | [] => true
  | d :: ds => nkOk d && nkOks ds
end
def tOk : PyData → Bool
  | .tuple ds => nkOks ds && decide (PyData.depthAll ds ≤ 7)
  | _ => false
mutual
def toKey : PyData → NestedKey
  | .int i => .num i
  | .str x => .text x
  | .tuple ds => .tup (toKeys ds)
  | _ => .none
def toKeys : List PyData → List NestedKey
  | [] => []
  | d :: ds => toKey d :: toKeys ds
end
/-- an entry of a dict with such keys: the key as data, its tuple, the value -/
abbrev XE := PyData × Addr × Value
def xk (x : XE) : NestedKey × Addr × Value := (toKey x.1, x.2)
def xEnt (w : World) (x : NestedKey × Addr × Value) : DictEntry := ⟨x.1.hash w, .ref x.2.1, x.2.2⟩
/-- what is true of the dict's object -/
def dnPhi (w : World) (a : Addr) (xs : List XE) : Heap → Prop := fun h => ∃ o es ep, h.get? a = some o ∧ o.ExactDict ∧ o.data = .dict es ep ∧ es.toList = (xs.map xk).map (xEnt w) ∧ ((xs.map xk).map (·.1)).Nodup ∧ (a == sysModules) = false
/-! ### data at a value -/
/-- a list that nobody writes: locked, or of the written part -/
def FzL (K : PySem.W.Frag) (H : Hp) (a : Addr) (xs : List V) : Prop :=
  (∃ o, H a = some (.frz o (.lst xs))) ∨
    ∃ (o : Obj) (its : Array Value) (n : Nat), K.lookup a = some o ∧ o.cls = .type "list" ∧ o.dict = none ∧ o.data = .seq its n ∧ its.size ≤ sizeLine ∧ Vals xs its.toList
def LA (K : PySem.W.Frag) (S : Addr → Prop) (H : Hp) (a : Addr) (xs : List V) : Prop := (S a ∧ H a = some (.lst xs)) ∨ FzL K H a xs
def keyD : Key → PyData
  | .inl i => .int i
  | .inr x => .str x
mutual
/-- the value is such a key -/
inductive NK (K : PySem.W.Frag) (H : Hp) : NestedKey → V → Prop
  | non : NK K H .none .non
  | int (i : Int) : NK K H (.num i) (.int i)
  | str (x : Str) : NK K H (.text x) (.str x)
  | tup {a : Addr} {vs : List V} {ks : List NestedKey} : SqT K H a vs → NKs K H ks vs → NK K H (.tup ks) (.ref a)
inductive NKs (K : PySem.W.Frag) (H : Hp) : List NestedKey → List V → Prop
  | nil : NKs K H [] []
  | cons {k : NestedKey} {v : V} {ks : List NestedKey} {vs : List V} : NK K H k v → NKs K H ks vs → NKs K H (k :: ks) (v :: vs)
end
/-- an entry and its value -/
def XR (K : PySem.W.Frag) (H : Hp) (p : PyData × V) (x : XE) : Prop := p.1 = x.1 ∧ tOk x.1 = true ∧ NK K H (toKey x.1) (.ref x.2.1) ∧ RelV p.2 x.2.2
/-- a tracked dict: its keys as data -/
def DicAt (K : PySem.W.Frag) (H : Hp) (a : Addr) (ks : List (PyData × V)) : Prop :=
  (∃ kvs : List (Key × V), H a = some (.dK kvs) ∧ ks = kvs.map fun p => (keyD p.1, p.2)) ∨
  (∃ xs : List XE, H a = some (.ext (dnPhi WW.w a xs)) ∧ xs ≠ [] ∧ xs.length ≤ sizeLine ∧ Paired (XR K H) ks xs)
mutual
inductive Rp (K : PySem.W.Frag) (S : Addr → Prop) (H : Hp) : V → PyData → Prop
  | non : Rp K S H .non .none
  | bl (b : Bool) : Rp K S H (.bl b) (.bool b)
  | int (i : Int) : Rp K S H (.int i) (.int i)
  | str (x : Str) : Rp K S H (.str x) (.str x)
  | tup {a : Addr} {xs : List V} {ds : List PyData} : SqT K H a xs → Rps K S H xs ds → Rp K S H (.ref a) (.tuple ds)
  | lst {a : Addr} {xs : List V} {ds : List PyData} : LA K S H a xs → Rps K S H xs ds → Rp K S H (.ref a) (.list ds)
  | dic {a : Addr} {ks : List (PyData × V)} {ds : List (PyData × PyData)} : S a → DicAt K H a ks → ks.map (·.1) = ds.map (·.1) → Rps K S H (ks.map (·.2)) (ds.map (·.2)) → Rp K S H (.ref a) (.dict ds)
inductive Rps (K : PySem.W.Frag) (S : Addr → Prop) (H : Hp) : List V → List PyData → Prop
  | nil : Rps K S H [] []
  | cons {v : V} {vs : List V} {d : PyData} {ds : List PyData} : Rp K S H v d → Rps K S H vs ds → Rps K S H (v :: vs) (d :: ds)
end

/-! ### what a piece of code keeps -/
def Imm : HO → Prop
  | .tup _ => True
  | .frz _ _ => True
  | _ => False
structure Keep (U : Addr → Prop) (H H' : Hp) : Prop where
  k : ∀ a o, H a = some o → ¬ U a → H' a = some o
  i : ∀ a o, H a = some o → Imm o → H' a = some o
  t : ∀ a o, H a = some o → ∃ o', H' a = some o'
theorem Keep.refl (U : Addr → Prop) (H : Hp) : Keep U H H := ⟨fun _ _ h _ => h, fun _ _ h _ => h, fun _ o h => ⟨o, h⟩⟩
theorem Keep.trans {U U' : Addr → Prop} {H H1 H2 : Hp} (a : Keep U H H1) (b : Keep U' H1 H2) (h : ∀ x, U' x → U x ∨ H x = none) : Keep U H H2 :=
  ⟨fun x o e n => b.k x o (a.k x o e n) fun u => (h x u).elim n (fun z => by rw [e] at z; cases z), fun x o e m => b.i x o (a.i x o e m) m, fun x o e => let ⟨o', e'⟩ := a.t x o e; b.t x o' e'⟩
theorem Keep.ex {U : Addr → Prop} {H H' : Hp} (e : ∀ a o, H a = some o → H' a = some o) : Keep U H H' := ⟨fun a o h _ => e a o h, fun a o h _ => e a o h, fun a o h => ⟨o, e a o h⟩⟩
theorem Keep.new {U : Addr → Prop} {H : Hp} {p : Addr} {o : HO} (h : H p = none) : Keep U H (upd H p o) := Keep.ex fun a u e => by
  rw [upd_ne (ne_of_none e h)]; exact e
theorem Keep.mono {U U' : Addr → Prop} {H H' : Hp} (k : Keep U H H') (h : ∀ a, U a → U' a) : Keep U' H H' := ⟨fun a o e n => k.k a o e fun u => n (h a u), k.i, k.t⟩
theorem Keep.tracked {U : Addr → Prop} {H H' : Hp} (k : Keep U H H') {a : Addr} (n : ¬ U a) (h : ∃ o, H a = some o) : ∃ o, H' a = some o := let ⟨o, e⟩ := h; ⟨o, k.k a o e n⟩
theorem Keep.back {U : Addr → Prop} {H H' : Hp} (k : Keep U H H') {a : Addr} (h : H' a = none) : H a = none := by
  cases e : H a with
  | none => rfl
  | some o =>
    obtain ⟨o', q⟩ := k.t a o e
    rw [h] at q; cases q

theorem FzL.keep {K : PySem.W.Frag} {U : Addr → Prop} {H H' : Hp} {a : Addr} {xs : List V} (k : Keep U H H') (h : FzL K H a xs) : FzL K H' a xs := by
  rcases h with ⟨o, h⟩ | h
  · exact .inl ⟨o, k.i _ _ h trivial⟩
  · exact .inr h
theorem SqT.keep {K : PySem.W.Frag} {U : Addr → Prop} {H H' : Hp} {a : Addr} {xs : List V} (k : Keep U H H') (h : SqT K H a xs) : SqT K H' a xs := by
  rcases h with (h | ⟨o, h⟩) | h
  · exact .inl (.inl (k.i _ _ h trivial))
  · exact .inl (.inr ⟨o, k.i _ _ h trivial⟩)
  · exact .inr h
theorem LA.seq {K : PySem.W.Frag} {S : Addr → Prop} {H : Hp} {a : Addr} {xs : List V} (h : LA K S H a xs) : SqL K H a xs := by
  rcases h with ⟨_, h⟩ | (⟨o, h⟩ | h)
  · exact .inl (.inl h)
  · exact .inl (.inr ⟨o, h⟩)
  · exact .inr h
mutual
theorem NK.keep {K : PySem.W.Frag} {U : Addr → Prop} {H H' : Hp} (k : Keep U H H') : ∀ {c : NestedKey} {v : V}, NK K H c v → NK K H' c v
  | .none, _, h => by cases h; exact .non
  | .num i, _, h => by cases h; exact .int i
  | .text x, _, h => by cases h; exact .str x
  | .tup ks, _, h => by
    cases h with
    | tup h1 h2 => exact .tup (SqT.keep k h1) (NKs.keep k h2)
theorem NKs.keep {K : PySem.W.Frag} {U : Addr → Prop} {H H' : Hp} (k : Keep U H H') : ∀ {cs : List NestedKey} {vs : List V}, NKs K H cs vs → NKs K H' cs vs
  | [], _, h => by cases h; exact .nil
  | c :: cs, _, h => by
    cases h with
    | cons h1 h2 => exact .cons (NK.keep k h1) (NKs.keep k h2)
end
theorem XR.keep {K : PySem.W.Frag} {U : Addr → Prop} {H H' : Hp} (k : Keep U H H') {ks : List (PyData × V)} {xs : List XE} (h : Paired (XR K H) ks xs) : Paired (XR K H') ks xs :=
  Paired.mapP h fun _ _ z => ⟨z.1, z.2.1, z.2.2.1.keep k, z.2.2.2⟩
theorem DicAt.there {K : PySem.W.Frag} {H : Hp} {a : Addr} {ks : List (PyData × V)} (h : DicAt K H a ks) : ∃ o, H a = some o ∧ ¬ Imm o := by
  rcases h with ⟨_, h, _⟩ | ⟨_, h, _⟩
  · exact ⟨_, h, fun z => z⟩
  · exact ⟨_, h, fun z => z⟩
theorem DicAt.eq {K : PySem.W.Frag} {U : Addr → Prop} {H H' : Hp} {a : Addr} {ks : List (PyData × V)} (k : Keep U H H') (h : DicAt K H a ks) (e : ∀ o, H a = some o → H' a = some o) : DicAt K H' a ks := by
  rcases h with ⟨x, h, q⟩ | ⟨x, h, q⟩
  · exact .inl ⟨x, e _ h, q⟩
  · exact .inr ⟨x, e _ h, q.1, q.2.1, XR.keep k q.2.2⟩
mutual
theorem Rp.to {K : PySem.W.Frag} {S T U : Addr → Prop} {H H' : Hp} (k : Keep U H H') (hT : ∀ a, S a → (∃ o, H a = some o) → T a ∧ ¬ U a) : ∀ {d : PyData} {v : V}, Rp K S H v d → Rp K T H' v d
  | .none, _, h => by cases h; exact .non
  | .bool b, _, h => by cases h; exact .bl b
  | .int i, _, h => by cases h; exact .int i
  | .str x, _, h => by cases h; exact .str x
  | .tuple ds, _, h => by
    cases h with
    | tup h1 h2 => exact .tup (SqT.keep k h1) (Rps.to k hT h2)
  | .list ds, _, h => by
    cases h with
    | lst h1 h2 =>
      refine .lst ?_ (Rps.to k hT h2)
      rcases h1 with ⟨s, e⟩ | f
      · obtain ⟨t, n⟩ := hT _ s ⟨_, e⟩
        exact .inl ⟨t, k.k _ _ e n⟩
      · exact .inr (FzL.keep k f)
  | .dict ds, _, h => by
    cases h with
    | dic s h1 e h2 =>
      obtain ⟨o, q, _⟩ := DicAt.there h1
      obtain ⟨t, n⟩ := hT _ s ⟨_, q⟩
      exact .dic t (DicAt.eq k h1 fun o q => k.k _ _ q n) e (Rpv.to k hT ds e h2)
theorem Rps.to {K : PySem.W.Frag} {S T U : Addr → Prop} {H H' : Hp} (k : Keep U H H') (hT : ∀ a, S a → (∃ o, H a = some o) → T a ∧ ¬ U a) : ∀ {ds : List PyData} {vs : List V}, Rps K S H vs ds → Rps K T H' vs ds
  | [], _, h => by cases h; exact .nil
  | d :: ds, _, h => by
    cases h with
    | cons h1 h2 => exact .cons (Rp.to k hT h1) (Rps.to k hT h2)
theorem Rpv.to {K : PySem.W.Frag} {S T U : Addr → Prop} {H H' : Hp} (k : Keep U H H') (hT : ∀ a, S a → (∃ o, H a = some o) → T a ∧ ¬ U a) : ∀ (ds : List (PyData × PyData)) {ks : List (PyData × V)}, ks.map (·.1) = ds.map (·.1) → Rps K S H (ks.map (·.2)) (ds.map (·.2)) → Rps K T H' (ks.map (·.2)) (ds.map (·.2))
  | [], ks, e, h => by
    cases ks with
    | nil => exact .nil
    | cons _ _ => simp at e
  | (c, d) :: ds, ks, e, h => by
    cases ks with
    | nil => simp at e
    | cons p ks =>
      simp only [List.map_cons, List.cons.injEq] at e h ⊢
      cases h with
      | cons h1 h2 => exact .cons (Rp.to k hT h1) (Rpv.to k hT ds e.2 h2)
end
theorem Rps.length {K : PySem.W.Frag} {S : Addr → Prop} {H : Hp} : ∀ {ds : List PyData} {vs : List V}, Rps K S H vs ds → vs.length = ds.length
  | [], _, h => by cases h; rfl
  | d :: ds, _, h => by
    cases h with
    | cons _ h2 => rw [List.length_cons, List.length_cons, Rps.length h2]
theorem Rps.get {K : PySem.W.Frag} {S : Addr → Prop} {H : Hp} : ∀ {ds : List PyData} {vs : List V} {i : Nat} {d : PyData}, Rps K S H vs ds → ds[i]? = some d → ∃ v, vs[i]? = some v ∧ Rp K S H v d
  | [], _, _, _, _, e => by simp at e
  | c :: ds, _, 0, d, h, e => by
    cases h with
    | cons h1 h2 => simp at e; subst e; exact ⟨_, rfl, h1⟩
  | c :: ds, _, i + 1, d, h, e => by
    cases h with
    | cons h1 h2 =>
      obtain ⟨v, q, r⟩ := Rps.get (i := i) h2 (by simpa using e)
      exact ⟨v, by simpa using q, r⟩
theorem Rps.append {K : PySem.W.Frag} {S : Addr → Prop} {H : Hp} : ∀ {ds es : List PyData} {vs ws : List V}, Rps K S H vs ds → Rps K S H ws es → Rps K S H (vs ++ ws) (ds ++ es)
  | [], _, _, _, h, q => by cases h; exact q
  | d :: ds, _, _, _, h, q => by
    cases h with
    | cons h1 h2 => exact .cons h1 (Rps.append h2 q)
theorem Rps.drop {K : PySem.W.Frag} {S : Addr → Prop} {H : Hp} : ∀ (n : Nat) {ds : List PyData} {vs : List V}, Rps K S H vs ds → Rps K S H (vs.drop n) (ds.drop n)
  | 0, _, _, h => h
  | n + 1, [], _, h => by cases h; exact .nil
  | n + 1, d :: ds, _, h => by
    cases h with
    | cons h1 h2 => exact Rps.drop n h2
theorem Rps.take {K : PySem.W.Frag} {S : Addr → Prop} {H : Hp} : ∀ (n : Nat) {ds : List PyData} {vs : List V}, Rps K S H vs ds → Rps K S H (vs.take n) (ds.take n)
  | 0, _, _, h => .nil
  | n + 1, [], _, h => by cases h; exact .nil
  | n + 1, d :: ds, _, h => by
    cases h with
    | cons h1 h2 => exact .cons h1 (Rps.take n h2)
theorem Rps.reverse {K : PySem.W.Frag} {S : Addr → Prop} {H : Hp} : ∀ {ds : List PyData} {vs : List V}, Rps K S H vs ds → Rps K S H vs.reverse ds.reverse
  | [], _, h => by cases h; exact .nil
  | d :: ds, _, h => by
    cases h with
    | cons h1 h2 =>
      rw [List.reverse_cons, List.reverse_cons]
      exact Rps.append (Rps.reverse h2) (.cons h1 .nil)
theorem Rps.set {K : PySem.W.Frag} {S : Addr → Prop} {H : Hp} {v : V} {d : PyData} (r : Rp K S H v d) : ∀ (n : Nat) {ds : List PyData} {vs : List V}, Rps K S H vs ds → Rps K S H (vs.set n v) (ds.set n d)
  | _, [], _, h => by cases h; exact .nil
  | 0, c :: ds, _, h => by
    cases h with
    | cons h1 h2 => exact .cons r h2
  | n + 1, c :: ds, _, h => by
    cases h with
    | cons h1 h2 => exact .cons h1 (Rps.set r n h2)
theorem Rps.erase {K : PySem.W.Frag} {S : Addr → Prop} {H : Hp} : ∀ (n : Nat) {ds : List PyData} {vs : List V}, Rps K S H vs ds → Rps K S H (vs.eraseIdx n) (ds.eraseIdx n)
  | _, [], _, h => by cases h; exact .nil
  | 0, c :: ds, _, h => by
    cases h with
    | cons h1 h2 => exact h2
  | n + 1, c :: ds, _, h => by
    cases h with
    | cons h1 h2 => exact .cons h1 (Rps.erase n h2)
theorem Rps.rep {K : PySem.W.Frag} {S : Addr → Prop} {H : Hp} {ds : List PyData} {vs : List V} (h : Rps K S H vs ds) : ∀ n : Nat, Rps K S H (List.replicate n vs).flatten (List.replicate n ds).flatten
  | 0 => .nil
  | n + 1 => by
    rw [List.replicate_succ, List.replicate_succ, List.flatten_cons, List.flatten_cons]
    exact Rps.append h (Rps.rep h n)

/-! ### environments -/
/-- a slot: own (its list or dict is reached from nowhere else), its data -/
abbrev Env := List (Option (Bool × PyData))
def OwnAt (σ : L2.St) (ρ : Env) (a : Addr) : Prop := ∃ (i : Nat) (d : PyData), ρ[i]? = some (some (true, d)) ∧ σ[i]? = some (some (V.ref a))
def Free (B : Addr → Prop) (σ : L2.St) (ρ : Env) (a : Addr) : Prop := ¬ B a ∧ ¬ OwnAt σ ρ a
inductive ORp (K : PySem.W.Frag) (S : Addr → Prop) (H : Hp) (a : Addr) : PyData → Prop
  | lst {xs : List V} {ds : List PyData} : H a = some (.lst xs) → Rps K S H xs ds → ORp K S H a (.list ds)
  | dic {ks : List (PyData × V)} {ds : List (PyData × PyData)} : DicAt K H a ks → ks.map (·.1) = ds.map (·.1) → Rps K S H (ks.map (·.2)) (ds.map (·.2)) → ORp K S H a (.dict ds)
structure SR (K : PySem.W.Frag) (B : Addr → Prop) (σ : L2.St) (H : Hp) (ρ : Env) : Prop where
  len : σ.length = ρ.length
  bt : ∀ a, B a → ∃ o, H a = some o
  plain : ∀ (i : Nat) (d : PyData), ρ[i]? = some (some (false, d)) → ∃ v, σ[i]? = some (some v) ∧ Rp K (Free B σ ρ) H v d
  own : ∀ (i : Nat) (d : PyData), ρ[i]? = some (some (true, d)) → ∃ a, σ[i]? = some (some (V.ref a)) ∧ ¬ B a ∧ ORp K (Free B σ ρ) H a d
  inj : ∀ (i j : Nat) (a : Addr) (c d : PyData), ρ[i]? = some (some (true, c)) → ρ[j]? = some (some (true, d)) → σ[i]? = some (some (V.ref a)) → σ[j]? = some (some (V.ref a)) → i = j
theorem ORp.there {K : PySem.W.Frag} {S : Addr → Prop} {H : Hp} {a : Addr} {d : PyData} (h : ORp K S H a d) : ∃ o, H a = some o ∧ ¬ Imm o := by
  cases h with
  | lst e _ => exact ⟨_, e, fun z => z⟩
  | dic e _ _ => exact DicAt.there e
theorem ORp.to {K : PySem.W.Frag} {S T U : Addr → Prop} {H H' : Hp} {a : Addr} {d : PyData} (k : Keep U H H') (hT : ∀ a, S a → (∃ o, H a = some o) → T a ∧ ¬ U a) (ha : ¬ U a) (h : ORp K S H a d) : ORp K T H' a d := by
  cases h with
  | lst e r => exact .lst (k.k _ _ e ha) (r.to k hT)
  | dic e q r => exact .dic (DicAt.eq k e fun o z => k.k _ _ z ha) q (Rpv.to k hT _ q r)
/-- as a value that is read only -/
theorem ORp.rp {K : PySem.W.Frag} {S : Addr → Prop} {H : Hp} {a : Addr} {d : PyData} (h : ORp K S H a d) (s : S a) : Rp K S H (.ref a) d := by
  cases h with
  | lst e r => exact .lst (.inl ⟨s, e⟩) r
  | dic e q r => exact .dic s e q r
theorem SR.ownTracked {K : PySem.W.Frag} {B : Addr → Prop} {σ : L2.St} {H : Hp} {ρ : Env} (s : SR K B σ H ρ) {a : Addr} (h : OwnAt σ ρ a) : ∃ o, H a = some o ∧ ¬ Imm o := by
  obtain ⟨i, d, e, q⟩ := h
  obtain ⟨b, q', _, r⟩ := s.own i d e
  rw [q] at q'; cases q'
  exact r.there
theorem SR.ownFree {K : PySem.W.Frag} {B : Addr → Prop} {σ : L2.St} {H : Hp} {ρ : Env} (s : SR K B σ H ρ) {a : Addr} (h : OwnAt σ ρ a) : ¬ B a := by
  obtain ⟨i, d, e, q⟩ := h
  obtain ⟨b, q', n, r⟩ := s.own i d e
  rw [q] at q'; cases q'
  exact n
/-- the heap grows; further addresses, all new, are blocked -/
theorem SR.grow {K : PySem.W.Frag} {B B' : Addr → Prop} {σ : L2.St} {H H' : Hp} {ρ : Env} (s : SR K B σ H ρ) (e : ∀ a o, H a = some o → H' a = some o) (hb : ∀ a, B' a → B a ∨ (H a = none ∧ ∃ o, H' a = some o)) : SR K B' σ H' ρ := by
  have k : Keep (fun _ => False) H H' := Keep.ex e
  have hT : ∀ a, Free B σ ρ a → (∃ o, H a = some o) → Free B' σ ρ a ∧ ¬ False := fun a f ⟨o, q⟩ => ⟨⟨fun b => (hb a b).elim f.1 fun z => (by rw [q] at z; cases z.1), f.2⟩, fun z => z⟩
  refine ⟨s.len, fun a b => ?_, fun i d q => ?_, fun i d q => ?_, s.inj⟩
  · rcases hb a b with b | b
    · obtain ⟨o, q⟩ := s.bt a b; exact ⟨o, e _ _ q⟩
    · exact b.2
  · obtain ⟨v, q1, r⟩ := s.plain i d q
    exact ⟨v, q1, r.to k hT⟩
  · obtain ⟨a, q1, n, r⟩ := s.own i d q
    obtain ⟨o, q2, _⟩ := r.there
    exact ⟨a, q1, fun b => (hb a b).elim n fun z => (by rw [q2] at z; cases z.1), r.to k hT (fun z => z)⟩
theorem SR.block {K : PySem.W.Frag} {B : Addr → Prop} {σ : L2.St} {H : Hp} {ρ : Env} (s : SR K B σ H ρ) {p : Addr} {o : HO} (h : H p = none) : SR K (fun a => B a ∨ a = p) σ (upd H p o) ρ :=
  s.grow (fun a u e => by rw [upd_ne (ne_of_none e h)]; exact e) fun a z => z.elim .inl fun e => by subst e; exact .inr ⟨h, _, upd_same⟩
theorem SR.new {K : PySem.W.Frag} {B : Addr → Prop} {σ : L2.St} {H : Hp} {ρ : Env} (s : SR K B σ H ρ) {p : Addr} {o : HO} (h : H p = none) : SR K B σ (upd H p o) ρ :=
  s.grow (fun a u e => by rw [upd_ne (ne_of_none e h)]; exact e) fun a z => .inl z
theorem SR.weak {K : PySem.W.Frag} {B B' : Addr → Prop} {σ : L2.St} {H : Hp} {ρ : Env} (s : SR K B σ H ρ) (hb : ∀ a, B' a → B a) : SR K B' σ H ρ :=
  s.grow (fun _ _ e => e) fun a z => .inl (hb a z)
end PD
set_option maxRecDepth 100000
set_option autoImplicit false
/-! PD2: the code of a def over data, and what it comes to. -/
namespace PD
open PySem

inductive BO | add | sub | mul | fdiv | mod | pow | shl | shr
  deriving DecidableEq, Repr
inductive CO | eq | ne | lt | le | gt | ge | isN | notN | inn | notin
  deriving DecidableEq, Repr
/-- built-in functions -/
inductive Bi | len | sum | int | abs | max | min | tuple | list | all | any | gcd | sorted | str | comb | fact
  deriving DecidableEq, Repr
/-- methods that read -/
inductive Me | index | count | get
  deriving DecidableEq, Repr
inductive Tg
  | nm (i : Nat)
  | tp (ts : List Tg)
mutual
inductive Ex
  | lit (d : PyData)
  | var (i : Nat)
  | glob (x : Str) (d : PyData)
  | bin (o : BO) (a b : Ex)
  | neg (a : Ex)
  | cmp (o : CO) (a b : Ex)
  | cmp2 (o p : CO) (a b c : Ex)
  | and (a b : Ex)
  | or (a b : Ex)
  | not (a : Ex)
  | ife (c a b : Ex)
  | tup (es : Exs)
  | lst (es : Exs)
  | emp
  | idx (a b : Ex)
  | slc (a lo hi : Ex)
  | call (f : Nat) (perm : List Nat) (es ks : Exs)
  | callP (f : Nat) (es : Exs)
  | bi (b : Bi) (es : Exs)
  | isi (a : Ex) (ts : List String)
  | meth (m : Me) (a : Ex) (es : Exs)
  | comp (own : List Nat) (e : Ex) (t : Tg) (s : Sr) (c : Ex)
  | comp2 (own vs1 : List Nat) (e : Ex) (t : Tg) (s : Sr) (c : Ex) (t1 : Tg) (s1 : Sr) (c1 : Ex)
  | col (t : Bool) (s : Sr)
  | index (a e : Ex)
  | bitl (a : Ex)
  | isB (n : Bool) (a : Ex) (c : Bool)
  | rev (a : Ex)
  | sset (a : Ex)
  | lset (a : Ex)
  | join (s : Str) (a : Ex)
  | dsp (kvs : List (Str × Str))
  | cdx (x : Str) (kvs : List (Str × Str)) (a : Ex)
  | popI (i : Nat) (e : Ex)
  | skip
inductive Exs
  | nil
  | cons (e : Ex) (es : Exs)
/-- what a loop walks -/
inductive Sr
  | seq (e : Ex)
  | rng1 (a : Ex)
  | rng2 (a b : Ex)
  | rng3 (a b c : Ex)
  | enum (e : Ex)
  | zip (a b : Ex)
  | items (e : Ex)
end
/-- what an except suite keeps: a constant, or the error's own value; a tuple or a list of them -/
inductive HV | lit (d : PyData) | val
inductive HA | one (h : HV) | tup (hs : List HV) | lst (hs : List HV)
/-- an except clause: its class, the name's slot, the slot that is set -/
structure Hd where
  c : Nat
  e : Option Nat
  i : Nat
  a : HA
mutual
inductive St
  | pass
  | drop (e : Ex)
  | asg (t : Tg) (e : Ex)
  | par (js : List Nat) (es : Exs)
  | parT (js : List Nat) (es : Exs)
  | setI (i : Nat) (ix e : Ex)
  | augN (i : Nat) (o : BO) (e : Ex)
  | augI (i : Nat) (ix : Ex) (o : BO) (e : Ex)
  | app (i : Nat) (e : Ex)
  | ext (i : Nat) (e : Ex)
  | ins (i : Nat) (a e : Ex)
  | ife (c : Ex) (a b : Sts)
  | whl (c : Ex) (b : Sts)
  | for (t : Tg) (s : Sr) (b : Sts)
  | ret (e : Ex)
  | retN
  | brk
  | cnt
  | raise (c : Nat) (e : Ex)
  | tri (b : Sts) (hs : List Hd) (lo nc : Nat)
  | never
inductive Sts
  | nil
  | cons (s : St) (r : Sts)
end

/-! ### results -/
inductive Rv | val (d : PyData) | own (d : PyData) | sl (i : Nat)
inductive Rs (α : Type) | ok (a : α) (ρ : Env) | exc (c : Nat) (d : PyData) (ρ : Env) | no
inductive Out | nx (ρ : Env) | ret (r : Rv) (ρ : Env) | brk (ρ : Env) | cnt (ρ : Env) | exc (c : Nat) (d : PyData) (ρ : Env) | no
/-- a call's -/
inductive FR | ret (own : Bool) (d : PyData) (io : List PyData) | exc (c : Nat) (d : PyData) (io : List PyData) | no
@[inline] def Rs.bind {α β : Type} (r : Rs α) (f : α → Env → Rs β) : Rs β := match r with
  | .ok a ρ => f a ρ
  | .exc c d ρ => .exc c d ρ
  | .no => .no
@[simp] theorem Rs.bind_ok {α β : Type} (a : α) (ρ : Env) (f : α → Env → Rs β) : (Rs.ok a ρ).bind f = f a ρ := rfl
@[simp] theorem Rs.bind_no {α β : Type} (f : α → Env → Rs β) : (Rs.no : Rs α).bind f = .no := rfl
@[simp] theorem Rs.bind_exc {α β : Type} (c : Nat) (d : PyData) (ρ : Env) (f : α → Env → Rs β) : (Rs.exc c d ρ : Rs α).bind f = .exc c d ρ := rfl
def Rs.out {α : Type} (r : Rs α) (f : α → Env → Out) : Out := match r with
  | .ok a ρ => f a ρ
  | .exc c d ρ => .exc c d ρ
  | .no => .no
@[simp] theorem Rs.out_ok {α : Type} (a : α) (ρ : Env) (f : α → Env → Out) : (Rs.ok a ρ).out f = f a ρ := rfl
@[simp] theorem Rs.out_no {α : Type} (f : α → Env → Out) : (Rs.no : Rs α).out f = .no := rfl
@[simp] theorem Rs.out_exc {α : Type} (c : Nat) (d : PyData) (ρ : Env) (f : α → Env → Out) : (Rs.exc c d ρ : Rs α).out f = .exc c d ρ := rfl
def Out.seq (r : Out) (f : Env → Out) : Out := match r with
  | .nx ρ => f ρ
  | o => o
@[simp] theorem Out.seq_nx (ρ : Env) (f : Env → Out) : (Out.nx ρ).seq f = f ρ := rfl
@[simp] theorem Out.seq_ret (r : Rv) (ρ : Env) (f : Env → Out) : (Out.ret r ρ).seq f = .ret r ρ := rfl
@[simp] theorem Out.seq_brk (ρ : Env) (f : Env → Out) : (Out.brk ρ).seq f = .brk ρ := rfl
@[simp] theorem Out.seq_cnt (ρ : Env) (f : Env → Out) : (Out.cnt ρ).seq f = .cnt ρ := rfl
@[simp] theorem Out.seq_no (f : Env → Out) : (Out.no).seq f = .no := rfl
@[simp] theorem Out.seq_exc (c : Nat) (d : PyData) (ρ : Env) (f : Env → Out) : (Out.exc c d ρ).seq f = .exc c d ρ := rfl

/-! ### slots -/
def slotD (ρ : Env) (i : Nat) : Option PyData := match ρ[i]? with
  | some (some (_, d)) => some d
  | _ => none
def dat (ρ : Env) : Rv → Option PyData
  | .val d => some d
  | .own d => some d
  | .sl i => slotD ρ i
@[simp] theorem dat_val (ρ : Env) (d : PyData) : dat ρ (.val d) = some d := rfl
@[simp] theorem dat_own (ρ : Env) (d : PyData) : dat ρ (.own d) = some d := rfl
/-- a value is stored away: an own slot's list is own no more -/
def keepV (lk : List Nat) : Rv → Env → Rs PyData
  | .val d, ρ => .ok d ρ
  | .own d, ρ => .ok d ρ
  | .sl i, ρ => if i ∈ lk then .no else match ρ[i]? with
    | some (some (_, d)) => .ok d (ρ.set i (some (false, d)))
    | _ => .no
@[simp] theorem keepV_val (lk : List Nat) (d : PyData) (ρ : Env) : keepV lk (.val d) ρ = .ok d ρ := rfl
@[simp] theorem keepV_own (lk : List Nat) (d : PyData) (ρ : Env) : keepV lk (.own d) ρ = .ok d ρ := rfl
def keepVs (lk : List Nat) : List Rv → Env → Rs (List PyData)
  | [], ρ => .ok [] ρ
  | r :: rs, ρ => (keepV lk r ρ).bind fun d ρ1 => (keepVs lk rs ρ1).bind fun ds ρ2 => .ok (d :: ds) ρ2
def dats (ρ : Env) : List Rv → Option (List PyData)
  | [] => some []
  | r :: rs => match dat ρ r, dats ρ rs with
    | some d, some ds => some (d :: ds)
    | _, _ => none
def liftR (r : Option Rv) (ρ : Env) : Rs Rv := match r with
  | some v => .ok v ρ
  | none => .no
@[simp] theorem liftR_some (v : Rv) (ρ : Env) : liftR (some v) ρ = .ok v ρ := rfl

/-! ### by values -/
mutual
def frozen : PyData → Bool
  | .list _ => false
  | .dict _ => false
  | .tuple ds => frozens ds
  | _ => true
def frozens : List PyData → Bool
  | [] => true
  | d :: ds => frozen d && frozens ds
end
def frozenKids : PyData → Bool
  | .list ds => frozens ds
  | .dict _ => false
  | d => frozen d
def iBits (i : Int) : Nat := i.natAbs.log2
/-- how great the products of ints may be here -/
def mulOk (i j : Int) : Bool := decide (i.natAbs.log2 + j.natAbs.log2 < 1000000) || (decide (i.natAbs < 2 ^ 64) || decide (j.natAbs < 2 ^ 64))
def powOk (i : Int) : Int → Bool
  | .ofNat n => decide ((i.natAbs.log2 + 1) * n ≤ 134217728)
  | .negSucc _ => false
def divOk (j : Int) : Bool := decide (0 < j) && decide (j.natAbs.log2 < 9000)
def lenOk (n : Nat) : Bool := decide (n ≤ 1000000)
def binD : BO → PyData → PyData → Option Rv
  | .add, .int i, .int j => some (.val (.int (i + j)))
  | .sub, .int i, .int j => some (.val (.int (i - j)))
  | .mul, .int i, .int j => if mulOk i j then some (.val (.int (i * j))) else none
  | .fdiv, .int i, .int j => if divOk j then some (.val (.int (i / j))) else none
  | .mod, .int i, .int j => if 0 < j then some (.val (.int (i % j))) else none
  | .pow, .int i, .int j => if (0 ≤ j ∧ j ≤ 1000000 ∧ i.natAbs < 2 ^ 64) ∨ powOk i j = true then some (.val (.int (i ^ j.toNat))) else none
  | .shl, .int i, .int j => if 0 ≤ j ∧ j ≤ 1000000 ∧ i.natAbs < 2 ^ 64 then some (.val (.int (i * 2 ^ j.toNat))) else none
  | .shr, .int i, .int j => if 0 ≤ j then some (.val (.int (i / 2 ^ j.toNat))) else none
  | .add, .tuple xs, .tuple ys => if lenOk (xs.length + ys.length) then some (.val (.tuple (xs ++ ys))) else none
  | .add, .str x, .str y => if lenOk (x.length + y.length) then some (.val (.str (x ++ y))) else none
  | .add, .list xs, .list ys => if lenOk (xs.length + ys.length) then some (.own (.list (xs ++ ys))) else none
  | .mul, .list xs, .int k => if 0 ≤ k ∧ k ≤ 1000000 ∧ lenOk (xs.length * k.toNat) then some (.own (.list (List.replicate k.toNat xs).flatten)) else none
  | .mul, .tuple xs, .int k => if xs ≠ [] ∧ 1 ≤ k ∧ k ≤ 1000 ∧ xs.length ≤ 1000 then some (.val (.tuple (List.replicate k.toNat xs).flatten)) else none
  | _, _, _ => none
mutual
def dicFree : PyData → Bool
  | .dict _ => false
  | .tuple ds => dicFrees ds
  | .list ds => dicFrees ds
  | _ => true
def dicFrees : List PyData → Bool
  | [] => true
  | d :: ds => dicFree d && dicFrees ds
end
def eqOk (d : PyData) : Bool := SeqAt.shaped d
/-- a dict whose keys are ints and texts -/
def kDic : List (PyData × PyData) → Bool
  | (.tuple _, _) :: _ => false
  | _ => true
/-- a dict whose keys are tuples -/
def tDic : List (PyData × PyData) → Bool
  | [] => true
  | (.tuple _, _) :: _ => true
  | _ => false
/-- a key that fits -/
def fitD (ds : List (PyData × PyData)) : PyData → Bool
  | .int _ => kDic ds
  | .str _ => kDic ds
  | .tuple t => tDic ds && tOk (.tuple t)
  | _ => false
def kOk : PyData → Bool
  | .int _ => true
  | .str _ => true
  | _ => false
def kEq : PyData → PyData → Bool
  | .int i, .int j => decide (i = j)
  | .str x, .str y => decide (x = y)
  | .tuple a, .tuple b => PyData.eqvAll a b
  | _, _ => false
def dLook (ds : List (PyData × PyData)) (k : PyData) : Option PyData := (ds.find? fun p => kEq p.1 k).map (·.2)
def dPut (ds : List (PyData × PyData)) (k v : PyData) : List (PyData × PyData) := if (ds.any fun p => kEq p.1 k) = true then ds.map fun p => if kEq p.1 k = true then (p.1, v) else p else ds ++ [(k, v)]
def inD (d : PyData) (ds : List PyData) : Bool := ds.any fun z => PyData.eqv z d
def flatD : PyData → Bool
  | .none => true
  | .bool _ => true
  | .int _ => true
  | .str _ => true
  | _ => false
def cmpD : CO → PyData → PyData → Option Bool
  | .isN, d, _ => some (match d with | .none => true | _ => false)
  | .notN, d, _ => some (match d with | .none => false | _ => true)
  | .eq, d, e => if eqOk d && eqOk e then some (PyData.eqv d e) else none
  | .ne, d, e => if eqOk d && eqOk e then some (!PyData.eqv d e) else none
  | .lt, .int i, .int j => some (decide (i < j))
  | .le, .int i, .int j => some (decide (i ≤ j))
  | .gt, .int i, .int j => some (decide (j < i))
  | .ge, .int i, .int j => some (decide (j ≤ i))
  | .inn, d, .list ds => if eqOk d && eqOk (.list ds) then some (inD d ds) else none
  | .notin, d, .list ds => if eqOk d && eqOk (.list ds) then some (!inD d ds) else none
  | .inn, d, .tuple ds => if flatD d && ds.all flatD then some (inD d ds) else none
  | .notin, d, .tuple ds => if flatD d && ds.all flatD then some (!inD d ds) else none
  | .inn, d, .dict ds => if fitD ds d then some (dLook ds d).isSome else none
  | .notin, d, .dict ds => if fitD ds d then some (!(dLook ds d).isSome) else none
  | _, _, _ => none
def ixD (n : Nat) (i : Int) : Option Nat := L2.ixN n i
def idxD : PyData → PyData → Option Rv
  | .list xs, .int i => match ixD xs.length i with
    | some j => (xs[j]?).map .val
    | none => none
  | .tuple xs, .int i => match ixD xs.length i with
    | some j => (xs[j]?).map .val
    | none => none
  | .dict ds, k => if fitD ds k then (dLook ds k).map .val else none
  | _, _ => none
def cutD (xs : List PyData) (lo hi : Option Int) : List PyData := (xs.drop (HT.sIx xs.length 0 lo)).take (HT.sIx xs.length xs.length hi - HT.sIx xs.length 0 lo)
def slcD (d : PyData) (lo hi : Option Int) : Option Rv := match d with
  | .list xs => some (.own (.list (cutD xs lo hi)))
  | .tuple xs => some (.val (.tuple (cutD xs lo hi)))
  | _ => none
def isSkip : Ex → Bool
  | .skip => true
  | _ => false
/-- an end of a slice -/
def endR (b : Bool) (r : Rs Rv) (ρ : Env) : Rs (Option Int) := if b = true then .ok none ρ else r.bind fun y ρ1 => match y with
  | .val (.int i) => .ok (some i) ρ1
  | _ => .no
def intsOf : List PyData → Option (List Int)
  | [] => some []
  | .int i :: r => (intsOf r).map (i :: ·)
  | _ => none
def boolsOf : List PyData → Option (List Bool)
  | [] => some []
  | .bool i :: r => (boolsOf r).map (i :: ·)
  | _ => none
def maxI : List Int → Int
  | [] => 0
  | [a] => a
  | a :: r => let m := maxI r; if m ≤ a then a else m
def minI : List Int → Int
  | [] => 0
  | [a] => a
  | a :: r => let m := minI r; if a ≤ m then a else m
def biD : Bi → List PyData → Option Rv
  | .len, [.list xs] => some (.val (.int xs.length))
  | .len, [.tuple xs] => some (.val (.int xs.length))
  | .len, [.str x] => if lenOk x.length then some (.val (.int x.length)) else none
  | .len, [.dict xs] => if kDic xs = true then some (.val (.int xs.length)) else none
  | .sum, [.list xs] => (intsOf xs).map fun ns => .val (.int ns.sum)
  | .sum, [.tuple xs] => (intsOf xs).map fun ns => .val (.int ns.sum)
  | .int, [.int i] => some (.val (.int i))
  | .int, [.bool k] => some (.val (.int (if k then 1 else 0)))
  | .abs, [.int i] => some (.val (.int (if i < 0 then -i else i)))
  | .max, [.int i, .int j] => some (.val (.int (if j > i then j else i)))
  | .min, [.int i, .int j] => some (.val (.int (if j < i then j else i)))
  | .max, [.list xs] => match intsOf xs with
    | some (n :: ns) => some (.val (.int (maxI (n :: ns))))
    | _ => none
  | .min, [.list xs] => match intsOf xs with
    | some (n :: ns) => some (.val (.int (minI (n :: ns))))
    | _ => none
  | .tuple, [.list xs] => some (.val (.tuple xs))
  | .tuple, [.tuple xs] => some (.val (.tuple xs))
  | .list, [.list xs] => some (.own (.list xs))
  | .list, [.tuple xs] => some (.own (.list xs))
  | .all, [.list xs] => (boolsOf xs).map fun bs => .val (.bool (bs.all id))
  | .any, [.list xs] => (boolsOf xs).map fun bs => .val (.bool (bs.any id))
  | .gcd, [.int i, .int j] => some (.val (.int ((Nat.gcd i.natAbs j.natAbs : Nat) : Int)))
  | .comb, [.int i, .int j] => if 0 ≤ i ∧ 0 ≤ j ∧ i ≤ 18000 then some (.val (.int (PySem.W.mcComb i j))) else none
  | .fact, [.int i] => if 0 ≤ i ∧ i ≤ 20000 then some (.val (.int ((Builtin.Math.factorialNat i.toNat : Nat) : Int))) else none
  | .str, [.int i] => if i.natAbs.log2 < 1920 then some (.val (.str (toString i))) else none
  | .sorted, [.list xs] => (intsOf xs).map fun ns => .own (.list ((ns.mergeSort (fun a b => decide (a ≤ b))).map .int))
  | _, _ => none
def tyName : PyData → String
  | .none => "NoneType"
  | .bool _ => "bool"
  | .int _ => "int"
  | .str _ => "str"
  | .list _ => "list"
  | .tuple _ => "tuple"
  | .dict _ => "dict"
def isiD (d : PyData) (ts : List String) : Bool := ts.any fun t => t == tyName d || (t == "int" && tyName d == "bool")
/-- the classes that are asked for are those of data at hand -/
def isiOk : PyData → Bool
  | .dict ds => kDic ds
  | _ => true
def isiE (d : PyData) (ts : List String) (ρ : Env) : Rs Rv := if isiOk d = true then .ok (.val (.bool (isiD d ts))) ρ else .no
def findD (ds : List PyData) (d : PyData) : Option Nat := ds.findIdx? fun z => PyData.eqv z d
def methD : Me → PyData → List PyData → Option Rv
  | .index, .list ds, [d] => if eqOk d && eqOk (.list ds) then (findD ds d).map fun j => .val (.int j) else none
  | _, _, _ => none

def indexD : PyData → PyData → Option Rv
  | .list ds, d => if eqOk d && eqOk (.list ds) then (findD ds d).map (fun j : Nat => Rv.val (.int (j : Int))) else none
  | _, _ => none
/-- how many bits an int has -/
def blen (i : Int) : Nat := if i = 0 then 0 else i.natAbs.log2 + 1
def bitlD : PyData → Option Rv
  | .int i => some (.val (.int (blen i : Nat)))
  | _ => none
def isBD (n c : Bool) : PyData → Option Rv
  | .bool b => some (.val (.bool (if n = true then !decide (b = c) else decide (b = c))))
  | _ => none
/-- ascending, each once -/
def insD (k : Int) : List Int → List Int
  | [] => [k]
  | x :: xs => if k < x then k :: x :: xs else if k = x then x :: xs else x :: insD k xs
def sdl : List Int → List Int
  | [] => []
  | x :: xs => insD x (sdl xs)
def strsOf : List PyData → Option (List Str)
  | [] => some []
  | .str x :: r => (strsOf r).map (x :: ·)
  | _ => none
def joinD (sep : Str) : PyData → Option Rv
  | .list ds => (strsOf ds).bind fun ys => if (ys.map (·.length)).sum + ys.length * sep.length ≤ 1000000 then some (.val (.str (Txt.join sep ys))) else none
  | _ => none
def cdxD (kvs : List (Str × Str)) : PyData → Option Rv
  | .str z => ((kvs.find? fun p => decide (p.1 = z)).map (·.2)).map fun v => .val (.str v)
  | _ => none
def lsetD : PyData → Option Rv
  | .list ds => if ds.length < 1000 then (intsOf ds).map fun ns => .val (.int ((PyProof.Rows.firstMet (fun i => ns.getD i 0) ns.length).length : Nat)) else none
  | _ => none
def ssetD : PyData → Option Rv
  | .list xs => if xs.length < 64 then (intsOf xs).map fun ns => .own (.list ((sdl ns).map .int)) else none
  | _ => none
def revD : PyData → Option Rv
  | .list xs => some (.own (.list xs.reverse))
  | .tuple xs => some (.val (.tuple xs.reverse))
  | _ => none
def oLst (ρ : Env) (i : Nat) : Bool := match ρ[i]? with
  | some (some (true, .list _)) => true
  | _ => false
/-- an own list or dict -/
def oMut (ρ : Env) (i : Nat) : Bool := match ρ[i]? with
  | some (some (true, .list _)) => true
  | some (some (true, .dict _)) => true
  | _ => false
/-- xs.pop(k) -/
def popD (i : Nat) (k : Int) (ρ : Env) : Option (PyData × Env) := match ρ[i]? with
  | some (some (true, .list ds)) => match k with
    | .ofNat n => if n < 2 ^ 62 then (ds[n]?).map fun d => (d, ρ.set i (some (true, .list (ds.eraseIdx n)))) else none
    | .negSucc _ => none
  | _ => none

/-! ### targets -/
mutual
def asgT (lk : List Nat) : Tg → PyData → Env → Option Env
  | .nm i, d, ρ => if i ∈ lk ∨ ¬ i < ρ.length then none else some (ρ.set i (some (false, d)))
  | .tp ts, .tuple ds, ρ => asgTs lk ts ds ρ
  | .tp _, _, _ => none
def asgTs (lk : List Nat) : List Tg → List PyData → Env → Option Env
  | [], [], ρ => some ρ
  | t :: ts, d :: ds, ρ => match asgT lk t d ρ with
    | some ρ1 => asgTs lk ts ds ρ1
    | none => none
  | _, _, _ => none
end
/-- x = a value -/
def stoV (lk : List Nat) (i : Nat) (r : Rv) (ρ : Env) : Option Env :=
  if i ∈ lk ∨ ¬ i < ρ.length then none else match r with
  | .val d => some (ρ.set i (some (false, d)))
  | .own d => some (ρ.set i (some (true, d)))
  | .sl j => if j ∈ lk then none else match ρ[j]? with
    | some (some (_, d)) => some ((ρ.set j (some (false, d))).set i (some (false, d)))
    | _ => none
def stoVs (lk : List Nat) : List Nat → List Rv → Env → Option Env
  | [], [], ρ => some ρ
  | _ :: _, .sl _ :: _, _ => none
  | i :: is, r :: rs, ρ => match stoV lk i r ρ with
    | some ρ1 => stoVs lk is rs ρ1
    | none => none
  | _, _, _ => none
/-- the comprehension's own slots are empty -/
def wipeE (ρ : Env) : List Nat → Env
  | [] => ρ
  | v :: vs => (wipeE ρ vs).set v none
def plainAt (ρ : Env) (i : Nat) : Bool := match ρ[i]? with
  | some (some (true, _)) => false
  | _ => true
/-- .. and are again what they were -/
def backE (ρ0 ρ : Env) : List Nat → Env
  | [] => ρ
  | v :: vs => (backE ρ0 ρ vs).set v ((ρ0[v]?).getD none)

/-! ### calls -/
/-- the parameters that are changed: their slots at the caller -/
def ioSl : List Bool → List Rv → Env → Option (List Nat)
  | [], [], _ => some []
  | true :: io, .sl i :: rs, ρ => match ρ[i]?, ioSl io rs ρ with
    | some (some (true, _)), some sl => if i ∈ sl then none else some (i :: sl)
    | _, _ => none
  | false :: io, _ :: rs, ρ => ioSl io rs ρ
  | _, _, _ => none
def isMut : Rv → Bool
  | .sl _ => true
  | _ => false
/-- own lists that are lent to parameters that are not changed -/
def lent : List Bool → List Rv → List Nat
  | false :: io, .sl i :: rs => i :: lent io rs
  | _ :: io, _ :: rs => lent io rs
  | _, _ => []
def setIo (ρ : Env) : List Nat → List PyData → Env
  | i :: is, d :: ds => setIo (ρ.set i (some (true, d))) is ds
  | _, _ => ρ
def permR : List Nat → List Rv → Option (List Rv)
  | [], rs => some rs
  | p :: ps, rs => (p :: ps).mapM fun j => rs[j]?
def callE (io : Nat → List Bool) (cf : Nat → List PyData → FR) (f : Nat) (perm : List Nat) (rs0 : List Rv) (ρ : Env) : Rs Rv :=
  match permR perm rs0 with
  | none => .no
  | some rs => match dats ρ rs, ioSl (io f) rs ρ with
    | some ds, some sl => if (lent (io f) rs).all (fun i => !sl.contains i) = true then match cf f ds with
      | .ret o d ds' => if sl.length = ds'.length ∧ (lent (io f) rs ≠ [] → (if o then frozenKids d else frozen d) = true ∧ ds'.all frozenKids = true) then .ok (if o then .own d else .val d) (setIo ρ sl ds') else .no
      | .exc c d ds' => if sl.length = ds'.length ∧ (lent (io f) rs ≠ [] → frozen d = true ∧ ds'.all frozenKids = true) then .exc c d (setIo ρ sl ds') else .no
      | .no => .no else .no
    | _, _ => .no

/-- a new list given to a parameter that is changed: it lies in a slot more for the call -/
def ownIx : List Bool → List Rv → Option (Nat × PyData)
  | true :: _, .own d :: _ => some (0, d)
  | _ :: io, _ :: rs => (ownIx io rs).map fun p => (p.1 + 1, p.2)
  | _, _ => none
def ownS (ρ : Env) (n : Nat) : Bool := match ρ[n]? with
  | some (some (true, _)) => true
  | _ => false
def trimE (n : Nat) : Rs Rv → Rs Rv
  | .ok (.val d) ρ => if ownS ρ n = true then .ok (.val d) (ρ.take n) else .no
  | .ok (.own d) ρ => if ownS ρ n = true then .ok (.own d) (ρ.take n) else .no
  | .ok (.sl _) _ => .no
  | .exc c d ρ => if ownS ρ n = true then .exc c d (ρ.take n) else .no
  | .no => .no
def callP (io : Nat → List Bool) (cf : Nat → List PyData → FR) (f : Nat) (rs : List Rv) (ρ : Env) : Rs Rv := match ownIx (io f) rs with
  | none => callE io cf f [] rs ρ
  | some (k, d) => trimE ρ.length (callE io cf f [] (rs.set k (.sl ρ.length)) (ρ ++ [some (true, d)]))

/-! ### loops -/
def compL (lk own : List Nat) (ρ0 : Env) (t : Tg) (c : Env → Rs Bool) (e : Env → Rs Rv) : List PyData → List PyData → Env → Rs (List PyData)
  | [], acc, ρ => .ok acc ρ
  | d :: ds, acc, ρ => match asgT lk t d (wipeE ρ own) with
    | none => .no
    | some ρ1 => match c ρ1 with
      | .ok false ρ2 => compL lk own ρ0 t c e ds acc (backE ρ0 ρ2 own)
      | .ok true ρ2 => match e ρ2 with
        | .ok r ρ3 => match keepV (lk ++ own) r ρ3 with
          | .ok y ρ4 => if lenOk (acc.length + 1) then compL lk own ρ0 t c e ds (acc ++ [y]) (backE ρ0 ρ4 own) else .no
          | _ => .no
        | _ => .no
      | _ => .no
/-- two clauses: f walks the second one -/
def comp2L (lk own : List Nat) (ρ0 : Env) (t : Tg) (c : Env → Rs Bool) (f : List PyData → Env → Rs (List PyData)) : List PyData → List PyData → Env → Rs (List PyData)
  | [], acc, ρ => .ok acc ρ
  | d :: ds, acc, ρ => match asgT lk t d (wipeE ρ own) with
    | none => .no
    | some ρ1 => match c ρ1 with
      | .ok false ρ2 => comp2L lk own ρ0 t c f ds acc (backE ρ0 ρ2 own)
      | .ok true ρ2 => match f acc ρ2 with
        | .ok acc' ρ3 => comp2L lk own ρ0 t c f ds acc' (backE ρ0 ρ3 own)
        | _ => .no
      | _ => .no
def forL (lk : List Nat) (t : Tg) (b : Env → Out) : List PyData → Env → Out
  | [], ρ => .nx ρ
  | d :: ds, ρ => match asgT lk t d ρ with
    | none => .no
    | some ρ1 => match b ρ1 with
      | .nx ρ2 => forL lk t b ds ρ2
      | .cnt ρ2 => forL lk t b ds ρ2
      | .brk ρ2 => .nx ρ2
      | o => o
def whileF (c : Env → Rs Bool) (b : Env → Out) : Nat → Env → Out
  | 0, _ => .no
  | n + 1, ρ => match c ρ with
    | .ok false ρ1 => .nx ρ1
    | .ok true ρ1 => match b ρ1 with
      | .nx ρ2 => whileF c b n ρ2
      | .cnt ρ2 => whileF c b n ρ2
      | .brk ρ2 => .nx ρ2
      | o => o
    | .exc x d ρ1 => .exc x d ρ1
    | .no => .no
open Classical in
noncomputable def whileE (c : Env → Rs Bool) (b : Env → Out) (ρ : Env) : Out :=
  if h : ∃ n, whileF c b n ρ ≠ .no then whileF c b (Classical.choose h) ρ else .no
def rngD (lo hi : Int) : List PyData := (List.range (hi - lo).toNat).map fun i => PyData.int (lo + (i : Nat))
def rngC (lo c : Int) (n : Nat) : List PyData := (List.range n).map fun i => PyData.int (lo + (i : Nat) * c)
def rngOk : Int → Bool
  | .ofNat n => decide (n < 2 ^ 62)
  | .negSucc n => decide (n < 2 ^ 62)
/-- a place to insert at -/
def insOk : Int → Bool
  | .ofNat n => decide (n < 2 ^ 62)
  | .negSucc _ => false
theorem insOk_le {i : Int} (h : insOk i = true) : 0 ≤ i ∧ i < 2 ^ 62 := by
  cases i with
  | ofNat n =>
    have : Int.ofNat n = (n : Int) := rfl
    simp only [insOk, decide_eq_true_eq] at h
    rw [this]
    omega
  | negSucc n => cases h
theorem rngOk_eq (i : Int) : rngOk i = (decide (-(2 ^ 62) ≤ i) && decide (i < 2 ^ 62)) := by
  rw [Bool.eq_iff_iff]
  cases i with
  | ofNat n =>
    have : Int.ofNat n = (n : Int) := rfl
    simp only [rngOk, decide_eq_true_eq, Bool.and_eq_true, this]
    omega
  | negSucc n =>
    have : Int.negSucc n = -((n : Int) + 1) := by omega
    simp only [rngOk, decide_eq_true_eq, Bool.and_eq_true, this]
    omega
def enumD (ds : List PyData) : List PyData := (List.range ds.length).map fun i => PyData.tuple [.int (i : Nat), ds.getD i .none]
def zipD (ds es : List PyData) : List PyData := (List.range (min ds.length es.length)).map fun i => PyData.tuple [ds.getD i .none, es.getD i .none]

section
variable (io : Nat → List Bool) (cf : Nat → List PyData → FR) (lk : List Nat)
mutual
def evE : Ex → Env → Rs Rv
  | .lit d, ρ => .ok (.val d) ρ
  | .glob _ d, ρ => .ok (.val d) ρ
  | .var i, ρ => match ρ[i]? with
    | some (some (false, d)) => .ok (.val d) ρ
    | some (some (true, _)) => .ok (.sl i) ρ
    | _ => .no
  | .bin o a b, ρ => (evE a ρ).bind fun x ρ1 => (evE b ρ1).bind fun y ρ2 => match dat ρ2 x, dat ρ2 y with
    | some d, some e => liftR (binD o d e) ρ2
    | _, _ => .no
  | .neg a, ρ => (evE a ρ).bind fun x ρ1 => match dat ρ1 x with
    | some (.int i) => .ok (.val (.int (-i))) ρ1
    | _ => .no
  | .cmp o a b, ρ => (evE a ρ).bind fun x ρ1 => (evE b ρ1).bind fun y ρ2 => match dat ρ2 x, dat ρ2 y with
    | some d, some e => liftR ((cmpD o d e).map fun c => .val (.bool c)) ρ2
    | _, _ => .no
  | .cmp2 o p a b c, ρ => (evE a ρ).bind fun x ρ1 => (evE b ρ1).bind fun y ρ2 => match dat ρ2 x, dat ρ2 y with
    | some d, some e => match cmpD o d e with
      | some true => (evE c ρ2).bind fun z ρ3 => match dat ρ3 y, dat ρ3 z with
        | some e', some f => liftR ((cmpD p e' f).map fun c => .val (.bool c)) ρ3
        | _, _ => .no
      | some false => .ok (.val (.bool false)) ρ2
      | none => .no
    | _, _ => .no
  | .and a b, ρ => (evE a ρ).bind fun x ρ1 => match x with
    | .val (.bool true) => evE b ρ1
    | .val (.bool false) => .ok (.val (.bool false)) ρ1
    | _ => .no
  | .or a b, ρ => (evE a ρ).bind fun x ρ1 => match x with
    | .val (.bool false) => evE b ρ1
    | .val (.bool true) => .ok (.val (.bool true)) ρ1
    | _ => .no
  | .not a, ρ => (evE a ρ).bind fun x ρ1 => match x with
    | .val (.bool c) => .ok (.val (.bool !c)) ρ1
    | _ => .no
  | .ife c a b, ρ => (evE c ρ).bind fun x ρ1 => match x with
    | .val (.bool true) => evE a ρ1
    | .val (.bool false) => evE b ρ1
    | _ => .no
  | .tup es, ρ => (evEs es ρ).bind fun rs ρ1 => (keepVs lk rs ρ1).bind fun ds ρ2 => if lenOk ds.length then .ok (.val (.tuple ds)) ρ2 else .no
  | .lst es, ρ => (evEs es ρ).bind fun rs ρ1 => (keepVs lk rs ρ1).bind fun ds ρ2 => if lenOk ds.length then .ok (.own (.list ds)) ρ2 else .no
  | .emp, ρ => .ok (.own (.dict [])) ρ
  | .idx a b, ρ => (evE a ρ).bind fun x ρ1 => (evE b ρ1).bind fun y ρ2 => match dat ρ2 x, dat ρ2 y with
    | some d, some e => liftR (idxD d e) ρ2
    | _, _ => .no
  | .slc a l h, ρ => (evE a ρ).bind fun x ρ1 => (endR (isSkip l) (evE l ρ1) ρ1).bind fun lo ρ2 => (endR (isSkip h) (evE h ρ2) ρ2).bind fun hi ρ3 => match dat ρ3 x with
    | some d => liftR (slcD d lo hi) ρ3
    | _ => .no
  | .call f perm es ks, ρ => (evEs es ρ).bind fun rs ρ1 => (evEs ks ρ1).bind fun qs ρ2 => callE io cf f perm (rs ++ qs) ρ2
  | .callP f es, ρ => (evEs es ρ).bind fun rs ρ1 => callP io cf f rs ρ1
  | .bi b es, ρ => (evEs es ρ).bind fun rs ρ1 => match dats ρ1 rs with
    | some ds => liftR (biD b ds) ρ1
    | none => .no
  | .isi a ts, ρ => (evE a ρ).bind fun x ρ1 => match dat ρ1 x with
    | some d => isiE d ts ρ1
    | none => .no
  | .meth m a es, ρ => (evE a ρ).bind fun x ρ1 => (evEs es ρ1).bind fun rs ρ2 => match dat ρ2 x, dats ρ2 rs with
    | some d, some ds => liftR (methD m d ds) ρ2
    | _, _ => .no
  | .comp own e t s c, ρ => (evS s ρ).bind fun ds ρ1 => if own.all (plainAt ρ1) then
      (compL lk own ρ1 t (fun ρ => (evE c ρ).bind fun x ρ1 => match x with
        | .val (.bool b) => .ok b ρ1
        | _ => .no) (fun ρ => evE e ρ) ds [] ρ1).bind fun ys ρ2 => .ok (.own (.list ys)) ρ2 else .no
  | .comp2 own vs1 e t s c t1 s1 c1, ρ => (evS s ρ).bind fun ds ρ1 => if own.all (plainAt ρ1) then
      (comp2L lk own ρ1 t (fun ρ => (evE c ρ).bind fun x ρ1 => match x with
        | .val (.bool b) => .ok b ρ1
        | _ => .no) (fun acc ρ => match evS s1 ρ with
          | .ok ds1 ρ3 => if vs1.all (plainAt ρ3) then compL lk vs1 ρ3 t1 (fun ρ => (evE c1 ρ).bind fun x ρ1 => match x with
              | .val (.bool b) => .ok b ρ1
              | _ => .no) (fun ρ => evE e ρ) ds1 acc ρ3 else .no
          | _ => .no) ds [] ρ1).bind fun ys ρ2 => .ok (.own (.list ys)) ρ2 else .no
  | .col t s, ρ => (evS s ρ).bind fun ds ρ1 => if lenOk ds.length then (if t = true then .ok (.val (.tuple ds)) ρ1 else .ok (.own (.list ds)) ρ1) else .no
  | .index a b, ρ => (evE a ρ).bind fun x ρ1 => match dat ρ1 x with
    | some (.list _) => (evE b ρ1).bind fun y ρ2 => match dat ρ2 x, dat ρ2 y with
      | some d, some e => liftR (indexD d e) ρ2
      | _, _ => .no
    | _ => .no
  | .bitl a, ρ => (evE a ρ).bind fun x ρ1 => match dat ρ1 x with
    | some d => liftR (bitlD d) ρ1
    | _ => .no
  | .isB n a c, ρ => (evE a ρ).bind fun x ρ1 => match dat ρ1 x with
    | some d => liftR (isBD n c d) ρ1
    | _ => .no
  | .rev a, ρ => (evE a ρ).bind fun x ρ1 => match dat ρ1 x with
    | some d => liftR (revD d) ρ1
    | _ => .no
  | .sset a, ρ => (evE a ρ).bind fun x ρ1 => match dat ρ1 x with
    | some d => liftR (ssetD d) ρ1
    | _ => .no
  | .join sep a, ρ => (evE a ρ).bind fun x ρ1 => match dat ρ1 x with
    | some d => liftR (joinD sep d) ρ1
    | _ => .no
  | .dsp kvs, ρ => if (kvs.map (·.1)).Nodup then .ok (.own (.dict (kvs.map fun p => (.str p.1, .str p.2)))) ρ else .no
  | .cdx _ kvs a, ρ => (evE a ρ).bind fun x ρ1 => match dat ρ1 x with
    | some d => liftR (cdxD kvs d) ρ1
    | _ => .no
  | .lset a, ρ => (evE a ρ).bind fun x ρ1 => match dat ρ1 x with
    | some d => liftR (lsetD d) ρ1
    | _ => .no
  | .popI i e, ρ => if oLst ρ i = true then (evE e ρ).bind fun y ρ1 => match y with
    | .val (.int k) => match popD i k ρ1 with
      | some (d, ρ2) => .ok (.val d) ρ2
      | none => .no
    | _ => .no else .no
  | .skip, ρ => .ok (.val (.bool true)) ρ
def evEs : Exs → Env → Rs (List Rv)
  | .nil, ρ => .ok [] ρ
  | .cons e es, ρ => (evE e ρ).bind fun x ρ1 => (evEs es ρ1).bind fun xs ρ2 => .ok (x :: xs) ρ2
def evS : Sr → Env → Rs (List PyData)
  | .seq e, ρ => (evE e ρ).bind fun x ρ1 => (keepV lk x ρ1).bind fun d ρ2 => match d with
    | .list ds => .ok ds ρ2
    | .tuple ds => .ok ds ρ2
    | _ => .no
  | .rng1 a, ρ => (evE a ρ).bind fun x ρ1 => match x with
    | .val (.int i) => if rngOk i then .ok (rngD 0 i) ρ1 else .no
    | _ => .no
  | .rng2 a b, ρ => (evE a ρ).bind fun x ρ1 => (evE b ρ1).bind fun y ρ2 => match x, y with
    | .val (.int i), .val (.int j) => if rngOk i && rngOk j then .ok (rngD i j) ρ2 else .no
    | _, _ => .no
  | .rng3 a b c, ρ => (evE a ρ).bind fun x ρ1 => (evE b ρ1).bind fun y ρ2 => (evE c ρ2).bind fun z ρ3 => match x, y, z with
    | .val (.int i), .val (.int j), .val (.int k) => if rngOk i && rngOk j && k == -1 then .ok (rngC i (-1) (i - j).toNat) ρ3 else .no
    | _, _, _ => .no
  | .enum e, ρ => (evE e ρ).bind fun x ρ1 => (keepV lk x ρ1).bind fun d ρ2 => match d with
    | .list ds => .ok (enumD ds) ρ2
    | .tuple ds => .ok (enumD ds) ρ2
    | _ => .no
  | .zip a b, ρ => (evE a ρ).bind fun x ρ1 => (evE b ρ1).bind fun y ρ2 => (keepV lk x ρ2).bind fun d ρ3 => (keepV lk y ρ3).bind fun e ρ4 => match d, e with
    | .list ds, .list es => .ok (zipD ds es) ρ4
    | .tuple ds, .tuple es => .ok (zipD ds es) ρ4
    | _, _ => .no
  | .items _, _ => .no
end
def evT (c : Ex) (ρ : Env) : Rs Bool := (evE io cf lk c ρ).bind fun x ρ1 => match x with
  | .val (.bool b) => .ok b ρ1
  | _ => .no
def optN (o : Option Env) : Out := match o with
  | some ρ => .nx ρ
  | none => .no
@[simp] theorem optN_some (ρ : Env) : optN (some ρ) = .nx ρ := rfl
/-- an own slot's list is changed -/
def chgL (i : Nat) (f : List PyData → Option (List PyData)) (ρ : Env) : Option Env := match ρ[i]? with
  | some (some (true, .list ds)) => match f ds with
    | some ds' => if lenOk ds'.length then some (ρ.set i (some (true, .list ds'))) else none
    | none => none
  | _ => none
def setD (ds : List PyData) (j : PyData) (d : PyData) : Option (List PyData) := match j with
  | .int k => (ixD ds.length k).map fun n => ds.set n d
  | _ => none
/-- xs[j], an int in an own list -/
def augG (ρ : Env) (i : Nat) (j : Int) : Option Int := match ρ[i]? with
  | some (some (true, .list ds)) => match (ixD ds.length j).bind (fun n => ds[n]?) with
    | some (.int x) => some x
    | _ => none
  | _ => none
/-- xs[j] = d, of an own list or dict -/
def setO (i : Nat) (j d : PyData) (ρ : Env) : Option Env := match ρ[i]? with
  | some (some (true, .list ds)) => match setD ds j d with
    | some ds' => if lenOk ds'.length then some (ρ.set i (some (true, .list ds'))) else none
    | none => none
  | some (some (true, .dict ds)) => if fitD ds j && lenOk (ds.length + 1) then some (ρ.set i (some (true, .dict (dPut ds j d)))) else none
  | _ => none
/-- a op= b, ints -/
def augD : BO → Int → Int → Option Int
  | .add, i, j => some (i + j)
  | .sub, i, j => some (i - j)
  | .mul, i, j => if mulOk i j then some (i * j) else none
  | .mod, i, j => if 0 < j then some (i % j) else none
  | .fdiv, i, j => if 0 < j ∧ j < 1073741824 then some (i / j) else none
  | .pow, _, _ => none
  | .shl, _, _ => none
  | .shr, _, _ => none
/-- a class under another one: 0 is the base of all -/
def subc (c h : Nat) : Bool := h == 0 || c == h
def hvD (d : PyData) : HV → PyData
  | .lit x => x
  | .val => d
def haR (d : PyData) : HA → Rv
  | .one h => .val (hvD d h)
  | .tup hs => .val (.tuple (hs.map (hvD d)))
  | .lst hs => .own (.list (hs.map (hvD d)))
/-- the clause's name is free -/
def hole (lk : List Nat) (i : Nat) (ρ : Env) : Option Nat → Bool
  | none => true
  | some j => (match ρ[j]? with | some none => true | _ => false) && (j != i && !lk.contains j)
def hdl (lk : List Nat) (d : PyData) (c : Nat) (ρ : Env) : List Hd → Out
  | [] => .exc c d ρ
  | h :: r => if subc c h.c = true then (if hole lk h.i ρ h.e = true then optN (stoV lk h.i (haR d h.a) ρ) else .no) else hdl lk d c ρ r
def catO (lk : List Nat) (hs : List Hd) (lo nc : Nat) : Out → Out
  | .exc c d ρ => if lo ≤ c ∧ c < nc then hdl lk d c ρ hs else .no
  | o => o
mutual
noncomputable def exS : St → Env → Out
  | .pass, ρ => .nx ρ
  | .drop e, ρ => (evE io cf lk e ρ).out fun _ ρ1 => .nx ρ1
  | .asg (.nm i) e, ρ => (evE io cf lk e ρ).out fun x ρ1 => optN (stoV lk i x ρ1)
  | .asg (.tp ts) e, ρ => (evE io cf lk e ρ).out fun x ρ1 => (keepV lk x ρ1).out fun d ρ2 => optN (asgT lk (.tp ts) d ρ2)
  | .par js es, ρ => (evEs io cf lk es ρ).out fun xs ρ1 => optN (stoVs lk js xs ρ1)
  | .parT js es, ρ => (evEs io cf lk es ρ).out fun xs ρ1 => optN (stoVs lk js xs ρ1)
  | .setI i ix e, ρ => (evE io cf lk e ρ).out fun x ρ1 => (keepV lk x ρ1).out fun d ρ2 => if oMut ρ2 i = true then (evE io cf lk ix ρ2).out fun y ρ3 => match y with
    | .val j => optN (setO i j d ρ3)
    | _ => .no else .no
  | .augN i o e, ρ => match ρ[i]? with
    | some (some (false, .int x)) => (evE io cf lk e ρ).out fun y ρ1 => match y with
      | .val (.int j) => match augD o x j with
        | some k => optN (stoV lk i (.val (.int k)) ρ1)
        | none => .no
      | _ => .no
    | _ => .no
  | .augI i ix o e, ρ => if oLst ρ i = true then (evE io cf lk ix ρ).out fun y ρ1 => match y with
    | .val (.int j) => match augG ρ1 i j with
      | some x => (evE io cf lk e ρ1).out fun z ρ2 => match z with
        | .val (.int w) => match augD o x w with
          | some k => optN (chgL i (fun ds => setD ds (.int j) (.int k)) ρ2)
          | none => .no
        | _ => .no
      | none => .no
    | _ => .no else .no
  | .app i e, ρ => if oLst ρ i = true then (evE io cf lk e ρ).out fun x ρ1 => (keepV lk x ρ1).out fun d ρ2 => optN (chgL i (fun ds => some (ds ++ [d])) ρ2) else .no
  | .ext i e, ρ => if oLst ρ i = true then (evE io cf lk e ρ).out fun x ρ1 => match x with
    | .own (.list es) => optN (chgL i (fun ds => some (ds ++ es)) ρ1)
    | .sl j => match ρ1[j]? with
      | some (some (true, .list es)) => optN (chgL i (fun ds => some (ds ++ es)) ρ1)
      | _ => .no
    | _ => .no else .no
  | .ins i a e, ρ => if oLst ρ i = true then (evE io cf lk a ρ).out fun y ρ1 => (evE io cf lk e ρ1).out fun x ρ2 => (keepV lk x ρ2).out fun d ρ3 => match y with
    | .val (.int k) => optN (chgL i (fun ds => if insOk k = true then some (ds.take k.toNat ++ [d] ++ ds.drop k.toNat) else none) ρ3)
    | _ => .no else .no
  | .ife c a b, ρ => (evT io cf lk c ρ).out fun x ρ1 => if x = true then exSs a ρ1 else exSs b ρ1
  | .whl c b, ρ => whileE (evT io cf lk c) (fun ρ => exSs b ρ) ρ
  | .for t s b, ρ => (evS io cf lk s ρ).out fun ds ρ1 => forL lk t (fun ρ => exSs b ρ) ds ρ1
  | .ret e, ρ => (evE io cf lk e ρ).out fun x ρ1 => match x with
    | .sl i => if i ∈ lk then .no else match ρ1[i]? with
      | some (some (true, d)) => .ret (.own d) (ρ1.set i none)
      | _ => .no
    | r => .ret r ρ1
  | .retN, ρ => .ret (.val .none) ρ
  | .brk, ρ => .brk ρ
  | .cnt, ρ => .cnt ρ
  | .raise c e, ρ => (evE io cf lk e ρ).out fun x ρ1 => (keepV lk x ρ1).out fun d ρ2 => .exc c d ρ2
  | .tri b hs lo nc, ρ => catO lk hs lo nc (exSs b ρ)
  | .never, _ => .no
noncomputable def exSs : Sts → Env → Out
  | .nil, ρ => .nx ρ
  | .cons s r, ρ => (exS s ρ).seq fun ρ1 => exSs r ρ1
end
end

/-! ### defs -/
structure Fn where
  /-- which parameters are changed -/
  io : List Bool
  /-- how many names it has -/
  n : Nat
  body : Sts
abbrev Prog := List Fn
def Prog.io (T : Prog) (f : Nat) : List Bool := match T[f]? with
  | some F => F.io
  | none => []
def ioIx : List Bool → Nat → List Nat
  | [], _ => []
  | true :: r, k => k :: ioIx r (k + 1)
  | false :: r, k => ioIx r (k + 1)
def startE (io : List Bool) (n : Nat) (ds : List PyData) : Env := (io.zip ds).map (fun p => some (p.1, p.2)) ++ List.replicate (n - ds.length) none
def ioOut (lk : List Nat) (ρ : Env) : Option (List PyData) := lk.mapM fun i => match ρ[i]? with
  | some (some (true, d)) => some d
  | _ => none
def finF (lk : List Nat) (o : Out) : FR := match o with
  | .ret (.val d) ρ => match ioOut lk ρ with
    | some ds => .ret false d ds
    | none => .no
  | .ret (.own d) ρ => match ioOut lk ρ with
    | some ds => .ret true d ds
    | none => .no
  | .nx ρ => match ioOut lk ρ with
    | some ds => .ret false .none ds
    | none => .no
  | .exc c d ρ => match ioOut lk ρ with
    | some ds => .exc c d ds
    | none => .no
  | _ => .no
noncomputable def run (T : Prog) : Nat → Nat → List PyData → FR
  | 0, _, _ => .no
  | n + 1, f, ds => match T[f]? with
    | some F => if ds.length = F.io.length ∧ F.io.length ≤ F.n then finF (ioIx F.io 0) (exSs T.io (run T n) (ioIx F.io 0) F.body (startE F.io F.n ds)) else .no
    | none => .no
end PD
set_option maxRecDepth 100000
set_option autoImplicit false
/-! PD3: what a reading (TE, TA, TT) must do for a piece of code. -/
namespace PD
variable [WW]
open PySem PySem.Spec PyProof.Rows L2

abbrev Bl (B : Addr → Prop) (a : Addr) : Addr → Prop := fun x => B x ∨ x = a
def OSub (σ : L2.St) (ρ' ρ : Env) : Prop := ∀ a, OwnAt σ ρ' a → OwnAt σ ρ a
theorem OSub.refl (σ : L2.St) (ρ : Env) : OSub σ ρ ρ := fun _ h => h
theorem OSub.trans {σ : L2.St} {ρ ρ1 ρ2 : Env} (a : OSub σ ρ1 ρ) (b : OSub σ ρ2 ρ1) : OSub σ ρ2 ρ := fun x h => a x (b x h)
section
variable {K : PySem.W.Frag} {B : Addr → Prop} {σ : L2.St} {H H1 H' : Hp} {ρ ρ1 ρ' : Env} {v : V} {d : PyData} {a : Addr}
theorem Keep.then (k : Keep (OwnAt σ ρ) H H1) (o : OSub σ ρ1 ρ) (k' : Keep (OwnAt σ ρ1) H1 H') : Keep (OwnAt σ ρ) H H' := k.trans k' fun x u => .inl (o x u)
/-- a free value stays -/
theorem Rp.stay (h : Rp K (Free B σ ρ) H v d) (k : Keep (OwnAt σ ρ) H H') (o : OSub σ ρ' ρ) : Rp K (Free B σ ρ') H' v d :=
  h.to k fun a f _ => ⟨⟨f.1, fun z => f.2 (o a z)⟩, f.2⟩
theorem Rps.stay {vs : List V} {ds : List PyData} (h : Rps K (Free B σ ρ) H vs ds) (k : Keep (OwnAt σ ρ) H H') (o : OSub σ ρ' ρ) : Rps K (Free B σ ρ') H' vs ds :=
  h.to k fun a f _ => ⟨⟨f.1, fun z => f.2 (o a z)⟩, f.2⟩
theorem Rp.mono {S T : Addr → Prop} (h : Rp K S H v d) (m : ∀ a, S a → T a) : Rp K T H v d := h.to (Keep.refl (fun _ => False) H) fun a s _ => ⟨m a s, fun z => z⟩
theorem Rps.mono {S T : Addr → Prop} {vs : List V} {ds : List PyData} (h : Rps K S H vs ds) (m : ∀ a, S a → T a) : Rps K T H vs ds := h.to (Keep.refl (fun _ => False) H) fun a s _ => ⟨m a s, fun z => z⟩
theorem ORp.mono {S T : Addr → Prop} (h : ORp K S H a d) (m : ∀ a, S a → T a) : ORp K T H a d := h.to (Keep.refl (fun _ => False) H) (fun a s _ => ⟨m a s, fun z => z⟩) fun z => z
theorem Free.weak {B' : Addr → Prop} (m : ∀ x, B x → B' x) {x : Addr} (f : Free B' σ ρ x) : Free B σ ρ x := ⟨fun b => f.1 (m x b), f.2⟩

/-- a result -/
def ResR (K : PySem.W.Frag) (B : Addr → Prop) (σ : L2.St) (H : Hp) (ρ : Env) (v : V) : Rv → Prop
  | .val d => SR K B σ H ρ ∧ Rp K (Free B σ ρ) H v d
  | .own d => ∃ a, v = .ref a ∧ ¬ B a ∧ SR K (Bl B a) σ H ρ ∧ ORp K (Free (Bl B a) σ ρ) H a d
  | .sl i => SR K B σ H ρ ∧ σ[i]? = some (some v) ∧ ∃ m d, ρ[i]? = some (some (m, d))
/-- a new list stands where nothing stood -/
def Fr (H : Hp) (v : V) : Rv → Prop
  | .own _ => ∀ a, v = .ref a → H a = none
  | _ => True
theorem Fr.step {r : Rv} {U : Addr → Prop} (f : Fr H1 v r) (k : Keep U H H1) : Fr H v r := by
  cases r with
  | own d => exact fun a e => k.back (f a e)
  | val d => trivial
  | sl i => trivial
/-- an operand -/
def Opd (K : PySem.W.Frag) (B : Addr → Prop) (σ : L2.St) (H : Hp) (ρ : Env) (v : V) : Rv → Prop
  | .val d => Rp K (Free B σ ρ) H v d
  | .own d => Rp K (Free B σ ρ) H v d
  | .sl i => σ[i]? = some (some v) ∧ ∃ m d, ρ[i]? = some (some (m, d))
theorem ResR.sr {r : Rv} (h : ResR K B σ H ρ v r) : SR K B σ H ρ := by
  cases r with
  | val d => exact h.1
  | own d => obtain ⟨a, _, _, s, _⟩ := h; exact s.weak fun _ => .inl
  | sl i => exact h.1
theorem SR.ownNot (s : SR K (Bl B a) σ H ρ) : ¬ OwnAt σ ρ a := fun o => s.ownFree o (.inr rfl)
theorem ResR.op {r : Rv} (h : ResR K B σ H ρ v r) : Opd K B σ H ρ v r := by
  cases r with
  | val d => exact h.2
  | own d =>
    obtain ⟨a, rfl, n, s, r⟩ := h
    exact (r.mono fun x f => f.weak fun _ => .inl).rp ⟨n, s.ownNot⟩
  | sl i => exact h.2
/-- the environment between: as many slots, those that hold something hold something -/
def Ext (ρ ρ' : Env) : Prop := ∀ (i : Nat) (m : Bool) (d : PyData), ρ[i]? = some (some (m, d)) → ∃ m' d', ρ'[i]? = some (some (m', d'))
theorem Opd.stay {r : Rv} (h : Opd K B σ H ρ v r) (k : Keep (OwnAt σ ρ) H H') (o : OSub σ ρ' ρ) (x : Ext ρ ρ') : Opd K B σ H' ρ' v r := by
  cases r with
  | val d => exact Rp.stay h k o
  | own d => exact Rp.stay h k o
  | sl i => obtain ⟨e, m, d, q⟩ := h; exact ⟨e, x i m d q⟩
theorem Ext.refl (ρ : Env) : Ext ρ ρ := fun _ m d h => ⟨m, d, h⟩
theorem Ext.trans {ρ ρ1 ρ2 : Env} (a : Ext ρ ρ1) (b : Ext ρ1 ρ2) : Ext ρ ρ2 := fun i m d h => let ⟨m', d', q⟩ := a i m d h; b i m' d' q

/-- a value that is read -/
def RV (K : PySem.W.Frag) (B : Addr → Prop) (σ : L2.St) (H : Hp) (ρ : Env) (v : V) (d : PyData) : Prop :=
  Rp K (Free B σ ρ) H v d ∨ ∃ a, v = .ref a ∧ ORp K (Free B σ ρ) H a d
theorem Opd.rv {r : Rv} (s : SR K B σ H ρ) (h : Opd K B σ H ρ v r) (e : dat ρ r = some d) : RV K B σ H ρ v d := by
  cases r with
  | val d => cases e; exact .inl h
  | own d => cases e; exact .inl h
  | sl i =>
    obtain ⟨q, m, d', q'⟩ := h
    have e' : d' = d := by
      simp only [dat, slotD, q'] at e
      exact Option.some.inj e
    subst e'
    cases m with
    | false =>
      obtain ⟨w, z, r⟩ := s.plain i d' q'
      rw [q] at z; cases z
      exact .inl r
    | true =>
      obtain ⟨w, z, _, r⟩ := s.own i d' q'
      rw [q] at z; cases z
      exact .inr ⟨w, rfl, r⟩
theorem RV.int {i : Int} (h : RV K B σ H ρ v (.int i)) : v = .int i := by
  rcases h with h | ⟨_, _, h⟩
  · cases h; rfl
  · cases h
theorem RV.bool {b : Bool} (h : RV K B σ H ρ v (.bool b)) : v = .bl b := by
  rcases h with h | ⟨_, _, h⟩
  · cases h; rfl
  · cases h
theorem RV.str {x : Str} (h : RV K B σ H ρ v (.str x)) : v = .str x := by
  rcases h with h | ⟨_, _, h⟩
  · cases h; rfl
  · cases h
theorem RV.none (h : RV K B σ H ρ v .none) : v = .non := by
  rcases h with h | ⟨_, _, h⟩
  · cases h; rfl
  · cases h
theorem RV.tuple {ds : List PyData} (h : RV K B σ H ρ v (.tuple ds)) : ∃ a xs, v = .ref a ∧ SqT K H a xs ∧ Rps K (Free B σ ρ) H xs ds := by
  rcases h with h | ⟨_, _, h⟩
  · cases h with
    | tup a b => exact ⟨_, _, rfl, a, b⟩
  · cases h
theorem RV.list {ds : List PyData} (h : RV K B σ H ρ v (.list ds)) : ∃ a xs, v = .ref a ∧ SqL K H a xs ∧ Rps K (Free B σ ρ) H xs ds := by
  rcases h with h | ⟨a, rfl, h⟩
  · cases h with
    | lst a b => exact ⟨_, _, rfl, a.seq, b⟩
  · cases h with
    | lst e r => exact ⟨a, _, rfl, .inl (.inl e), r⟩
theorem RV.dict {ds : List (PyData × PyData)} (h : RV K B σ H ρ v (.dict ds)) : ∃ a ks, v = .ref a ∧ DicAt K H a ks ∧ ks.map (·.1) = ds.map (·.1) ∧ Rps K (Free B σ ρ) H (ks.map (·.2)) (ds.map (·.2)) := by
  rcases h with h | ⟨a, rfl, h⟩
  · cases h with
    | dic s e q r => exact ⟨_, _, rfl, e, q, r⟩
  · cases h with
    | dic e q r => exact ⟨a, _, rfl, e, q, r⟩
mutual
theorem Rp.dp {S : Addr → Prop} : ∀ {d : PyData} {v : V}, Rp K S H v d → dicFree d = true → Dp K H v d
  | .none, _, h, _ => by cases h; exact .non
  | .bool b, _, h, _ => by cases h; exact .bl b
  | .int i, _, h, _ => by cases h; exact .int i
  | .str x, _, h, _ => by cases h; exact .str x
  | .tuple ds, _, h, f => by
    cases h with
    | tup h1 h2 => exact .tup h1 (Rps.dp h2 f)
  | .list ds, _, h, f => by
    cases h with
    | lst h1 h2 => exact .lst h1.seq (Rps.dp h2 f)
  | .dict ds, _, h, f => by simp [dicFree] at f
theorem Rps.dp {S : Addr → Prop} : ∀ {ds : List PyData} {vs : List V}, Rps K S H vs ds → dicFrees ds = true → DpAll K H vs ds
  | [], _, h, _ => by cases h; exact .nil
  | d :: ds, _, h, f => by
    simp only [dicFrees, Bool.and_eq_true] at f
    cases h with
    | cons h1 h2 => exact .cons (Rp.dp h1 f.1) (Rps.dp h2 f.2)
end
mutual
theorem lay_dicFree : ∀ {d : PyData}, d.canLay0 = true → dicFree d = true
  | .none, _ => rfl
  | .bool _, _ => rfl
  | .int _, _ => rfl
  | .str _, _ => rfl
  | .tuple ds, h => by
    simp only [PyData.canLay0] at h
    simpa only [dicFree] using lays_dicFree h
  | .list ds, h => by
    simp only [PyData.canLay0] at h
    simpa only [dicFree] using lays_dicFree h
  | .dict _, h => by simp [PyData.canLay0] at h
theorem lays_dicFree : ∀ {ds : List PyData}, PyData.canLayAll0 ds = true → dicFrees ds = true
  | [], _ => rfl
  | d :: ds, h => by
    simp only [PyData.canLayAll0, Bool.and_eq_true] at h
    simp only [dicFrees, lay_dicFree h.1, lays_dicFree h.2, Bool.and_true]
end
theorem RV.dp (h : RV K B σ H ρ v d) (s : eqOk d = true) : Dp K H v d := by
  have f : dicFree d = true := lay_dicFree (SeqAt.canLay_of_shaped s)
  rcases h with h | ⟨a, rfl, h⟩
  · exact h.dp f
  · cases h with
    | lst e r => exact .lst (.inl (.inl e)) (r.dp (by simpa only [dicFree] using f))
    | dic => simp [dicFree] at f
mutual
theorem Rp.frozen {S T : Addr → Prop} : ∀ {d : PyData} {v : V}, Rp K S H v d → frozen d = true → Rp K T H v d
  | .none, _, h, _ => by cases h; exact .non
  | .bool b, _, h, _ => by cases h; exact .bl b
  | .int i, _, h, _ => by cases h; exact .int i
  | .str x, _, h, _ => by cases h; exact .str x
  | .tuple ds, _, h, f => by
    cases h with
    | tup h1 h2 => exact .tup h1 (Rps.frozen h2 (by simpa only [PD.frozen] using f))
  | .list ds, _, h, f => by simp [PD.frozen] at f
  | .dict ds, _, h, f => by simp [PD.frozen] at f
theorem Rps.frozen {S T : Addr → Prop} : ∀ {ds : List PyData} {vs : List V}, Rps K S H vs ds → frozens ds = true → Rps K T H vs ds
  | [], _, h, _ => by cases h; exact .nil
  | d :: ds, _, h, f => by
    simp only [frozens, Bool.and_eq_true] at f
    cases h with
    | cons h1 h2 => exact .cons (Rp.frozen h1 f.1) (Rps.frozen h2 f.2)
end
end

/-! ### expressions -/
section
variable (K : PySem.W.Frag) (C : Nat → Addr) (W : WX)
def ExcAt (H' : Hp) (B : Addr → Prop) (σ : L2.St) (ρ' : Env) (d : PyData) (dd : Addr) : Prop := ∃ v, H' dd = some (.xd [(("value" : Str), v)]) ∧ Rp K (Free B σ ρ') H' v d
def GoodE (B : Addr → Prop) (σ : L2.St) (H : Hp) (ρ : Env) (out : Rs Rv) (Q : VK) : Prop := match out with
  | .ok r ρ' => ∀ v H', Keep (OwnAt σ ρ) H H' → OSub σ ρ' ρ → Ext ρ ρ' → Fr H v r → ResR K B σ H' ρ' v r → Q v H'
  | .exc c d ρ' => ∀ dd H', Keep (OwnAt σ ρ) H H' → OSub σ ρ' ρ → SR K B σ H' ρ' → ExcAt K H' B σ ρ' d dd → W (.ref (C c)) (some dd) σ H'
  | .no => False
def ED (t : TE) (f : Env → Rs Rv) : Prop := ∀ B σ H ρ Q, SR K B σ H ρ → GoodE K C W B σ H ρ (f ρ) Q → t σ H Q
/-- several values, the new lists among them apart -/
structure ResL (B Bs : Addr → Prop) (σ : L2.St) (H : Hp) (ρ : Env) (vs : List V) (rs : List Rv) : Prop where
  len : vs.length = rs.length
  sr : SR K Bs σ H ρ
  sub : ∀ a, B a → Bs a
  only : ∀ a, Bs a → B a ∨ ∃ (k : Nat) (d : PyData), rs[k]? = some (.own d) ∧ vs[k]? = some (V.ref a)
  val : ∀ (k : Nat) d v, rs[k]? = some (.val d) → vs[k]? = some v → Rp K (Free Bs σ ρ) H v d
  own : ∀ (k : Nat) d v, rs[k]? = some (.own d) → vs[k]? = some v → ∃ a, v = .ref a ∧ ¬ B a ∧ Bs a ∧ ORp K (Free Bs σ ρ) H a d
  slt : ∀ (k : Nat) i v, rs[k]? = some (.sl i) → vs[k]? = some v → σ[i]? = some (some v) ∧ ∃ m d, ρ[i]? = some (some (m, d))
  apart : ∀ (j k : Nat) c d a, rs[j]? = some (.own c) → rs[k]? = some (.own d) → vs[j]? = some (V.ref a) → vs[k]? = some (V.ref a) → j = k
def GoodA (B : Addr → Prop) (σ : L2.St) (H : Hp) (ρ : Env) (out : Rs (List Rv)) (Q : List V → Hp → Prop) : Prop := match out with
  | .ok rs ρ' => ∀ vs H' Bs, Keep (OwnAt σ ρ) H H' → OSub σ ρ' ρ → Ext ρ ρ' → (∀ (k : Nat) d a, rs[k]? = some (.own d) → vs[k]? = some (V.ref a) → H a = none) → ResL K B Bs σ H' ρ' vs rs → Q vs H'
  | .exc c d ρ' => ∀ dd H', Keep (OwnAt σ ρ) H H' → OSub σ ρ' ρ → SR K B σ H' ρ' → ExcAt K H' B σ ρ' d dd → W (.ref (C c)) (some dd) σ H'
  | .no => False
def AD (t : TA) (f : Env → Rs (List Rv)) : Prop := ∀ B σ H ρ Q, SR K B σ H ρ → GoodA K C W B σ H ρ (f ρ) Q → t σ H Q
def GoodT (B : Addr → Prop) (σ : L2.St) (H : Hp) (ρ : Env) (out : Rs Bool) (Q : Bool → Hp → Prop) : Prop := match out with
  | .ok b ρ' => ∀ H', Keep (OwnAt σ ρ) H H' → OSub σ ρ' ρ → Ext ρ ρ' → SR K B σ H' ρ' → Q b H'
  | .exc c d ρ' => ∀ dd H', Keep (OwnAt σ ρ) H H' → OSub σ ρ' ρ → SR K B σ H' ρ' → ExcAt K H' B σ ρ' d dd → W (.ref (C c)) (some dd) σ H'
  | .no => False
def TD (t : TT) (f : Env → Rs Bool) : Prop := ∀ B σ H ρ Q, SR K B σ H ρ → GoodT K C W B σ H ρ (f ρ) Q → t σ H Q
end
section
variable {K : PySem.W.Frag} {C : Nat → Addr} {W : WX} {B : Addr → Prop} {σ : L2.St} {H H1 : Hp} {ρ ρ1 : Env} {Q : VK}
theorem GoodE.step {out : Rs Rv} (g : GoodE K C W B σ H ρ out Q) (k : Keep (OwnAt σ ρ) H H1) (o : OSub σ ρ1 ρ) (x : Ext ρ ρ1) : GoodE K C W B σ H1 ρ1 out Q := by
  cases out with
  | ok r ρ' => exact fun v H' k' o' x' f r => g v H' (k.then o k') (o.trans o') (x.trans x') (f.step k) r
  | exc c d ρ' => exact fun dd H' k' o' s e => g dd H' (k.then o k') (o.trans o') s e
  | no => exact g
theorem GoodA.step {out : Rs (List Rv)} {Q : List V → Hp → Prop} (g : GoodA K C W B σ H ρ out Q) (k : Keep (OwnAt σ ρ) H H1) (o : OSub σ ρ1 ρ) (x : Ext ρ ρ1) : GoodA K C W B σ H1 ρ1 out Q := by
  cases out with
  | ok r ρ' => exact fun v H' Bs k' o' x' f r => g v H' Bs (k.then o k') (o.trans o') (x.trans x') (fun j d a e1 e2 => k.back (f j d a e1 e2)) r
  | exc c d ρ' => exact fun dd H' k' o' s e => g dd H' (k.then o k') (o.trans o') s e
  | no => exact g
theorem GoodT.step {out : Rs Bool} {Q : Bool → Hp → Prop} (g : GoodT K C W B σ H ρ out Q) (k : Keep (OwnAt σ ρ) H H1) (o : OSub σ ρ1 ρ) (x : Ext ρ ρ1) : GoodT K C W B σ H1 ρ1 out Q := by
  cases out with
  | ok r ρ' => exact fun H' k' o' x' r => g H' (k.then o k') (o.trans o') (x.trans x') r
  | exc c d ρ' => exact fun dd H' k' o' s e => g dd H' (k.then o k') (o.trans o') s e
  | no => exact g
/-- first t, then what follows: the exception's way -/
theorem ED.bind {t : TE} {f : Env → Rs Rv} (h : ED K C W t f) (s : SR K B σ H ρ) {β : Type} {g : Rv → Env → Rs β} {Q : VK} (G : Rs β → Prop)
    (hno : ¬ G .no) (hexc : ∀ c d ρ', G (.exc c d ρ') → ∀ dd H', Keep (OwnAt σ ρ) H H' → OSub σ ρ' ρ → SR K B σ H' ρ' → ExcAt K H' B σ ρ' d dd → W (.ref (C c)) (some dd) σ H')
    (hg : G ((f ρ).bind g)) (hok : ∀ r ρ' v H', f ρ = .ok r ρ' → G (g r ρ') → Keep (OwnAt σ ρ) H H' → OSub σ ρ' ρ → Ext ρ ρ' → Fr H v r → ResR K B σ H' ρ' v r → Q v H') : t σ H Q := by
  refine h B σ H ρ Q s ?_
  cases e : f ρ with
  | ok r ρ' =>
    rw [e] at hg
    exact fun v H' k o x f r' => hok r ρ' v H' e hg k o x f r'
  | exc c d ρ' =>
    rw [e] at hg
    exact hexc c d ρ' hg
  | no =>
    rw [e] at hg
    exact hno hg
theorem GoodE.exc_ {c : Nat} {d : PyData} {ρ' : Env} (g : GoodE K C W B σ H ρ (.exc c d ρ') Q) : ∀ dd H', Keep (OwnAt σ ρ) H H' → OSub σ ρ' ρ → SR K B σ H' ρ' → ExcAt K H' B σ ρ' d dd → W (.ref (C c)) (some dd) σ H' := g
/-- the usual case -/
theorem ED.bindE {t : TE} {f : Env → Rs Rv} (h : ED K C W t f) (s : SR K B σ H ρ) {g : Rv → Env → Rs Rv} {Q' Q : VK} (hg : GoodE K C W B σ H ρ ((f ρ).bind g) Q)
    (hok : ∀ r ρ' v H', Keep (OwnAt σ ρ) H H' → OSub σ ρ' ρ → Ext ρ ρ' → Fr H v r → ResR K B σ H' ρ' v r → GoodE K C W B σ H' ρ' (g r ρ') Q → Q' v H') : t σ H Q' :=
  h.bind s (fun out => GoodE K C W B σ H ρ out Q) (fun z => z) (fun _ _ _ z => z) hg fun r ρ' v H' _ gg k o x f rr => hok r ρ' v H' k o x f rr (gg.step k o x)
theorem ED.bindT {t : TE} {f : Env → Rs Rv} (h : ED K C W t f) (s : SR K B σ H ρ) {g : Rv → Env → Rs Bool} {Q' : VK} {Q : Bool → Hp → Prop} (hg : GoodT K C W B σ H ρ ((f ρ).bind g) Q)
    (hok : ∀ r ρ' v H', Keep (OwnAt σ ρ) H H' → OSub σ ρ' ρ → Ext ρ ρ' → Fr H v r → ResR K B σ H' ρ' v r → GoodT K C W B σ H' ρ' (g r ρ') Q → Q' v H') : t σ H Q' :=
  h.bind s (fun out => GoodT K C W B σ H ρ out Q) (fun z => z) (fun _ _ _ z => z) hg fun r ρ' v H' _ gg k o x f rr => hok r ρ' v H' k o x f rr (gg.step k o x)
theorem ED.bindA {t : TE} {f : Env → Rs Rv} (h : ED K C W t f) (s : SR K B σ H ρ) {g : Rv → Env → Rs (List Rv)} {Q' : VK} {Q : List V → Hp → Prop} (hg : GoodA K C W B σ H ρ ((f ρ).bind g) Q)
    (hok : ∀ r ρ' v H', Keep (OwnAt σ ρ) H H' → OSub σ ρ' ρ → Ext ρ ρ' → Fr H v r → ResR K B σ H' ρ' v r → GoodA K C W B σ H' ρ' (g r ρ') Q → Q' v H') : t σ H Q' :=
  h.bind s (fun out => GoodA K C W B σ H ρ out Q) (fun z => z) (fun _ _ _ z => z) hg fun r ρ' v H' _ gg k o x f rr => hok r ρ' v H' k o x f rr (gg.step k o x)
theorem AD.bindE {t : TA} {f : Env → Rs (List Rv)} (h : AD K C W t f) (s : SR K B σ H ρ) {g : List Rv → Env → Rs Rv} {Q' : List V → Hp → Prop} (hg : GoodE K C W B σ H ρ ((f ρ).bind g) Q)
    (hok : ∀ rs ρ' vs H' Bs, Keep (OwnAt σ ρ) H H' → OSub σ ρ' ρ → Ext ρ ρ' → (∀ (k : Nat) d a, rs[k]? = some (.own d) → vs[k]? = some (V.ref a) → H a = none) → ResL K B Bs σ H' ρ' vs rs → GoodE K C W B σ H' ρ' (g rs ρ') Q → Q' vs H') : t σ H Q' := by
  refine h B σ H ρ Q' s ?_
  cases e : f ρ with
  | ok r ρ' =>
    rw [e] at hg
    exact fun v H' Bs k o x f r' => hok r ρ' v H' Bs k o x f r' (GoodE.step hg k o x)
  | exc c d ρ' => rw [e] at hg; exact hg
  | no => rw [e] at hg; exact hg
/-- a value that is there -/
theorem GoodE.give {d : PyData} {v : V} (g : GoodE K C W B σ H ρ (.ok (.val d) ρ) Q) (s : SR K B σ H ρ) (r : Rp K (Free B σ ρ) H v d) : Q v H :=
  g v H (Keep.refl _ _) (OSub.refl _ _) (Ext.refl _) trivial ⟨s, r⟩
/-- a new tuple -/
theorem GoodE.newT {ds : List PyData} {xs : List V} {p : Addr} (g : GoodE K C W B σ H ρ (.ok (.val (.tuple ds)) ρ) Q) (s : SR K B σ H ρ) (r : Rps K (Free B σ ρ) H xs ds) (hp : H p = none) : Q (.ref p) (upd H p (.tup xs)) :=
  g _ _ (Keep.new hp) (OSub.refl _ _) (Ext.refl _) trivial ⟨s.new hp, .tup (.inl (.inl upd_same)) (r.stay (Keep.new hp) (OSub.refl _ _))⟩
/-- a new list -/
theorem GoodE.newL {ds : List PyData} {xs : List V} {p : Addr} (g : GoodE K C W B σ H ρ (.ok (.own (.list ds)) ρ) Q) (s : SR K B σ H ρ) (r : Rps K (Free B σ ρ) H xs ds) (hp : H p = none) : Q (.ref p) (upd H p (.lst xs)) := by
  have nb : ¬ B p := fun b => by obtain ⟨o, q⟩ := s.bt p b; rw [hp] at q; cases q
  refine g _ _ (Keep.new hp) (OSub.refl _ _) (Ext.refl _) (fun a e => by cases e; exact hp) ⟨p, rfl, nb, s.block hp, .lst upd_same ?_⟩
  exact r.to (Keep.new (U := fun _ => False) hp) fun a f ⟨o, q⟩ => ⟨⟨fun b => b.elim f.1 fun e => (by subst e; rw [hp] at q; cases q), f.2⟩, fun z => z⟩

/-- two operands -/
theorem ed_op2 {ta tb : TE} {fa fb : Env → Rs Rv} {r : R2} {g : PyData → PyData → Option Rv} (ha : ED K C W ta fa) (hb : ED K C W tb fb)
    (hr : ∀ {B : Addr → Prop} {σ : L2.St} {H : Hp} {ρ : Env} {x y : V} {d e : PyData} {Q : VK}, SR K B σ H ρ → RV K B σ H ρ x d → RV K B σ H ρ y e → GoodE K C W B σ H ρ (liftR (g d e) ρ) Q → r x y H Q) :
    ED K C W (tOp r ta tb) fun ρ => (fa ρ).bind fun x ρ1 => (fb ρ1).bind fun y ρ2 => match dat ρ2 x, dat ρ2 y with
      | some d, some e => liftR (g d e) ρ2
      | _, _ => .no := by
  intro B σ H ρ Q s hg
  refine ha.bindE s hg fun x ρ1 v H1 k1 o1 x1 f1 r1 g1 => ?_
  refine hb.bindE r1.sr g1 fun y ρ2 u H2 k2 o2 x2 f2 r2 g2 => ?_
  have p1 := r1.op.stay k2 o2 x2
  cases e1 : dat ρ2 x with
  | none => simp only [e1] at g2; exact g2.elim
  | some d =>
    cases e2 : dat ρ2 y with
    | none => simp only [e1, e2] at g2; exact g2.elim
    | some e =>
      simp only [e1, e2] at g2
      exact hr r2.sr (p1.rv r2.sr e1) (r2.op.rv r2.sr e2) g2
/-- one operand -/
theorem ed_op1 {ta : TE} {fa : Env → Rs Rv} {r : V → Hp → VK → Prop} {g : PyData → Option Rv} (ha : ED K C W ta fa)
    (hr : ∀ {B : Addr → Prop} {σ : L2.St} {H : Hp} {ρ : Env} {x : V} {d : PyData} {Q : VK}, SR K B σ H ρ → RV K B σ H ρ x d → GoodE K C W B σ H ρ (liftR (g d) ρ) Q → r x H Q) :
    ED K C W (tUn r ta) fun ρ => (fa ρ).bind fun x ρ1 => match dat ρ1 x with
      | some d => liftR (g d) ρ1
      | _ => .no := by
  intro B σ H ρ Q s hg
  refine ha.bindE s hg fun x ρ1 v H1 k1 o1 x1 f1 r1 g1 => ?_
  cases e1 : dat ρ1 x with
  | none => simp only [e1] at g1; exact g1.elim
  | some d =>
    simp only [e1] at g1
    exact hr r1.sr (r1.op.rv r1.sr e1) g1

/-! ### argument lists -/
theorem AD.nil : AD K C W tNil fun ρ => .ok [] ρ := fun B σ H ρ Q s hg =>
  hg [] H B (Keep.refl _ _) (OSub.refl _ _) (Ext.refl _) (fun k d a e => by simp at e)
    ⟨rfl, s, fun _ b => b, fun _ b => .inl b, (fun k d v e => by simp at e), (fun k d v e => by simp at e), (fun k d v e => by simp at e), (fun j k c d a e => by simp at e)⟩
theorem ExcAt.weak {B' : Addr → Prop} {d : PyData} {dd : Addr} (h : ExcAt K H B' σ ρ d dd) (m : ∀ x, B x → B' x) : ExcAt K H B σ ρ d dd :=
  let ⟨v, e, r⟩ := h; ⟨v, e, r.mono fun _ f => f.weak m⟩
/-- what is blocked by a result -/
def blk (B : Addr → Prop) (v : V) : Rv → Addr → Prop
  | .own _ => fun x => B x ∨ v = .ref x
  | _ => B
theorem blk.sub {v : V} {r : Rv} {x : Addr} (b : B x) : blk B v r x := by
  cases r with
  | own d => exact .inl b
  | val d => exact b
  | sl i => exact b
theorem ResR.blk {v : V} {r : Rv} (h : ResR K B σ H ρ v r) : SR K (blk B v r) σ H ρ := by
  cases r with
  | own d =>
    obtain ⟨a, rfl, n, s, _⟩ := h
    exact s.weak fun x z => z.elim .inl fun e => .inr (by cases e; rfl)
  | val d => exact h.1
  | sl i => exact h.1
theorem AD.cons {t : TE} {f : Env → Rs Rv} {ts : TA} {fs : Env → Rs (List Rv)} (h : ED K C W t f) (hs : AD K C W ts fs) :
    AD K C W (tCons t ts) fun ρ => (f ρ).bind fun x ρ1 => (fs ρ1).bind fun xs ρ2 => .ok (x :: xs) ρ2 := by
  intro B σ H ρ Q s hg
  refine h.bind s (fun out => GoodA K C W B σ H ρ out Q) (fun z => z) (fun _ _ _ z => z) hg fun r ρ1 v H1 _ g1 k1 o1 x1 f1 r1 => ?_
  have s1 := r1.blk
  refine hs (PD.blk B v r) σ H1 ρ1 _ s1 ?_
  cases e : fs ρ1 with
  | no => rw [e] at g1; exact g1
  | exc c d ρ2 =>
    rw [e] at g1
    exact fun dd H2 k2 o2 s2 e2 => g1 dd H2 (k1.then o1 k2) (o1.trans o2) (s2.weak fun _ => blk.sub) (e2.weak fun _ => blk.sub)
  | ok rs ρ2 =>
    rw [e] at g1
    intro vs H2 Bs k2 o2 x2 f2 L
    have tr1 : ∀ {x : Addr}, (∃ o, H1 x = some o) → Bs x → PD.blk B v r x := fun {x} ⟨o, q⟩ b => by
      rcases L.only x b with b | ⟨k, d, e1, e2⟩
      · exact b
      · have := f2 k d x e1 e2; rw [q] at this; cases this
    have fr : ∀ x, Free (PD.blk B v r) σ ρ1 x → (∃ o, H1 x = some o) → Free Bs σ ρ2 x ∧ ¬ OwnAt σ ρ1 x := fun x f q =>
      ⟨⟨fun b => f.1 (tr1 q b), fun z => f.2 (o2 x z)⟩, f.2⟩
    refine g1 (v :: vs) H2 Bs (k1.then o1 k2) (o1.trans o2) (x1.trans x2) (fun k d a e1 e2 => ?_) ⟨by rw [List.length_cons, List.length_cons, L.len], L.sr, fun a b => L.sub a (blk.sub b), fun a b => ?_, fun k d u e1 e2 => ?_, fun k d u e1 e2 => ?_, fun k i u e1 e2 => ?_, fun j k c d a e1 e2 e3 e4 => ?_⟩
    · cases k with
      | zero =>
        simp only [List.getElem?_cons_zero, Option.some.injEq] at e1 e2
        subst e1; subst e2
        exact f1 a rfl
      | succ k => exact k1.back (f2 k d a (by simpa using e1) (by simpa using e2))
    · rcases L.only a b with b | ⟨k, d, e1, e2⟩
      · cases r with
        | own d =>
          rcases b with b | b
          · exact .inl b
          · exact .inr ⟨0, d, rfl, by simp [b]⟩
        | val d => exact .inl b
        | sl i => exact .inl b
      · exact .inr ⟨k + 1, d, by simpa using e1, by simpa using e2⟩
    · cases k with
      | zero =>
        simp only [List.getElem?_cons_zero, Option.some.injEq] at e1 e2
        subst e1; subst e2
        exact r1.2.to k2 fr
      | succ k => exact L.val k d u (by simpa using e1) (by simpa using e2)
    · cases k with
      | zero =>
        simp only [List.getElem?_cons_zero, Option.some.injEq] at e1 e2
        subst e1; subst e2
        obtain ⟨a, rfl, n, s, r⟩ := r1
        refine ⟨a, rfl, n, L.sub a (.inr rfl), r.to k2 (fun x f q => fr x ⟨fun b => f.1 (b.elim .inl fun e => .inr (by cases e; rfl)), f.2⟩ q) s.ownNot⟩
      | succ k =>
        obtain ⟨a, ea, n, b, r⟩ := L.own k d u (by simpa using e1) (by simpa using e2)
        exact ⟨a, ea, fun z => n (blk.sub z), b, r⟩
    · cases k with
      | zero =>
        simp only [List.getElem?_cons_zero, Option.some.injEq] at e1 e2
        subst e1; subst e2
        obtain ⟨_, q, m, d, q'⟩ := r1
        exact ⟨q, x2 _ m d q'⟩
      | succ k => exact L.slt k i u (by simpa using e1) (by simpa using e2)
    · cases j with
      | zero =>
        cases k with
        | zero => rfl
        | succ k =>
          exfalso
          simp only [List.getElem?_cons_zero, Option.some.injEq] at e1 e3
          subst e1; subst e3
          obtain ⟨a', ea, n, b, _⟩ := L.own k d _ (by simpa using e2) (by simpa using e4)
          cases ea
          exact n (.inr rfl)
      | succ j =>
        cases k with
        | zero =>
          exfalso
          simp only [List.getElem?_cons_zero, Option.some.injEq] at e2 e4
          subst e2; subst e4
          obtain ⟨a', ea, n, b, _⟩ := L.own j c _ (by simpa using e1) (by simpa using e3)
          cases ea
          exact n (.inr rfl)
        | succ k => rw [L.apart j k c d a (by simpa using e1) (by simpa using e2) (by simpa using e3) (by simpa using e4)]
end
end PD
set_option maxRecDepth 100000
set_option autoImplicit false
/-! PD4: operators, comparisons, subscripts, slices, built-in functions by data. -/
namespace PD
variable [WW]
open PySem PySem.Spec PyProof.Rows L2

theorem len_line {n : Nat} (h : lenOk n = true) : n ≤ sizeLine := Nat.le_trans (of_decide_eq_true h) (by decide)

/-! ### list + list, list * int of any list -/
def rCatS (K : PySem.W.Frag) : R2 := fun x y H Q => ∃ l b xs zs, x = .ref l ∧ y = .ref b ∧ SqL K H l xs ∧ SqL K H b zs ∧ xs.length + zs.length ≤ sizeLine ∧ ∀ p, H p = none → Q (.ref p) (upd H p (.lst (xs ++ zs)))
theorem op_catS {X : Cx} : OpR X (binaryOp .Add) (rCatS X.K) := by
  intro pins s σ H x y v u Q I rx ry h
  obtain ⟨l, b, xs, zs, rfl, rfl, hH, hB, hz, q⟩ := h
  cases rx
  cases ry
  obtain ⟨its, r, hl, z⟩ := I.list hH
  obtain ⟨its2, r2, hl2, z2⟩ := I.list hB
  have e1 := r.length
  have e2 := r2.length
  obtain ⟨⟨cls, dd, data, sl⟩, n, ho, hc, hd', hd⟩ := hl
  obtain ⟨⟨cls2, dd2, data2, sl2⟩, n2, ho2, hc2, hd2', hd2⟩ := hl2
  simp only at hc hd hc2 hd2
  subst hc hd hc2 hd2
  have e : its.toArray ++ its2.toArray = (its ++ its2).toArray := by simp
  refine concat_meets ⟨_, ho, rfl⟩ ⟨_, ho2, rfl⟩ noFill_list_add seq_list_add PySem.F.slot_list_add PySem.F.entry_list_add (PySem.F.args_list_add_2 _ _) (list_addW l b its.toArray its2.toArray n n2 dd dd2 sl sl2 (by simp only [List.size_toArray]; omega)) ⟨ho, ho2, ?_⟩
  rw [e]
  exact ⟨.ref _, _, I.lnew (t' := s.toks) (r.append r2) (by rw [List.length_append]; omega), rfl, q _ I.fresh⟩

theorem int_rmul_listS (a : Int) (t : Tok) (l : Addr) (items : Array Value) (n : Nat) (dd : Option Addr) (sl : Array (Option Value)) :
    Meets (Builtin.«int.__rmul__» ⟨[.int a t, .ref l], []⟩) (fun _ R s => s.heap.get? l = some { cls := .type "list", dict := dd, data := .seq items n, slots := sl } ∧ R (.ok (.ret Value.notImplemented)) s) :=
  .of_wp fun prog w A R s h => by obtain ⟨hp, g, d, tk, os⟩ := s; obtain ⟨hl, h⟩ := h; wp_walk using wpAny_loadPart' hl; exact ⟨_, rfl, h⟩
theorem list_mulS (l : Addr) (items : Array Value) (n : Nat) (dd : Option Addr) (sl : Array (Option Value)) (x : Int) (u : Tok) (hc0 : ¬(!Builtin.List.listFitsIndex x) = true) (hc1 : ¬items.size * x.toNat > (2 ^ 63 - 1) / 8) (hc2 : ¬Builtin.List.listTooLong (items.size * x.toNat) = true) :
    Meets (Builtin.«list.__mul__» ⟨[.ref l, .int x u], []⟩) (fun _ R s => s.heap.get? l = some { cls := .type "list", dict := dd, data := .seq items n, slots := sl } ∧ R (.ok (.ret (Value.ref s.heap.objs.size))) { s with heap := s.heap.push { cls := Value.type "list", data := Data.seq (List.foldl (fun x1 x2 => x1 ++ x2) #[] (List.replicate (if items.isEmpty = true then 0 else x.toNat) items)) }, toks := s.toks }) :=
  .of_wp fun prog w A R s h => by
    obtain ⟨hp, g, d, tk, os⟩ := s; obtain ⟨hl, h⟩ := h
    have hsz := AutoListH.joined_fits hc2
    have f1 := AutoSeq1.idx_int
    wp_walk using wpAny_loadPart' hl; refine wpAny_ite_false (decide_eq_false (Nat.not_lt.mpr hsz)) ?_; wp_walk using wpAny_loadPart' hl; exact ⟨_, rfl, h⟩
def rRepS (K : PySem.W.Frag) : R2 := fun x y H Q => ∃ l k xs, x = .ref l ∧ y = .int k ∧ SqL K H l xs ∧ -(2 ^ 63) ≤ k ∧ k < 2 ^ 63 ∧ xs.length * k.toNat ≤ sizeLine ∧
  ∀ p, H p = none → Q (.ref p) (upd H p (.lst (List.replicate k.toNat xs).flatten))
theorem op_repS {X : Cx} : OpR X (binaryOp .Mult) (rRepS X.K) := by
  intro pins s σ H x y v u Q I rx ry h
  obtain ⟨l, k, xs, rfl, rfl, hH, h1, h2, hz, q⟩ := h
  cases rx
  obtain ⟨t, rfl⟩ := ry
  obtain ⟨its, r, hlp, z⟩ := I.list hH
  have hl := r.length
  obtain ⟨⟨cls, dd, data, sl⟩, n, e, hc, hd', hd⟩ := hlp
  simp only at hc hd
  subst hc hd
  have hlen : its.toArray.size * k.toNat ≤ sizeLine := by rw [List.size_toArray, ← hl]; exact hz
  have hcap : ¬ its.toArray.size * k.toNat > (2 ^ 63 - 1) / 8 := by
    have : (sizeLine : Nat) ≤ (2 ^ 63 - 1) / 8 := by decide
    omega
  have hfit : ¬ (!Builtin.List.listFitsIndex k) = true := by
    rw [fitsIndex_both h1 h2]
    exact Bool.false_ne_true
  have hlong : ¬ Builtin.List.listTooLong (its.toArray.size * k.toNat) = true := by
    rw [notLongL hlen]
    exact Bool.false_ne_true
  have hnew : List.foldl (fun x1 x2 => x1 ++ x2) #[] (List.replicate (if its.toArray.isEmpty = true then 0 else k.toNat) its.toArray) = (List.replicate k.toNat its).flatten.toArray := by
    have f0 : ∀ m : Nat, List.foldl (fun x1 x2 => x1 ++ x2) #[] (List.replicate m its.toArray) = (List.replicate m its).flatten.toArray := fun m => by
      have := foldl_rep its m []
      rw [List.nil_append] at this
      exact this
    rw [f0]
    cases its with
    | nil => simp
    | cons a r' => rw [if_neg (by simp)]
  refine wpAny_binaryOp_repeat_ref (T := "list") (U := "int") (by decide) ⟨_, e, rfl⟩ (fun s' => typeIs_int s' k t) noFill_list_mul PySem.F.fills_int_mul PySem.F.slot_int_rmul repeat_list PySem.F.slot_int_index.lookup
    (call_meets PySem.F.slot_int_rmul (typeIs_int s k t) PySem.F.entry_int_rmul (PySem.F.args_int_rmul_2 _ _) (int_rmul_listS k t l its.toArray n dd sl)
      ⟨e, rfl, ⟨_, e, rfl⟩, call_meets PySem.F.slot_list_mul ⟨_, e, rfl⟩ PySem.F.entry_list_mul (PySem.F.args_list_mul_2 _ _) (list_mulS l its.toArray n dd sl k t hfit hcap hlong) ⟨e, ?_⟩⟩)
  rw [hnew]
  exact ⟨.ref _, _, I.lnew (t' := s.toks) (r.rep k.toNat) (by rw [PyProof.Rows.lm_len_rep_flat, Nat.mul_comm]; exact hz), rfl, q _ I.fresh⟩

/-! ### products -/
def CMulV (i j : Int) : Prop := mulOk i j = true
theorem CMulV.ok {i j : Int} (h : CMulV i j) : IntMulOk i j := by
  unfold CMulV mulOk at h
  simp only [Bool.or_eq_true, decide_eq_true_eq] at h
  rcases h with h | h | h
  · exact CMulW.ok h
  · exact CMul.ok (.inl (by omega))
  · exact CMul.ok (.inr (by omega))
theorem op_mulV {X : Cx} : OpR X (binaryOp .Mult) (rI CMulV fun i j => .int (i * j)) := opI fun _ _ _ _ _ _ _ hc q => mul_int q hc.ok
/-! ### powers -/
def CPowB (i j : Int) : Prop := (0 ≤ j ∧ j ≤ 1000000 ∧ i.natAbs < 2 ^ 64) ∨ powOk i j = true
theorem op_powB {X : Cx} : OpR X (binaryOp .Pow) (rI CPowB fun i j => .int (i ^ j.toNat)) := opI fun i j _ _ _ _ _ hc q => by
  rcases hc with hc | hc
  · exact pow_int_small hc.1 hc.2.1 hc.2.2 q
  · cases j with
    | negSucc n => cases hc
    | ofNat n =>
      simp only [powOk, decide_eq_true_eq] at hc
      refine pow_int (by simp) ?_ q
      have hb : Builtin.Int.intBits i ≤ i.natAbs.log2 + 1 := by
        unfold Builtin.Int.intBits
        split <;> omega
      have h2 : Builtin.Int.intBits i * n ≤ 134217728 := Nat.le_trans (Nat.mul_le_mul_right n hb) hc
      have : (Builtin.Int.intBits i : Int) * (Int.ofNat n) = ((Builtin.Int.intBits i * n : Nat) : Int) := by simp
      rw [this]
      have : (2 : Int) ^ 27 = 134217728 := by decide
      rw [this]
      omega
/-! ### dicts -/
theorem DicAt.k {K : PySem.W.Frag} {H : Hp} {a : Addr} {ks : List (PyData × V)} {ds : List (PyData × PyData)} (h : DicAt K H a ks) (e : ks.map (·.1) = ds.map (·.1)) (k : kDic ds = true) : ∃ kvs : List (Key × V), H a = some (.dK kvs) ∧ ks = kvs.map fun p => (keyD p.1, p.2) := by
  rcases h with h | ⟨xs, h, hn, _, r⟩
  · exact h
  · cases r with
    | nil => exact absurd rfl hn
    | @cons p x ps xs hh t =>
      cases ds with
      | nil => simp at e
      | cons q ds =>
        obtain ⟨c, d⟩ := q
        simp only [List.map_cons, List.cons.injEq] at e
        obtain ⟨h1, h2, _⟩ := hh
        rw [h1] at e
        rw [e.1] at h2
        cases c <;> simp [tOk] at h2
        simp [kDic] at k
/-- a tracked dict with keys that are tuples, or an empty one -/
def NDic (K : PySem.W.Frag) (H : Hp) (a : Addr) (xs : List XE) : Prop :=
  (xs = [] ∧ H a = some (.dK [])) ∨ (xs ≠ [] ∧ xs.length ≤ sizeLine ∧ H a = some (.ext (dnPhi WW.w a xs)) ∧ ∀ x ∈ xs, tOk x.1 = true ∧ NK K H (toKey x.1) (.ref x.2.1))
theorem XR.all {K : PySem.W.Frag} {H : Hp} : ∀ {ks : List (PyData × V)} {xs : List XE}, Paired (XR K H) ks xs → ∀ x ∈ xs, tOk x.1 = true ∧ NK K H (toKey x.1) (.ref x.2.1)
  | _, _, .nil, x, hx => by cases hx
  | _, _, .cons h t, x, hx => by
    rcases List.mem_cons.mp hx with e | hx
    · subst e
      exact ⟨h.2.1, h.2.2.1⟩
    · exact XR.all t x hx
theorem DicAt.t {K : PySem.W.Frag} {H : Hp} {a : Addr} {ks : List (PyData × V)} {ds : List (PyData × PyData)} (h : DicAt K H a ks) (e : ks.map (·.1) = ds.map (·.1)) (k : tDic ds = true) : ∃ xs : List XE, NDic K H a xs ∧ Paired (XR K H) ks xs := by
  rcases h with ⟨kvs, h, rfl⟩ | ⟨xs, h, hn, hl, r⟩
  · cases kvs with
    | nil => exact ⟨[], .inl ⟨rfl, h⟩, .nil⟩
    | cons p kvs =>
      cases ds with
      | nil => simp at e
      | cons q ds =>
        obtain ⟨c, d⟩ := q
        simp only [List.map_cons, List.cons.injEq] at e
        rw [← e.1] at k
        obtain ⟨pk, pv⟩ := p
        cases pk <;> simp [tDic, keyD] at k
  · exact ⟨xs, .inr ⟨hn, hl, h, XR.all r⟩, r⟩
mutual
theorem eqv_key : ∀ {a b : PyData}, nkOk a = true → nkOk b = true → PyData.eqv a b = NestedKey.beq (toKey a) (toKey b)
  | .none, .none, _, _ => rfl
  | .int i, .int j, _, _ => by simp only [PyData.eqv, toKey, NestedKey.beq]; exact Bool.eq_iff_iff.mpr (by simp)
  | .str x, .str y, _, _ => by simp only [PyData.eqv, toKey, NestedKey.beq]; exact Bool.eq_iff_iff.mpr (by simp)
  | .tuple as, .tuple bs, h1, h2 => by
    simp only [PyData.eqv, toKey, NestedKey.beq]
    exact eqvs_key (by simpa only [nkOk] using h1) (by simpa only [nkOk] using h2)
  | .none, .int _, _, _ => rfl
  | .none, .str _, _, _ => rfl
  | .none, .tuple _, _, _ => by simp only [PyData.eqv, toKey, NestedKey.beq]
  | .int _, .none, _, _ => rfl
  | .int _, .str _, _, _ => rfl
  | .int _, .tuple _, _, _ => by simp only [PyData.eqv, toKey, NestedKey.beq]
  | .str _, .none, _, _ => rfl
  | .str _, .int _, _, _ => rfl
  | .str _, .tuple _, _, _ => by simp only [PyData.eqv, toKey, NestedKey.beq]
  | .tuple _, .none, _, _ => by simp only [PyData.eqv, toKey, NestedKey.beq]
  | .tuple _, .int _, _, _ => by simp only [PyData.eqv, toKey, NestedKey.beq]
  | .tuple _, .str _, _, _ => by simp only [PyData.eqv, toKey, NestedKey.beq]
  | .bool _, _, h, _ => by simp [nkOk] at h
  | .list _, _, h, _ => by simp [nkOk] at h
  | .dict _, _, h, _ => by simp [nkOk] at h
  | .none, .bool _, _, h => by simp [nkOk] at h
  | .none, .list _, _, h => by simp [nkOk] at h
  | .none, .dict _, _, h => by simp [nkOk] at h
  | .int _, .bool _, _, h => by simp [nkOk] at h
  | .int _, .list _, _, h => by simp [nkOk] at h
  | .int _, .dict _, _, h => by simp [nkOk] at h
  | .str _, .bool _, _, h => by simp [nkOk] at h
  | .str _, .list _, _, h => by simp [nkOk] at h
  | .str _, .dict _, _, h => by simp [nkOk] at h
  | .tuple _, .bool _, _, h => by simp [nkOk] at h
  | .tuple _, .list _, _, h => by simp [nkOk] at h
  | .tuple _, .dict _, _, h => by simp [nkOk] at h
theorem eqvs_key : ∀ {as bs : List PyData}, nkOks as = true → nkOks bs = true → PyData.eqvAll as bs = NestedKey.beqAll (toKeys as) (toKeys bs)
  | [], [], _, _ => by simp only [PyData.eqvAll, toKeys, NestedKey.beqAll]
  | [], _ :: _, _, _ => by simp only [PyData.eqvAll, toKeys, NestedKey.beqAll]
  | _ :: _, [], _, _ => by simp only [PyData.eqvAll, toKeys, NestedKey.beqAll]
  | a :: as, b :: bs, h1, h2 => by
    simp only [nkOks, Bool.and_eq_true] at h1 h2
    simp only [PyData.eqvAll, toKeys, NestedKey.beqAll]
    rw [eqv_key h1.1 h2.1, eqvs_key h1.2 h2.2]
end
theorem tOk_nk {d : PyData} (h : tOk d = true) : nkOk d = true := by
  cases d <;> simp only [tOk, Bool.false_eq_true, Bool.and_eq_true] at h
  simpa only [nkOk] using h.1
theorem kEq_t {c j : PyData} (hc : tOk c = true) (hj : tOk j = true) : kEq c j = decide (toKey c = toKey j) := by
  rw [NestedKey.decide_eq, ← eqv_key (tOk_nk hc) (tOk_nk hj)]
  cases c <;> simp only [tOk, Bool.false_eq_true] at hc
  cases j <;> simp only [tOk, Bool.false_eq_true] at hj
  simp only [kEq, PyData.eqv]
mutual
theorem key_depth : ∀ {d : PyData}, nkOk d = true → (toKey d).depth = PyData.depth d
  | .none, _ => rfl
  | .int _, _ => rfl
  | .str _, _ => rfl
  | .tuple ds, h => by
    simp only [toKey, NestedKey.depth, PyData.depth]
    rw [keys_depth (by simpa only [nkOk] using h)]
  | .bool _, h => by simp [nkOk] at h
  | .list _, h => by simp [nkOk] at h
  | .dict _, h => by simp [nkOk] at h
theorem keys_depth : ∀ {ds : List PyData}, nkOks ds = true → NestedKey.depthAll (toKeys ds) = PyData.depthAll ds
  | [], _ => rfl
  | d :: ds, h => by
    simp only [nkOks, Bool.and_eq_true] at h
    simp only [toKeys, NestedKey.depthAll, PyData.depthAll]
    rw [key_depth h.1, keys_depth h.2]
end
theorem tOk_depth {d : PyData} (h : tOk d = true) : (toKey d).depth ≤ 8 := by
  rw [key_depth (tOk_nk h)]
  cases d <;> simp only [tOk, Bool.false_eq_true, Bool.and_eq_true, decide_eq_true_eq] at h
  simp only [PyData.depth]
  omega
mutual
theorem Rp.nk {K : PySem.W.Frag} {S : Addr → Prop} {H : Hp} : ∀ {d : PyData} {v : V}, Rp K S H v d → nkOk d = true → NK K H (toKey d) v
  | .none, _, h, _ => by cases h; exact .non
  | .int i, _, h, _ => by cases h; exact .int i
  | .str x, _, h, _ => by cases h; exact .str x
  | .tuple ds, _, h, f => by
    cases h with
    | tup h1 h2 => exact .tup h1 (Rps.nk h2 (by simpa only [nkOk] using f))
  | .bool _, _, _, h => by simp [nkOk] at h
  | .list _, _, _, h => by simp [nkOk] at h
  | .dict _, _, _, h => by simp [nkOk] at h
theorem Rps.nk {K : PySem.W.Frag} {S : Addr → Prop} {H : Hp} : ∀ {ds : List PyData} {vs : List V}, Rps K S H vs ds → nkOks ds = true → NKs K H (toKeys ds) vs
  | [], _, h, _ => by cases h; exact .nil
  | d :: ds, _, h, f => by
    simp only [nkOks, Bool.and_eq_true] at f
    cases h with
    | cons h1 h2 => exact .cons (Rp.nk h1 f.1) (Rps.nk h2 f.2)
end
theorem Rp.tkey {K : PySem.W.Frag} {S : Addr → Prop} {H : Hp} {d : PyData} {v : V} (h : Rp K S H v d) (f : tOk d = true) : ∃ b, v = .ref b ∧ NK K H (toKey d) (.ref b) := by
  have n := h.nk (tOk_nk f)
  cases d <;> simp only [tOk, Bool.false_eq_true] at f
  cases h with
  | tup h1 h2 => exact ⟨_, rfl, n⟩
/-! the machine's dict -/
section
variable {X : Cx} {pins : List (Addr × Obj)} {σ : L2.St} {H : Hp} {s : Shared} {a : Addr}
mutual
theorem NK.is (I : Inv X pins σ H s) : ∀ {c : NestedKey} {v : V} {u : Value}, NK X.K H c v → RelV v u → NestedIs s.heap c u
  | .none, _, u, h, r => by
    cases h
    cases (show u = Value.none from r)
    exact .none
  | .num i, _, u, h, r => by
    cases h
    obtain ⟨t, q⟩ := (show ∃ t, u = Value.int i t from r)
    subst q
    exact .int i t
  | .text x, _, u, h, r => by
    cases h
    obtain ⟨t, q⟩ := (show ∃ t, u = Value.str x t from r)
    subst q
    exact .text x t
  | .tup ks, _, u, h, r => by
    cases h with
    | @tup a vs ks h1 h2 =>
      cases (show u = Value.ref a from r)
      obtain ⟨its, rv, ⟨o, e, c1, n, c2⟩, _⟩ := I.tuple h1
      exact .tup e c1 c2 (NKs.is I h2 (by simpa using rv))
theorem NKs.is (I : Inv X pins σ H s) : ∀ {cs : List NestedKey} {vs : List V} {us : List Value}, NKs X.K H cs vs → Vals vs us → NestedAll s.heap cs us
  | [], _, us, h, r => by
    cases h
    cases r
    exact .nil
  | c :: cs, _, us, h, r => by
    cases h with
    | cons h1 h2 =>
      cases r with
      | cons r1 r2 => exact .cons (NK.is I h1 r1) (NKs.is I h2 r2)
end
theorem NDic.at_ (I : Inv X pins σ H s) (hw : X.w = WW.w) {xs : List XE} (h : NDic X.K H a xs) : (a == sysModules) = false ∧ xs.length ≤ sizeLine ∧ s.heap.DictOfH (nestedKind X.prog X.w) a (xs.map xk) := by
  rcases h with ⟨rfl, h⟩ | ⟨hn, hl, h, hall⟩
  · obtain ⟨z, y, vs, r, o, es, ep, h1, h2, h3, h4⟩ := dk_of I.hok h
    cases r
    obtain ⟨h4, h5, _⟩ := h4
    have he : es.toList = [] := by
      generalize es.toList = l at h5
      cases h5
      rfl
    refine ⟨y, Nat.zero_le _, o, es, ep, h1, h2, h3, he, (fun x hx => by cases hx), List.nodup_nil⟩
  · obtain ⟨⟨o, es, ep, h1, h2, h3, h4, h5, h6⟩, _, _⟩ := (show ObjOk X.prog X.w H s.heap a (.ext (dnPhi WW.w a xs)) from I.hok a _ h)
    refine ⟨h6, hl, o, es, ep, h1, h2, h3, ?_, fun x hx => ?_, h5⟩
    · rw [h4, ← hw]
      rfl
    · obtain ⟨y, hy, rfl⟩ := List.mem_map.mp hx
      obtain ⟨q1, q2⟩ := hall y hy
      exact ⟨NK.is I q2 rfl, tOk_depth q1⟩
end
def rNIn (K : PySem.W.Frag) (neg : Bool) : R2 := fun y x H Q => ∃ (a b : Addr) (xs : List XE) (j : PyData), x = .ref a ∧ NDic K H a xs ∧ y = .ref b ∧ tOk j = true ∧ NK K H (toKey j) (.ref b) ∧ Q (.bl (if neg = true then !(atKey (xs.map xk) (toKey j)).isSome else (atKey (xs.map xk) (toKey j)).isSome)) H
theorem op_nIn {X : Cx} (hw : X.w = WW.w) (hu : X.A.units + 65 < cLine) : OpR X (compareOp .In) (rNIn X.K false) := by
  intro pins s σ H x y v u Q I rx ry h
  obtain ⟨a, b, xs, j, rfl, g, rfl, hj, hk, q⟩ := h
  cases ry
  cases rx
  obtain ⟨h1, h2, h3⟩ := g.at_ I hw
  exact wpAny_in_heap (knd := nestedKind X.prog X.w) (by show X.A.units + 1 + 8 < cLine; omega) ⟨NK.is I hk rfl, tOk_depth hj⟩ h1 h3 ⟨.bl (atKey (xs.map xk) (toKey j)).isSome, H, I.tok _, rfl, q⟩
theorem op_nNotIn {X : Cx} (hw : X.w = WW.w) (hu : X.A.units + 65 < cLine) : OpR X (compareOp .NotIn) (rNIn X.K true) := by
  intro pins s σ H x y v u Q I rx ry h
  obtain ⟨a, b, xs, j, rfl, g, rfl, hj, hk, q⟩ := h
  cases ry
  cases rx
  obtain ⟨h1, h2, h3⟩ := g.at_ I hw
  exact wpAny_notIn_heap (knd := nestedKind X.prog X.w) (by show X.A.units + 1 + 8 < cLine; omega) ⟨NK.is I hk rfl, tOk_depth hj⟩ h1 h3 ⟨.bl (!(atKey (xs.map xk) (toKey j)).isSome), H, I.tok _, rfl, q⟩
def rNIx (K : PySem.W.Frag) : R2 := fun x y H Q => ∃ (a b : Addr) (xs : List XE) (j : PyData) (p : Addr × Value) (z : V), x = .ref a ∧ NDic K H a xs ∧ y = .ref b ∧ tOk j = true ∧ NK K H (toKey j) (.ref b) ∧ atKey (xs.map xk) (toKey j) = some p ∧ RelV z p.2 ∧ Q z H
theorem ix_n {X : Cx} (hw : X.w = WW.w) (hu : X.A.units + 65 < cLine) : IxR X (rNIx X.K) := by
  intro value slice pins s σ H x y v u Q I rx ry h hs
  obtain ⟨a, b, xs, j, p, z, rfl, g, rfl, hj, hk, hp, rz, q⟩ := h
  cases rx
  cases ry
  obtain ⟨h1, h2, h3⟩ := g.at_ I hw
  have hT : s.TypeIs (.ref a) "dict" := h3.typeIs
  unfold subscriptTail
  refine wpAny_bind ?_
  rw [getitemInPython_of_ne hT.not_modules]
  refine wpAny_bind (wpAny_specialOf hT PySem.F.slot_dict_getitem.lookup ?_)
  have fin : wpAny (model X.prog X.w) X.A (subscripted slice false (.ref a) (.ref b)) (fun r s₃ => wpAny (model X.prog X.w) X.A (letTemporaryGo value (.ref a) r >>= fun _ => pure r) (EP X pins σ Q) X.xe s₃) X.xe s := by
    rw [hs]
    exact wpAny_operating (wpAny_mono (wpAny_getItem_heap (Q := EP X pins σ Q) (E := X.xe) (knd := nestedKind X.prog X.w) (by show X.A.units + 1 + 8 < cLine; omega) ⟨NK.is I hk rfl, tOk_depth hj⟩ h3 hp ⟨z, H, I.tok _, rz, q⟩) (fun r s₃ h₃ => wpAny_bind (wpAny_letTemporaryGo (wpAny_pure h₃))) fun _ _ x => x)
  first
    | exact wpAny_pure (wpAny_bind fin)
    | exact wpAny_bind (wpAny_pure (wpAny_bind fin))
    | exact wpAny_bind fin
def xsPut (xs : List XE) (j : PyData) (b : Addr) (u : Value) : List XE := if (atKey (xs.map xk) (toKey j)).isSome then xs.map (fun x => if toKey x.1 = toKey j then (x.1, x.2.1, u) else x) else xs ++ [(j, b, u)]
theorem xsPut_xk (xs : List XE) (j : PyData) (b : Addr) (u : Value) : (xsPut xs j b u).map xk = storedH (xs.map xk) (toKey j) b u := by
  unfold xsPut storedH
  split
  · rw [List.map_map, List.map_map]
    refine List.map_congr_left fun x _ => ?_
    show xk (if toKey x.1 = toKey j then (x.1, x.2.1, u) else x) = putAt (toKey j) u (xk x)
    unfold putAt xk
    split <;> rfl
  · rw [List.map_append]
    rfl
theorem xsPut_ne (xs : List XE) (j : PyData) (b : Addr) (u : Value) : xsPut xs j b u ≠ [] := by
  unfold xsPut
  split
  · rename_i h
    intro e
    have : xs = [] := by simpa using e
    subst this
    simp [atKey] at h
  · simp
theorem xsPut_len (xs : List XE) (j : PyData) (b : Addr) (u : Value) : (xsPut xs j b u).length ≤ xs.length + 1 := by
  unfold xsPut
  split <;> simp
def rNSet (K : PySem.W.Frag) : TSet := fun x y v H Q => ∃ (a b : Addr) (xs : List XE) (j : PyData), x = .ref a ∧ NDic K H a xs ∧ y = .ref b ∧ tOk j = true ∧ NK K H (toKey j) (.ref b) ∧ xs.length < sizeLine ∧ ∀ u, RelV v u → Q (upd H a (.ext (dnPhi WW.w a (xsPut xs j b u))))
theorem set_n {X : Cx} (hw : X.w = WW.w) (hu : X.A.units + 65 < cLine) : PSet X (rNSet X.K) := by
  intro pins s σ H o i v ov iv u Q I ro ri rv h
  obtain ⟨a, b, xs, j, rfl, g, rfl, hj, hk, hl, q⟩ := h
  cases ro
  cases ri
  obtain ⟨h1, h2, h3⟩ := g.at_ I hw
  have mu : Mut (H a) := by
    rcases g with ⟨_, e⟩ | ⟨_, _, e, _⟩
    · rw [e]; exact True.intro
    · rw [e]; exact True.intro
  refine wpAny_setItem_heap (knd := nestedKind X.prog X.w) (hsz := by rw [List.length_map]; exact h2) (by show X.A.units + 1 + 8 < cLine; omega) ⟨NK.is I hk rfl, tOk_depth hj⟩ h3 fun h' dd' hs => ?_
  obtain ⟨ob, es, ep, hq, e2, e3, e4, _, e5⟩ := dd'
  have new : ObjOk X.prog X.w (upd H a (.ext (dnPhi WW.w a (xsPut xs j b u)))) h' a (.ext (dnPhi WW.w a (xsPut xs j b u))) := by
    refine ⟨⟨ob, es, ep, hq, e2, e3, ?_, ?_, h1⟩, ⟨ob, hq⟩, fun ha hb p st => ?_⟩
    · rw [xsPut_xk, e4, ← hw]
      rfl
    · rw [xsPut_xk]
      exact e5
    · obtain ⟨o, es, ep, z1, z2⟩ := p
      exact ⟨o, es, ep, st _ z1, z2⟩
  exact ⟨_, d_write I mu hs ⟨ob, hq⟩ new, q _ rv⟩
section
variable {K : PySem.W.Frag} {S : Addr → Prop} {H : Hp}
theorem atKey_cons (x : XE) (xs : List XE) (c : NestedKey) : atKey ((x :: xs).map xk) c = if toKey x.1 = c then some x.2 else atKey (xs.map xk) c := by
  unfold atKey xk
  rw [List.map_cons, List.find?_cons]
  by_cases h : toKey x.1 = c <;> simp [h]
theorem look_t {j : PyData} (hj : tOk j = true) : ∀ {ds : List (PyData × PyData)} {ks : List (PyData × V)} {xs : List XE}, Paired (XR K H) ks xs → ks.map (·.1) = ds.map (·.1) → Rps K S H (ks.map (·.2)) (ds.map (·.2)) →
    (∀ d, dLook ds j = some d → ∃ p v, atKey (xs.map xk) (toKey j) = some p ∧ RelV v p.2 ∧ Rp K S H v d) ∧ (dLook ds j = none → atKey (xs.map xk) (toKey j) = none)
  | [], [], _, .nil, _, _ => ⟨fun d h => by simp [dLook] at h, fun _ => rfl⟩
  | [], _ :: _, _, _, e, _ => by simp at e
  | _ :: _, [], _, _, e, _ => by simp at e
  | (c, d) :: ds, (k, v) :: ks, _, .cons (b := x) (l₂ := xs) h t, e, r => by
    simp only [List.map_cons, List.cons.injEq] at e r
    obtain ⟨e1, e2⟩ := e
    obtain ⟨h1, h2, h3, h4⟩ := h
    cases r with
    | cons r1 r2 =>
      obtain ⟨i1, i2⟩ := look_t hj (ds := ds) t e2 r2
      have ec : c = x.1 := e1.symm.trans h1
      have ek : kEq c j = decide (toKey x.1 = toKey j) := by rw [ec]; exact kEq_t h2 hj
      rw [atKey_cons]
      by_cases h : toKey x.1 = toKey j
      · have l : dLook ((c, d) :: ds) j = some d := by simp [dLook, List.find?_cons, ek, h]
        rw [l, if_pos h]
        exact ⟨fun d' q => by cases q; exact ⟨_, v, rfl, h4, r1⟩, fun q => by cases q⟩
      · have l : dLook ((c, d) :: ds) j = dLook ds j := by simp [dLook, List.find?_cons, ek, h]
        rw [l, if_neg h]
        exact ⟨i1, i2⟩
theorem any_t {j : PyData} (hj : tOk j = true) : ∀ {ds : List (PyData × PyData)} {ks : List (PyData × V)} {xs : List XE}, Paired (XR K H) ks xs → ks.map (·.1) = ds.map (·.1) → (atKey (xs.map xk) (toKey j)).isSome = ds.any fun p => kEq p.1 j
  | [], [], _, .nil, _ => rfl
  | [], _ :: _, _, _, e => by simp at e
  | _ :: _, [], _, _, e => by simp at e
  | (c, d) :: ds, (k, v) :: ks, _, .cons (b := x) (l₂ := xs) h t, e => by
    simp only [List.map_cons, List.cons.injEq] at e
    obtain ⟨e1, e2⟩ := e
    obtain ⟨h1, h2, h3, h4⟩ := h
    have ec : c = x.1 := e1.symm.trans h1
    have ek : kEq c j = decide (toKey x.1 = toKey j) := by rw [ec]; exact kEq_t h2 hj
    rw [atKey_cons, List.any_cons, ← any_t hj t e2, ek]
    by_cases h : toKey x.1 = toKey j <;> simp [h]
theorem repl_t {j : PyData} (hj : tOk j = true) {v : V} {u : Value} {z : PyData} (rz : Rp K S H v z) (ru : RelV v u) : ∀ {ds : List (PyData × PyData)} {ks : List (PyData × V)} {xs : List XE}, Paired (XR K H) ks xs → ks.map (·.1) = ds.map (·.1) → Rps K S H (ks.map (·.2)) (ds.map (·.2)) →
    ∃ ks', Paired (XR K H) ks' (xs.map (fun x => if toKey x.1 = toKey j then (x.1, x.2.1, u) else x)) ∧ ks'.map (·.1) = (ds.map fun p => if kEq p.1 j = true then (p.1, z) else p).map (·.1) ∧ Rps K S H (ks'.map (·.2)) ((ds.map fun p => if kEq p.1 j = true then (p.1, z) else p).map (·.2))
  | [], [], _, .nil, _, _ => ⟨[], .nil, rfl, .nil⟩
  | [], _ :: _, _, _, e, _ => by simp at e
  | _ :: _, [], _, _, e, _ => by simp at e
  | (c, d) :: ds, (k, w) :: ks, _, .cons (b := x) (l₂ := xs) h t, e, r => by
    simp only [List.map_cons, List.cons.injEq] at e r
    obtain ⟨e1, e2⟩ := e
    obtain ⟨h1, h2, h3, h4⟩ := h
    cases r with
    | cons r1 r2 =>
      obtain ⟨ks', i1, i2, i3⟩ := repl_t hj rz ru (ds := ds) t e2 r2
      have ec : c = x.1 := e1.symm.trans h1
      have ek : kEq c j = decide (toKey x.1 = toKey j) := by rw [ec]; exact kEq_t h2 hj
      simp only [List.map_cons, ek, decide_eq_true_eq]
      by_cases h : toKey x.1 = toKey j
      · rw [if_pos h, if_pos h]
        exact ⟨(k, v) :: ks', .cons ⟨h1, h2, h3, ru⟩ i1, by simp only [List.map_cons, i2, e1], .cons rz i3⟩
      · rw [if_neg h, if_neg h]
        exact ⟨(k, w) :: ks', .cons ⟨h1, h2, h3, h4⟩ i1, by simp only [List.map_cons, i2, e1], .cons r1 i3⟩
theorem put_t {j : PyData} (hj : tOk j = true) {v : V} {u : Value} {z : PyData} {b : Addr} (hk : NK K H (toKey j) (.ref b)) (rz : Rp K S H v z) (ru : RelV v u) {ds : List (PyData × PyData)} {ks : List (PyData × V)} {xs : List XE} (t : Paired (XR K H) ks xs) (e : ks.map (·.1) = ds.map (·.1)) (r : Rps K S H (ks.map (·.2)) (ds.map (·.2))) :
    ∃ ks', Paired (XR K H) ks' (xsPut xs j b u) ∧ ks'.map (·.1) = (dPut ds j z).map (·.1) ∧ Rps K S H (ks'.map (·.2)) ((dPut ds j z).map (·.2)) := by
  have ha := any_t hj t e
  unfold xsPut dPut
  rw [ha]
  split
  · exact repl_t hj rz ru t e r
  · refine ⟨ks ++ [(j, v)], Paired.snoc t ⟨rfl, hj, hk, ru⟩, ?_, ?_⟩
    · simp [e]
    · rw [List.map_append, List.map_append]
      exact Rps.append r (.cons rz .nil)
end
theorem fitD_or {ds : List (PyData × PyData)} {d : PyData} (h : fitD ds d = true) : (kDic ds = true ∧ kOk d = true) ∨ (tDic ds = true ∧ tOk d = true) := by
  cases d with
  | int i => exact .inl ⟨h, rfl⟩
  | str x => exact .inl ⟨h, rfl⟩
  | tuple t =>
    simp only [fitD, Bool.and_eq_true] at h
    exact .inr h
  | _ => simp [fitD] at h
theorem kEq_key (a b : Key) : kEq (keyD a) (keyD b) = decide (a = b) := by
  cases a <;> cases b <;> simp [keyD, kEq]
theorem kOk_key {d : PyData} (h : kOk d = true) : ∃ k : Key, d = keyD k := by
  cases d <;> simp only [kOk, Bool.false_eq_true] at h
  · exact ⟨.inl _, rfl⟩
  · exact ⟨.inr _, rfl⟩
section
variable {K : PySem.W.Frag} {S : Addr → Prop} {H : Hp}
theorem look_ok (key : Key) : ∀ {ds : List (PyData × PyData)} {kvs : List (Key × V)}, (kvs.map fun p => (keyD p.1, p.2)).map (·.1) = ds.map (·.1) → Rps K S H ((kvs.map fun p => (keyD p.1, p.2)).map (·.2)) (ds.map (·.2)) →
    (∀ d, dLook ds (keyD key) = some d → ∃ v, valV kvs key = some v ∧ Rp K S H v d) ∧ (dLook ds (keyD key) = none → valV kvs key = none)
  | [], [], _, _ => ⟨fun d h => by simp [dLook] at h, fun _ => rfl⟩
  | [], _ :: _, e, _ => by simp at e
  | _ :: _, [], e, _ => by simp at e
  | (c, d) :: ds, (k, v) :: kvs, e, r => by
    simp only [List.map_cons, List.cons.injEq] at e r
    obtain ⟨e1, e2⟩ := e
    cases r with
    | cons r1 r2 =>
      obtain ⟨i1, i2⟩ := look_ok key (ds := ds) (kvs := kvs) e2 r2
      have ek : kEq c (keyD key) = decide (k = key) := by rw [← e1, kEq_key]
      by_cases h : k = key
      · have l : dLook ((c, d) :: ds) (keyD key) = some d := by simp [dLook, List.find?_cons, ek, h]
        rw [l, valV_pos (p := (k, v)) h]
        exact ⟨fun d' q => by cases q; exact ⟨v, rfl, r1⟩, fun q => by cases q⟩
      · have l : dLook ((c, d) :: ds) (keyD key) = dLook ds (keyD key) := by simp [dLook, List.find?_cons, ek, h]
        rw [l, valV_neg (p := (k, v)) h]
        exact ⟨i1, i2⟩
theorem any_key (key : Key) : ∀ {ds : List (PyData × PyData)} {kvs : List (Key × V)}, (kvs.map fun p => (keyD p.1, p.2)).map (·.1) = ds.map (·.1) → (kvs.any fun kv => decide (kv.1 = key)) = ds.any fun p => kEq p.1 (keyD key)
  | [], [], _ => rfl
  | [], _ :: _, e => by simp at e
  | _ :: _, [], e => by simp at e
  | (c, d) :: ds, (k, v) :: kvs, e => by
    simp only [List.map_cons, List.cons.injEq] at e
    obtain ⟨e1, e2⟩ := e
    rw [List.any_cons, List.any_cons, any_key key e2, ← e1, kEq_key]
theorem repl_ok (key : Key) {w : V} {z : PyData} (rz : Rp K S H w z) : ∀ {ds : List (PyData × PyData)} {kvs : List (Key × V)}, (kvs.map fun p => (keyD p.1, p.2)).map (·.1) = ds.map (·.1) → Rps K S H ((kvs.map fun p => (keyD p.1, p.2)).map (·.2)) (ds.map (·.2)) →
    (((kvs.map fun kv => if kv.1 = key then (kv.1, w) else kv).map fun p => (keyD p.1, p.2)).map (·.1) = (ds.map fun p => if kEq p.1 (keyD key) = true then (p.1, z) else p).map (·.1)) ∧
    Rps K S H (((kvs.map fun kv => if kv.1 = key then (kv.1, w) else kv).map fun p => (keyD p.1, p.2)).map (·.2)) ((ds.map fun p => if kEq p.1 (keyD key) = true then (p.1, z) else p).map (·.2))
  | [], [], _, _ => ⟨rfl, .nil⟩
  | [], _ :: _, e, _ => by simp at e
  | _ :: _, [], e, _ => by simp at e
  | (c, d) :: ds, (k, v) :: kvs, e, r => by
    simp only [List.map_cons, List.cons.injEq] at e r
    obtain ⟨e1, e2⟩ := e
    cases r with
    | cons r1 r2 =>
      obtain ⟨i1, i2⟩ := repl_ok key rz (ds := ds) (kvs := kvs) e2 r2
      have ek : kEq c (keyD key) = decide (k = key) := by rw [← e1, kEq_key]
      simp only [List.map_cons, ek, decide_eq_true_eq]
      by_cases h : k = key
      · rw [if_pos h, if_pos h]
        exact ⟨by rw [i1, e1], .cons rz i2⟩
      · rw [if_neg h, if_neg h]
        exact ⟨by rw [i1, e1], .cons r1 i2⟩
theorem put_ok (key : Key) {w : V} {z : PyData} (rz : Rp K S H w z) {ds : List (PyData × PyData)} {kvs : List (Key × V)} (e : (kvs.map fun p => (keyD p.1, p.2)).map (·.1) = ds.map (·.1)) (r : Rps K S H ((kvs.map fun p => (keyD p.1, p.2)).map (·.2)) (ds.map (·.2))) :
    (((putK kvs key w).map fun p => (keyD p.1, p.2)).map (·.1) = (dPut ds (keyD key) z).map (·.1)) ∧ Rps K S H (((putK kvs key w).map fun p => (keyD p.1, p.2)).map (·.2)) ((dPut ds (keyD key) z).map (·.2)) := by
  unfold putK dPut
  rw [any_key key e]
  split
  · exact repl_ok key rz e r
  · simp only [List.map_append, List.map_cons, List.map_nil]
    exact ⟨by rw [e], Rps.append r (.cons rz .nil)⟩
end
def rDIn (neg : Bool) : R2 := fun y x H Q => ∃ (a : Addr) (o : Option V), x = .ref a ∧ DGet H a y o ∧ Q (.bl (if neg = true then !o.isSome else o.isSome)) H
theorem op_dIn {X : Cx} (hu : X.A.units + 65 < cLine) : OpR X (compareOp .In) (rDIn false) := by
  intro pins s σ H x y v u Q I rx ry h
  obtain ⟨a, o, rfl, g, q⟩ := h
  cases ry
  exact d_in (by omega) I g rx fun s3 I3 => ⟨.bl o.isSome, H, I3, rfl, q⟩
theorem op_dNotIn {X : Cx} (hu : X.A.units + 65 < cLine) : OpR X (compareOp .NotIn) (rDIn true) := by
  intro pins s σ H x y v u Q I rx ry h
  obtain ⟨a, o, rfl, g, q⟩ := h
  cases ry
  exact d_notIn (by omega) I g rx fun s3 I3 => ⟨.bl (!o.isSome), H, I3, rfl, q⟩
def rDIx : R2 := fun x y H Q => ∃ (a : Addr) (v : V), x = .ref a ∧ DGet H a y (some v) ∧ Q v H
theorem ix_dict {X : Cx} (hu : X.A.units + 1 < cLine) : IxR X rDIx := by
  intro value slice pins s σ H x y v u Q I rx ry h hs
  obtain ⟨a, z, rfl, g, q⟩ := h
  cases rx
  have hT := dict_typeIs I g
  unfold subscriptTail
  refine wpAny_bind ?_
  rw [getitemInPython_of_ne hT.not_modules]
  refine wpAny_bind (wpAny_specialOf hT PySem.F.slot_dict_getitem.lookup ?_)
  have fin : wpAny (model X.prog X.w) X.A (subscripted slice false (.ref a) u) (fun r s₃ => wpAny (model X.prog X.w) X.A (letTemporaryGo value (.ref a) r >>= fun _ => pure r) (EP X pins σ Q) X.xe s₃) X.xe s := by
    rw [hs]
    exact wpAny_operating (wpAny_mono (d_getItem (Q := EP X pins σ Q) (E := X.xe) hu I g ry fun w' s3 I3 rw' => ⟨z, H, I3, rw', q⟩) (fun r s₃ h₃ => wpAny_bind (wpAny_letTemporaryGo (wpAny_pure h₃))) fun _ _ x => x)
  first
    | exact wpAny_pure (wpAny_bind fin)
    | exact wpAny_bind (wpAny_pure (wpAny_bind fin))
    | exact wpAny_bind fin
def rDSet : TSet := fun x y v H Q => ∃ (a : Addr) (H4 : Hp), x = .ref a ∧ DPut H a y v H4 ∧ Q H4
theorem set_dict {X : Cx} (hu : X.A.units + 1 < cLine) : PSet X rDSet := by
  intro pins s σ H o i v ov iv u Q I ro ri rv h
  obtain ⟨a, H4, rfl, g, q⟩ := h
  cases ro
  exact d_setItem hu I g ri rv fun s4 I4 => ⟨H4, I4, q⟩
theorem PSet.or {X : Cx} {t t' : TSet} (h : PSet X t) (h' : PSet X t') : PSet X (fun x y v H Q => t x y v H Q ∨ t' x y v H Q) := by
  intro pins s σ H o i v ov iv u Q I ro ri rv z
  rcases z with z | z
  · exact h pins s σ H o i v ov iv u Q I ro ri rv z
  · exact h' pins s σ H o i v ov iv u Q I ro ri rv z
/-- o[i] of a list, by values -/
theorem get_list {X : Cx} : PGet X (rIxL X.K) := by
  intro pins s σ H x y v u Q I rx ry h
  obtain ⟨p, xs, i, z, rfl, rfl, hq, he, q⟩ := h
  cases rx
  obtain ⟨t, rfl⟩ := ry
  obtain ⟨its, r, pl, hz⟩ := I.list hq
  obtain ⟨j, h1, h2, h3, h4, h5⟩ := atI_get he
  obtain ⟨w, ew, rw'⟩ := r.get h2
  have hl := r.length
  have hn := line63
  have fin : EP X pins σ Q w s := ⟨z, H, I, rw', q⟩
  by_cases h0 : 0 ≤ i
  · have hj : i.toNat = j := by
      rw [seqIndex_of h0 h5] at h1
      exact Option.some.inj h1
    exact wpAny_getItem_list pl.isList h0 (by omega) (by rw [hj]; simpa using ew) fin
  · have hj : (i + (its.toArray.size : Int)).toNat = j := by
      rw [seqIndex_neg (by omega) h4] at h1
      rw [List.size_toArray, ← hl]
      exact Option.some.inj h1
    exact wpAny_getItem_list_neg pl.isList (by omega) (by rw [List.size_toArray, ← hl]; omega) (by omega) (by rw [hj]; simpa using ew) fin
/-! ### tuple * 1: the same tuple -/
theorem tuple_mul1 (l : Addr) (items : Array Value) (n : Nat) (dd : Option Addr) (sl : Array (Option Value)) (u : Tok) :
    Meets (Builtin.«tuple.__mul__» ⟨[.ref l, .int 1 u], []⟩) (fun _ R s => s.heap.get? l = some { cls := .type "tuple", dict := dd, data := .seq items n, slots := sl } ∧
      R (.ok (.ret (Value.ref l))) s) :=
  .of_wp fun prog w A R s h => by
    obtain ⟨hp, g, d, tk, os⟩ := s
    obtain ⟨hl, h⟩ := h
    have f1 := AutoSeq1.idx_int
    have c0 : (decide ((1 : Int) < -(2 ^ 63)) || decide ((1 : Int) ≥ 2 ^ 63)) = false := by decide
    have c1 : (items.isEmpty || (1 : Int) == 1) = true := by simp
    wp_walk using wpAny_loadPart' hl
    repeat (first
      | (refine wpAny_ite_false (decide_eq_false (by rw [c0]; exact Bool.false_ne_true)) ?_; wp_walk using wpAny_loadPart' hl)
      | (refine wpAny_ite_true (decide_eq_true c1) ?_; wp_walk using wpAny_loadPart' hl))
    exact ⟨_, rfl, h⟩
def rRep1 (K : PySem.W.Frag) : R2 := fun x y H Q => ∃ l xs, x = .ref l ∧ y = .int 1 ∧ SqT K H l xs ∧ xs ≠ [] ∧ Q (.ref l) H
theorem op_rep1 {X : Cx} : OpR X (binaryOp .Mult) (rRep1 X.K) := by
  intro pins s σ H x y v u Q I rx ry h
  obtain ⟨l, xs, rfl, rfl, hT, hne, q⟩ := h
  cases rx
  obtain ⟨t, rfl⟩ := ry
  obtain ⟨its, r, ⟨⟨cls, dd, data, sl⟩, ho, hc, n, hd⟩, hs⟩ := I.tuple hT
  simp only at hc hd
  subst hc hd
  refine wpAny_binaryOp_repeat_ref (T := "tuple") (U := "int") (by decide) ⟨_, ho, rfl⟩ (fun s' => typeIs_int s' 1 t) noFill_tuple_mul F.fills_int_mul F.slot_int_rmul repeat_tuple F.slot_int_index.lookup
    (call_meets F.slot_int_rmul (typeIs_int s 1 t) F.entry_int_rmul (F.args_int_rmul_2 _ _) (int_rmul_tuple 1 t l its.toArray n dd sl)
      ⟨ho, rfl, ⟨_, ho, rfl⟩, call_meets F.slot_tuple_mul ⟨_, ho, rfl⟩ F.entry_tuple_mul (F.args_tuple_mul_2 _ _) (tuple_mul1 l its.toArray n dd sl t) ⟨ho, ?_⟩⟩)
  exact ⟨.ref l, H, I, rfl, q⟩
def rOfB (K : PySem.W.Frag) : BO → R2
  | .add => fun x y H Q => rI0 (fun i j => .int (i + j)) x y H Q ∨ (rCatA K x y H Q ∨ (rCatS K x y H Q ∨ ∃ i j, x = .str i ∧ y = .str j ∧ i.length + j.length ≤ sizeLine ∧ Q (.str (i ++ j)) H))
  | .sub => rI0 fun i j => .int (i - j)
  | .mul => fun x y H Q => rI CMulV (fun i j => .int (i * j)) x y H Q ∨ (rRepS K x y H Q ∨ (rRepT K x y H Q ∨ rRep1 K x y H Q))
  | .fdiv => rI CDivW fun i j => .int (i / j)
  | .mod => rI (fun _ j => 0 < j) fun i j => .int (i % j)
  | .pow => rI CPowB fun i j => .int (i ^ j.toNat)
  | .shl => rI CPow fun i j => .int (i * 2 ^ j.toNat)
  | .shr => rI (fun _ j => 0 ≤ j) fun i j => .int (i / 2 ^ j.toNat)
def opOfB : BO → Operator
  | .add => .Add
  | .sub => .Sub
  | .mul => .Mult
  | .fdiv => .FloorDiv
  | .mod => .Mod
  | .pow => .Pow
  | .shl => .LShift
  | .shr => .RShift
theorem op_ofB {X : Cx} (o : BO) : OpR X (binaryOp (opOfB o)) (rOfB X.K o) := by
  cases o with
  | add => exact op_add.or (op_catA.or (op_catS.or op_add_str))
  | sub => exact op_sub
  | mul => exact op_mulV.or (op_repS.or (op_repT.or op_rep1))
  | fdiv => exact op_fdivW
  | mod => exact op_mod
  | pow => exact op_powB
  | shl => exact op_shl
  | shr => exact op_shr

section
variable {K : PySem.W.Frag} {C : Nat → Addr} {W : WX} {B : Addr → Prop} {σ : L2.St} {H : Hp} {ρ : Env} {Q : VK} {x y : V} {d e : PyData}
theorem GoodE.lift {o : Option Rv} (g : GoodE K C W B σ H ρ (liftR o ρ) Q) : ∃ r, o = some r ∧ GoodE K C W B σ H ρ (.ok r ρ) Q := by
  cases o with
  | none => exact g.elim
  | some r => exact ⟨r, rfl, g⟩
theorem GoodE.int {i : Int} (g : GoodE K C W B σ H ρ (.ok (.val (.int i)) ρ) Q) (s : SR K B σ H ρ) : Q (.int i) H := g.give s (.int i)
theorem GoodE.bool {i : Bool} (g : GoodE K C W B σ H ρ (.ok (.val (.bool i)) ρ) Q) (s : SR K B σ H ρ) : Q (.bl i) H := g.give s (.bl i)
theorem bin_ok (o : BO) (s : SR K B σ H ρ) (rx : RV K B σ H ρ x d) (ry : RV K B σ H ρ y e) (g : GoodE K C W B σ H ρ (liftR (binD o d e) ρ) Q) : rOfB K o x y H Q := by
  obtain ⟨r, hr, g⟩ := g.lift
  cases o with
  | sub =>
    cases d <;> cases e <;> simp only [binD, Option.some.injEq, reduceCtorEq] at hr
    subst hr
    exact ⟨_, _, rx.int, ry.int, g.int s⟩
  | fdiv =>
    cases d <;> cases e <;> simp only [binD, reduceCtorEq] at hr
    split at hr
    · rename_i hc
      simp only [Option.some.injEq] at hr
      subst hr
      simp only [divOk, Bool.and_eq_true, decide_eq_true_eq] at hc
      exact ⟨_, _, rx.int, ry.int, hc, g.int s⟩
    · cases hr
  | mod =>
    cases d <;> cases e <;> simp only [binD, reduceCtorEq] at hr
    split at hr
    · rename_i hc
      simp only [Option.some.injEq] at hr
      subst hr
      exact ⟨_, _, rx.int, ry.int, hc, g.int s⟩
    · cases hr
  | pow =>
    cases d <;> cases e <;> simp only [binD, reduceCtorEq] at hr
    split at hr
    · rename_i hc
      simp only [Option.some.injEq] at hr
      subst hr
      exact ⟨_, _, rx.int, ry.int, hc, g.int s⟩
    · cases hr
  | shl =>
    cases d <;> cases e <;> simp only [binD, reduceCtorEq] at hr
    split at hr
    · rename_i hc
      simp only [Option.some.injEq] at hr
      subst hr
      exact ⟨_, _, rx.int, ry.int, hc, g.int s⟩
    · cases hr
  | shr =>
    cases d <;> cases e <;> simp only [binD, reduceCtorEq] at hr
    split at hr
    · rename_i hc
      simp only [Option.some.injEq] at hr
      subst hr
      exact ⟨_, _, rx.int, ry.int, hc, g.int s⟩
    · cases hr
  | add =>
    cases d <;> cases e <;> simp only [binD, Option.some.injEq, reduceCtorEq] at hr
    · subst hr
      exact .inl ⟨_, _, rx.int, ry.int, g.int s⟩
    · split at hr
      · rename_i hc
        simp only [Option.some.injEq] at hr
        subst hr
        exact .inr (.inr (.inr ⟨_, _, rx.str, ry.str, len_line hc, g.give s (.str _)⟩))
      · cases hr
    · split at hr
      · rename_i hc
        simp only [Option.some.injEq] at hr
        subst hr
        obtain ⟨a, xs, rfl, h1, p1⟩ := rx.list
        obtain ⟨b, ys, rfl, h2, p2⟩ := ry.list
        refine .inr (.inr (.inl ⟨a, b, xs, ys, rfl, rfl, h1, h2, ?_, fun p hp => g.newL s (p1.append p2) hp⟩))
        rw [p1.length, p2.length]
        exact len_line hc
      · cases hr
    · split at hr
      · rename_i hc
        simp only [Option.some.injEq] at hr
        subst hr
        obtain ⟨a, xs, rfl, h1, p1⟩ := rx.tuple
        obtain ⟨b, ys, rfl, h2, p2⟩ := ry.tuple
        refine .inr (.inl ⟨a, b, xs, ys, rfl, rfl, h1, h2, ?_, fun z => ?_, fun z z' => ?_, fun _ _ p hp => g.newT s (p1.append p2) hp⟩)
        · rw [p1.length, p2.length]
          exact len_line hc
        · subst z
          exact g.give s (.tup h2 (p1.append p2))
        · subst z'
          have q := p1.append p2
          rw [List.append_nil] at q
          exact g.give s (.tup h1 q)
      · cases hr
  | mul =>
    cases d <;> cases e <;> simp only [binD, reduceCtorEq] at hr
    · split at hr
      · rename_i hc
        simp only [Option.some.injEq] at hr
        subst hr
        exact .inl ⟨_, _, rx.int, ry.int, hc, g.int s⟩
      · cases hr
    · split at hr
      · rename_i hc
        simp only [Option.some.injEq] at hr
        subst hr
        obtain ⟨a, xs, rfl, h1, p1⟩ := rx.list
        refine .inr (.inl ⟨a, _, xs, rfl, ry.int, h1, by omega, by omega, ?_, fun p hp => g.newL s (p1.rep _) hp⟩)
        rw [p1.length]
        exact len_line hc.2.2
      · cases hr
    · split at hr
      · rename_i hc
        simp only [Option.some.injEq] at hr
        subst hr
        obtain ⟨a, xs, rfl, h1, p1⟩ := rx.tuple
        have hx : xs ≠ [] := by
          rintro rfl
          have := p1.length
          exact hc.1 (List.length_eq_zero_iff.mp this.symm)
        rename_i ds k w0
        by_cases hk : k = 1
        · subst hk
          refine .inr (.inr (.inr ⟨a, xs, rfl, ry.int, h1, hx, ?_⟩))
          have e : (List.replicate (1 : Int).toNat ds).flatten = ds := by simp
          rw [e] at g
          exact g.give s (.tup h1 p1)
        · exact .inr (.inr (.inl ⟨a, _, xs, rfl, ry.int, h1, hx, by omega, hc.2.2.1, by rw [p1.length]; exact hc.2.2.2, fun p hp => g.newT s (p1.rep _) hp⟩))
      · cases hr

/-! ### comparisons -/
def rOfC (K : PySem.W.Frag) : CO → R2
  | .eq => rEqD K
  | .ne => rNeD K
  | .lt => rI0 fun i j => .bl (decide (i < j))
  | .le => rI0 fun i j => .bl (decide (i ≤ j))
  | .gt => rI0 fun i j => .bl (decide (j < i))
  | .ge => rI0 fun i j => .bl (decide (j ≤ i))
  | .isN => fun x y H Q => y = .non ∧ Q (.bl (decide (x = .non))) H
  | .notN => fun x y H Q => y = .non ∧ Q (.bl (!decide (x = .non))) H
  | .inn => fun x y H Q => ((rInD K x y H Q ∨ rIn K false x y H Q) ∨ rDIn false x y H Q) ∨ rNIn K false x y H Q
  | .notin => fun x y H Q => ((rNotInD K x y H Q ∨ rIn K true x y H Q) ∨ rDIn true x y H Q) ∨ rNIn K true x y H Q
def opOfC : CO → CmpOp
  | .eq => .Eq
  | .ne => .NotEq
  | .lt => .Lt
  | .le => .LtE
  | .gt => .Gt
  | .ge => .GtE
  | .isN => .Is
  | .notN => .IsNot
  | .inn => .In
  | .notin => .NotIn
theorem op_ofC {X : Cx} (hw : X.w = WW.w) (hu : X.A.units + 65 < cLine) (o : CO) : OpR X (compareOp (opOfC o)) (rOfC X.K o) := by
  cases o with
  | eq => exact op_eqD (by omega)
  | ne => exact op_neD (by omega)
  | lt => exact op_lt
  | le => exact op_le
  | gt => exact op_gt
  | ge => exact op_ge
  | isN => exact op_isN
  | notN => exact op_notN
  | inn => exact (((op_inD hu).or op_in_seq).or (op_dIn hu)).or (op_nIn hw hu)
  | notin => exact (((op_notInD hu).or op_notIn_seq).or (op_dNotIn hu)).or (op_nNotIn hw hu)
theorem RV.tup (h : RV K B σ H ρ x d) (f : tOk d = true) : Rp K (Free B σ ρ) H x d := by
  rcases h with h | ⟨a, rfl, h⟩
  · exact h
  · cases h <;> simp [tOk] at f
theorem RV.key {k : Key} (h : RV K B σ H ρ x (keyD k)) : x = kV k := by
  cases k with
  | inl i => exact h.int
  | inr z => exact h.str
theorem flat_of (r : Rp K (Free B σ ρ) H x d) (f : flatD d = true) : flatV x = true ∧ ∀ {z : V} {c : PyData}, Rp K (Free B σ ρ) H z c → flatD c = true → eqV z x = PyData.eqv c d := by
  cases d <;> simp only [flatD, Bool.false_eq_true] at f
  all_goals
    cases r
    refine ⟨rfl, fun {z c} r' f' => ?_⟩
    cases c <;> simp only [flatD, Bool.false_eq_true] at f' <;> cases r' <;> simp only [eqV, PyData.eqv]
theorem flats_of {xs : List V} {ds : List PyData} (r : Rps K (Free B σ ρ) H xs ds) (f : ds.all flatD = true) : xs.all flatV = true := by
  induction ds generalizing xs with
  | nil => cases r; rfl
  | cons d ds ih =>
    rw [List.all_cons, Bool.and_eq_true] at f
    cases r with
    | cons h1 h2 => rw [List.all_cons, (flat_of h1 f.1).1, ih h2 f.2]; rfl
theorem inV_of (r : Rp K (Free B σ ρ) H x d) (f : flatD d = true) {xs : List V} {ds : List PyData} (rs : Rps K (Free B σ ρ) H xs ds) (fs : ds.all flatD = true) : inV x xs = inD d ds := by
  induction ds generalizing xs with
  | nil => cases rs; rfl
  | cons c ds ih =>
    rw [List.all_cons, Bool.and_eq_true] at fs
    cases rs with
    | cons h1 h2 =>
      have q := ih h2 fs.2
      unfold inV inD at q ⊢
      rw [List.any_cons, List.any_cons, q, (flat_of r f).2 h1 fs.1]
theorem RV.plain (h : RV K B σ H ρ x d) (f : flatD d = true) : Rp K (Free B σ ρ) H x d := by
  rcases h with h | ⟨a, rfl, h⟩
  · exact h
  · cases h <;> simp [flatD] at f
theorem cmp_ok (o : CO) (s : SR K B σ H ρ) (rx : RV K B σ H ρ x d) (ry : RV K B σ H ρ y e) (ne : (o = .isN ∨ o = .notN) → y = .non) {c : Bool} (hc : cmpD o d e = some c) (q : Q (.bl c) H) : rOfC K o x y H Q := by
  have isn : ∀ (dd : PyData), RV K B σ H ρ x dd → decide (x = .non) = (match dd with | .none => true | _ => false) := by
    intro dd r
    cases dd with
    | none => rw [r.none]; rfl
    | bool b => rw [r.bool]; rfl
    | int i => rw [r.int]; rfl
    | str z => rw [r.str]; rfl
    | list ds => obtain ⟨a, xs, rfl, _⟩ := r.list; rfl
    | tuple ds => obtain ⟨a, xs, rfl, _⟩ := r.tuple; rfl
    | dict ds => obtain ⟨a, xs, rfl, _⟩ := r.dict; rfl
  cases o with
  | eq =>
    simp only [cmpD] at hc
    split at hc
    · rename_i h
      rw [Bool.and_eq_true] at h
      cases hc
      exact ⟨d, e, rx.dp h.1, ry.dp h.2, h.1, h.2, q⟩
    · cases hc
  | ne =>
    simp only [cmpD] at hc
    split at hc
    · rename_i h
      rw [Bool.and_eq_true] at h
      cases hc
      exact ⟨d, e, rx.dp h.1, ry.dp h.2, h.1, h.2, q⟩
    · cases hc
  | isN =>
    have h := isn d rx
    refine ⟨ne (.inl rfl), ?_⟩
    rw [h]
    cases d <;> simp only [cmpD, Option.some.injEq] at hc <;> subst hc <;> exact q
  | notN =>
    have h := isn d rx
    refine ⟨ne (.inr rfl), ?_⟩
    rw [h]
    cases d <;> simp only [cmpD, Option.some.injEq] at hc <;> subst hc <;> exact q
  | inn =>
    cases e with
    | list ds =>
      simp only [cmpD] at hc
      split at hc
      · rename_i h
        rw [Bool.and_eq_true] at h
        cases hc
        exact .inl (.inl (.inl ⟨d, ds, rx.dp h.1, ry.dp h.2, h.1, h.2, q⟩))
      · cases hc
    | tuple ds =>
      simp only [cmpD] at hc
      split at hc
      · rename_i h
        rw [Bool.and_eq_true] at h
        cases hc
        obtain ⟨a, xs, rfl, h1, p1⟩ := ry.tuple
        have px := rx.plain h.1
        exact .inl (.inl (.inr ⟨a, xs, rfl, .inr h1, (flat_of px h.1).1, flats_of p1 h.2, by rw [inV_of px h.1 p1 h.2]; exact q⟩))
      · cases hc
    | dict ds =>
      simp only [cmpD] at hc
      split at hc
      · rename_i h
        cases hc
        obtain ⟨a, ks, rfl, h1, h2, p1⟩ := ry.dict
        rcases fitD_or h with h | h
        · obtain ⟨kvs, hk, rfl⟩ := h1.k h2 h.1
          obtain ⟨key, rfl⟩ := kOk_key h.2
          have hx := rx.key
          subst hx
          obtain ⟨l1, l2⟩ := look_ok key h2 p1
          refine .inl (.inr ⟨a, valV kvs key, rfl, .k hk, ?_⟩)
          cases e : dLook ds (keyD key) with
          | none => rw [e] at q; rw [l2 e]; exact q
          | some d => rw [e] at q; obtain ⟨v, hv, _⟩ := l1 d e; rw [hv]; exact q
        · obtain ⟨xs, hn, pr⟩ := h1.t h2 h.1
          obtain ⟨b, rfl, hk⟩ := (rx.tup h.2).tkey h.2
          obtain ⟨l1, l2⟩ := look_t h.2 pr h2 p1
          refine .inr ⟨a, b, xs, d, rfl, hn, rfl, h.2, hk, ?_⟩
          cases e : dLook ds d with
          | none => rw [e] at q; rw [l2 e]; exact q
          | some z => rw [e] at q; obtain ⟨p, v, hv, _⟩ := l1 z e; rw [hv]; exact q
      · cases hc
    | _ => simp [cmpD] at hc
  | notin =>
    cases e with
    | list ds =>
      simp only [cmpD] at hc
      split at hc
      · rename_i h
        rw [Bool.and_eq_true] at h
        cases hc
        exact .inl (.inl (.inl ⟨d, ds, rx.dp h.1, ry.dp h.2, h.1, h.2, q⟩))
      · cases hc
    | tuple ds =>
      simp only [cmpD] at hc
      split at hc
      · rename_i h
        rw [Bool.and_eq_true] at h
        cases hc
        obtain ⟨a, xs, rfl, h1, p1⟩ := ry.tuple
        have px := rx.plain h.1
        exact .inl (.inl (.inr ⟨a, xs, rfl, .inr h1, (flat_of px h.1).1, flats_of p1 h.2, by rw [inV_of px h.1 p1 h.2]; exact q⟩))
      · cases hc
    | dict ds =>
      simp only [cmpD] at hc
      split at hc
      · rename_i h
        cases hc
        obtain ⟨a, ks, rfl, h1, h2, p1⟩ := ry.dict
        rcases fitD_or h with h | h
        · obtain ⟨kvs, hk, rfl⟩ := h1.k h2 h.1
          obtain ⟨key, rfl⟩ := kOk_key h.2
          have hx := rx.key
          subst hx
          obtain ⟨l1, l2⟩ := look_ok key h2 p1
          refine .inl (.inr ⟨a, valV kvs key, rfl, .k hk, ?_⟩)
          cases e : dLook ds (keyD key) with
          | none => rw [e] at q; rw [l2 e]; exact q
          | some d => rw [e] at q; obtain ⟨v, hv, _⟩ := l1 d e; rw [hv]; exact q
        · obtain ⟨xs, hn, pr⟩ := h1.t h2 h.1
          obtain ⟨b, rfl, hk⟩ := (rx.tup h.2).tkey h.2
          obtain ⟨l1, l2⟩ := look_t h.2 pr h2 p1
          refine .inr ⟨a, b, xs, d, rfl, hn, rfl, h.2, hk, ?_⟩
          cases e : dLook ds d with
          | none => rw [e] at q; rw [l2 e]; exact q
          | some z => rw [e] at q; obtain ⟨p, v, hv, _⟩ := l1 z e; rw [hv]; exact q
      · cases hc
    | _ => simp [cmpD] at hc
  | lt =>
    cases d <;> cases e <;> simp only [cmpD, Option.some.injEq, reduceCtorEq] at hc
    subst hc
    exact ⟨_, _, rx.int, ry.int, q⟩
  | le =>
    cases d <;> cases e <;> simp only [cmpD, Option.some.injEq, reduceCtorEq] at hc
    subst hc
    exact ⟨_, _, rx.int, ry.int, q⟩
  | gt =>
    cases d <;> cases e <;> simp only [cmpD, Option.some.injEq, reduceCtorEq] at hc
    subst hc
    exact ⟨_, _, rx.int, ry.int, q⟩
  | ge =>
    cases d <;> cases e <;> simp only [cmpD, Option.some.injEq, reduceCtorEq] at hc
    subst hc
    exact ⟨_, _, rx.int, ry.int, q⟩

/-! ### subscripts, slices -/
theorem idx_ok (s : SR K B σ H ρ) (rx : RV K B σ H ρ x d) (ry : RV K B σ H ρ y e) (g : GoodE K C W B σ H ρ (liftR (idxD d e) ρ) Q) : ((rIxL K x y H Q ∨ rIxT K x y H Q) ∨ rDIx x y H Q) ∨ rNIx K x y H Q := by
  obtain ⟨r, hr, g⟩ := g.lift
  cases d with
  | list ds =>
    cases e <;> simp only [idxD, reduceCtorEq] at hr
    rename_i i
    split at hr
    · rename_i j hj
      obtain ⟨c, hc, rfl⟩ := Option.map_eq_some_iff.mp hr
      obtain ⟨a, xs, rfl, h1, p1⟩ := rx.list
      obtain ⟨v, hv, rv⟩ := p1.get hc
      refine .inl (.inl (.inl ⟨a, xs, i, v, rfl, ry.int, h1, ?_, g.give s rv⟩))
      unfold atI
      rw [p1.length]
      unfold ixD at hj
      rw [hj]
      exact hv
    · cases hr
  | tuple ds =>
    cases e <;> simp only [idxD, reduceCtorEq] at hr
    rename_i i
    split at hr
    · rename_i j hj
      obtain ⟨c, hc, rfl⟩ := Option.map_eq_some_iff.mp hr
      obtain ⟨a, xs, rfl, h1, p1⟩ := rx.tuple
      obtain ⟨v, hv, rv⟩ := p1.get hc
      refine .inl (.inl (.inr ⟨a, xs, i, v, rfl, ry.int, h1, ?_, g.give s rv⟩))
      unfold atI
      rw [p1.length]
      unfold ixD at hj
      rw [hj]
      exact hv
    · cases hr
  | dict ds =>
    simp only [idxD] at hr
    split at hr
    · rename_i hk
      obtain ⟨c, hc, rfl⟩ := Option.map_eq_some_iff.mp hr
      have gg := g
      obtain ⟨a, ks, rfl, h1, h2, p1⟩ := rx.dict
      rcases fitD_or hk with hk | hk
      · obtain ⟨kvs, hkk, rfl⟩ := h1.k h2 hk.1
        obtain ⟨key, rfl⟩ := kOk_key hk.2
        have hy := ry.key
        subst hy
        obtain ⟨v, hv, rv⟩ := (look_ok key h2 p1).1 c hc
        exact .inl (.inr ⟨a, v, rfl, by rw [← hv]; exact .k hkk, gg.give s rv⟩)
      · obtain ⟨xs, hn, pr⟩ := h1.t h2 hk.1
        obtain ⟨b, rfl, hkk⟩ := (ry.tup hk.2).tkey hk.2
        obtain ⟨p, v, hv, ru, rv⟩ := (look_t hk.2 pr h2 p1).1 c hc
        exact .inr ⟨a, b, xs, e, p, v, rfl, hn, rfl, hk.2, hkk, hv, ru, gg.give s rv⟩
    · cases hr
  | _ => simp [idxD] at hr
theorem cut_rps {S : Addr → Prop} {xs : List V} {ds : List PyData} (r : Rps K S H xs ds) (lo hi : Option Int) : Rps K S H (cutV xs lo hi) (cutD ds lo hi) := by
  unfold cutV cutD
  rw [r.length]
  exact (r.drop _).take _
theorem slc_ok {lo hi : Option Int} (s : SR K B σ H ρ) (rx : RV K B σ H ρ x d) (g : GoodE K C W B σ H ρ (liftR (slcD d lo hi) ρ) Q) : rSlL K x lo hi H Q ∨ rSlA K x lo hi H Q := by
  obtain ⟨r, hr, g⟩ := g.lift
  cases d with
  | list ds =>
    simp only [slcD, Option.some.injEq] at hr
    subst hr
    obtain ⟨a, xs, rfl, h1, p1⟩ := rx.list
    exact .inl ⟨a, xs, rfl, h1, fun p hp => g.newL s (cut_rps p1 lo hi) hp⟩
  | tuple ds =>
    simp only [slcD, Option.some.injEq] at hr
    subst hr
    obtain ⟨a, xs, rfl, h1, p1⟩ := rx.tuple
    refine .inr ⟨a, xs, rfl, h1, fun z => ?_, fun _ p hp => g.newT s (cut_rps p1 lo hi) hp⟩
    have e : cutD ds lo hi = ds := by
      rw [p1.length] at z
      unfold cutD
      rw [z.1, z.2]
      simp
    rw [e] at g
    exact g.give s (.tup h1 p1)
  | _ => simp [slcD] at hr
end
end PD
set_option maxRecDepth 100000
set_option autoImplicit false
/-! PD5: built-in functions by data, isinstance, argument lists as data. -/
namespace PD
variable [WW]
open PySem PySem.Spec PyProof.Rows L2
section
variable {K : PySem.W.Frag} {C : Nat → Addr} {W : WX} {B Bs : Addr → Prop} {σ : L2.St} {H : Hp} {ρ : Env} {Q : VK} {x y : V} {d e : PyData}
theorem ResL.base {vs : List V} {rs : List Rv} (L : ResL K B Bs σ H ρ vs rs) : SR K B σ H ρ := L.sr.weak L.sub
theorem ResL.opd {vs : List V} {rs : List Rv} (L : ResL K B Bs σ H ρ vs rs) {k : Nat} {v : V} {r : Rv} (e1 : vs[k]? = some v) (e2 : rs[k]? = some r) : Opd K B σ H ρ v r := by
  cases r with
  | val d => exact (L.val k d v e2 e1).mono fun _ f => f.weak L.sub
  | own d =>
    obtain ⟨a, rfl, n, b, r⟩ := L.own k d v e2 e1
    exact (r.mono fun _ f => f.weak L.sub).rp ⟨n, fun o => L.sr.ownFree o b⟩
  | sl i => exact L.slt k i v e2 e1
structure RVs (K : PySem.W.Frag) (B : Addr → Prop) (σ : L2.St) (H : Hp) (ρ : Env) (vs : List V) (ds : List PyData) : Prop where
  len : vs.length = ds.length
  at_ : ∀ (k : Nat) v d, vs[k]? = some v → ds[k]? = some d → RV K B σ H ρ v d
theorem dats_at : ∀ {rs : List Rv} {ds : List PyData}, dats ρ rs = some ds → rs.length = ds.length ∧ ∀ (k : Nat) d, ds[k]? = some d → ∃ r, rs[k]? = some r ∧ dat ρ r = some d
  | [], ds, h => by simp only [dats, Option.some.injEq] at h; subst h; exact ⟨rfl, fun k d e => by simp at e⟩
  | r :: rs, ds, h => by
    simp only [dats] at h
    split at h
    · rename_i d ds' e1 e2
      simp only [Option.some.injEq] at h
      subst h
      obtain ⟨l, f⟩ := dats_at e2
      refine ⟨by rw [List.length_cons, List.length_cons, l], fun k d' e => ?_⟩
      cases k with
      | zero => simp only [List.getElem?_cons_zero, Option.some.injEq] at e; subst e; exact ⟨r, rfl, e1⟩
      | succ k =>
        obtain ⟨r', q, z⟩ := f k d' (by simpa using e)
        exact ⟨r', by simpa using q, z⟩
    · cases h
theorem ResL.rvs {vs : List V} {rs : List Rv} {ds : List PyData} (L : ResL K B Bs σ H ρ vs rs) (h : dats ρ rs = some ds) : RVs K B σ H ρ vs ds := by
  obtain ⟨l, f⟩ := dats_at h
  refine ⟨L.len.trans l, fun k v d e1 e2 => ?_⟩
  obtain ⟨r, q, z⟩ := f k d e2
  exact (L.opd e1 q).rv L.base z
theorem RVs.one {vs : List V} (h : RVs K B σ H ρ vs [d]) : ∃ v, vs = [v] ∧ RV K B σ H ρ v d := by
  have l := h.len
  match vs, l with
  | [v], _ => exact ⟨v, rfl, h.at_ 0 v d rfl rfl⟩
theorem RVs.two {vs : List V} (h : RVs K B σ H ρ vs [d, e]) : ∃ v w, vs = [v, w] ∧ RV K B σ H ρ v d ∧ RV K B σ H ρ w e := by
  have l := h.len
  match vs, l with
  | [v, w], _ => exact ⟨v, w, rfl, h.at_ 0 v d rfl rfl, h.at_ 1 w e rfl rfl⟩
theorem intsOf_rps {S : Addr → Prop} : ∀ {ds : List PyData} {ns : List Int} {xs : List V}, intsOf ds = some ns → Rps K S H xs ds → xs = ns.map V.int ∧ ns.length = ds.length
  | [], ns, xs, h, r => by simp only [intsOf, Option.some.injEq] at h; subst h; cases r; exact ⟨rfl, rfl⟩
  | d :: ds, ns, xs, h, r => by
    cases d <;> simp only [intsOf, reduceCtorEq] at h
    obtain ⟨ms, h1, rfl⟩ := Option.map_eq_some_iff.mp h
    cases r with
    | cons r1 r2 =>
      cases r1
      obtain ⟨e1, e2⟩ := intsOf_rps h1 r2
      subst e1
      exact ⟨rfl, by rw [List.length_cons, List.length_cons, e2]⟩
theorem boolsOf_rps {S : Addr → Prop} : ∀ {ds : List PyData} {ns : List Bool} {xs : List V}, boolsOf ds = some ns → Rps K S H xs ds → xs = ns.map V.bl
  | [], ns, xs, h, r => by simp only [boolsOf, Option.some.injEq] at h; subst h; cases r; rfl
  | d :: ds, ns, xs, h, r => by
    cases d <;> simp only [boolsOf, reduceCtorEq] at h
    obtain ⟨ms, h1, rfl⟩ := Option.map_eq_some_iff.mp h
    cases r with
    | cons r1 r2 =>
      cases r1
      rw [boolsOf_rps h1 r2]
      rfl
theorem maxI_eq : ∀ {ns : List Int} {m : Int}, m ∈ ns → (∀ y, y ∈ ns → y ≤ m) → m = maxI ns
  | [a], m, h, _ => by simpa [maxI] using h
  | a :: b :: r, m, h, f => by
    simp only [maxI]
    by_cases hm : m ∈ b :: r
    · have ih := maxI_eq hm fun y hy => f y (List.mem_cons_of_mem _ hy)
      rw [← ih]
      have := f a List.mem_cons_self
      split
      · omega
      · rfl
    · have e : m = a := (List.mem_cons.mp h).resolve_right hm
      subst e
      have key : maxI (b :: r) ≤ m := by
        have hx : ∀ l : List Int, l ≠ [] → maxI l ∈ l := by
          intro l
          induction l with
          | nil => intro z; exact absurd rfl z
          | cons c l ih =>
            intro _
            cases l with
            | nil => simp [maxI]
            | cons c' l' =>
              simp only [maxI]
              split
              · exact List.mem_cons_self
              · exact List.mem_cons_of_mem _ (ih (by simp))
        exact f _ (List.mem_cons_of_mem _ (hx _ (by simp)))
      rw [if_pos key]
theorem minI_eq : ∀ {ns : List Int} {m : Int}, m ∈ ns → (∀ y, y ∈ ns → m ≤ y) → m = minI ns
  | [a], m, h, _ => by simpa [minI] using h
  | a :: b :: r, m, h, f => by
    simp only [minI]
    by_cases hm : m ∈ b :: r
    · have ih := minI_eq hm fun y hy => f y (List.mem_cons_of_mem _ hy)
      rw [← ih]
      have := f a List.mem_cons_self
      split
      · omega
      · rfl
    · have e : m = a := (List.mem_cons.mp h).resolve_right hm
      subst e
      have key : m ≤ minI (b :: r) := by
        have hx : ∀ l : List Int, l ≠ [] → minI l ∈ l := by
          intro l
          induction l with
          | nil => intro z; exact absurd rfl z
          | cons c l ih =>
            intro _
            cases l with
            | nil => simp [minI]
            | cons c' l' =>
              simp only [minI]
              split
              · exact List.mem_cons_self
              · exact List.mem_cons_of_mem _ (ih (by simp))
        exact f _ (List.mem_cons_of_mem _ (hx _ (by simp)))
      rw [if_pos key]
end

theorem rps_ints {K : PySem.W.Frag} {S : Addr → Prop} {H : Hp} : ∀ ns : List Int, Rps K S H (ns.map V.int) (ns.map PyData.int)
  | [] => .nil
  | n :: ns => .cons (.int n) (rps_ints ns)
theorem sort_one {ns' ns : List Int} (hp : ns'.Perm ns) (hs : ns'.Pairwise (· ≤ ·)) : ns' = ns.mergeSort (fun a b => decide (a ≤ b)) := by
  have h2 : (ns.mergeSort (fun a b => decide (a ≤ b))).Pairwise (· ≤ ·) := by
    have := List.pairwise_mergeSort (le := fun a b : Int => decide (a ≤ b)) (fun a b c h1 h2 => by simp at *; omega) (fun a b => by simp; omega) ns
    exact this.imp fun h => by simpa using h
  exact List.Perm.eq_of_pairwise (le := (· ≤ ·)) (fun a b _ _ h1 h2 => Int.le_antisymm h1 h2) hs h2 (hp.trans (List.mergeSort_perm _ _).symm)

/-! ### the sum of a tuple -/
def rSumT (K : PySem.W.Frag) : List V → Hp → VK → Prop := fun vs H Q => ∃ (a : Addr) (ns : List Int), vs = [V.ref a] ∧ SqT K H a (ns.map V.int) ∧ Q (.int ns.sum) H
theorem cr_sumT {X : Cx} (hc : X.calm = true) : CallR X (.builtin "sum") (rSumT X.K) := by
  intro pins s σ H vs us Q I rv h
  obtain ⟨a, ns, rfl, hs, q⟩ := h
  obtain ⟨its, r, ht, _⟩ := I.tuple hs
  have eu := rv.ref1
  subst eu
  have hi := Vals.ints r
  obtain ⟨xs, e⟩ := hi.allInts.items
  have hn : numsOf (intItems xs).toList = ns := by rw [← e]; exact hi.numsOf
  rw [nums_intItems] at hn
  obtain ⟨o, ho, hc', n, hd⟩ := ht
  have ht' : s.heap.IsTuple a (intItems xs) := ⟨o, ho, hc', n, by rw [hd, e]⟩
  refine PySem.W.ktm_sumG (I.ok.hd hc) ht' fun h' tk t' hk => ?_
  refine ⟨.int ns.sum, H, I.kept hk, ⟨t', ?_⟩, q⟩
  rw [preSum_eq, List.take_of_length_le (by simp), hn]

def rComb : List V → Hp → VK → Prop := fun vs H Q => ∃ a b : Int, vs = [.int a, .int b] ∧ (0 ≤ a ∧ 0 ≤ b ∧ a ≤ 18000) ∧ Q (.int (PySem.W.mcComb a b)) H
theorem cr_comb {X : Cx} : CallR X (.builtin "math.comb") rComb := by
  intro pins s σ H vs us Q I r h
  obtain ⟨a, b, rfl, hc, q⟩ := h
  obtain ⟨t, u, rfl⟩ := Vals.int2 r
  exact PySem.W.mc_comb hc.1 hc.2.1 (by omega) (.inr hc.2.2) fun _ => ⟨.int _, H, I.tok _, ⟨_, rfl⟩, q⟩
def rFact : List V → Hp → VK → Prop := fun vs H Q => ∃ a : Int, vs = [.int a] ∧ (0 ≤ a ∧ a ≤ 20000) ∧ Q (.int ((Builtin.Math.factorialNat a.toNat : Nat) : Int)) H
theorem cr_fact {X : Cx} : CallR X (.builtin "math.factorial") rFact := by
  intro pins s σ H vs us Q I r h
  obtain ⟨a, rfl, hc, q⟩ := h
  cases r with
  | cons h0 t0 =>
  cases t0
  obtain ⟨t, rfl⟩ := h0
  exact PySem.W.mc_factorial hc.1 hc.2 fun _ => ⟨.int _, H, I.tok _, ⟨_, rfl⟩, q⟩
def rBi (K : PySem.W.Frag) : Bi → List V → Hp → VK → Prop
  | .len => fun vs H Q => (∃ p ys, vs = [.ref p] ∧ (SqL K H p ys ∨ SqT K H p ys) ∧ Q (.int ys.length) H) ∨ ((∃ a kvs, vs = [V.ref a] ∧ H a = some (.dK kvs) ∧ Q (.int kvs.length) H) ∨ ∃ z, vs = [.str z] ∧ z.length ≤ sizeLine ∧ Q (.int z.length) H)
  | .sum => fun vs H Q => rSum K vs H Q ∨ rSumT K vs H Q
  | .int => fun xs H Q => (∃ i, xs = [.int i] ∧ Q (.int i) H) ∨ ∃ k, xs = [.bl k] ∧ Q (.int (if k then 1 else 0)) H
  | .abs => fun xs H Q => ∃ i, xs = [.int i] ∧ Q (.int (if i < 0 then -i else i)) H
  | .max => fun xs H Q => (∃ i j, xs = [.int i, .int j] ∧ Q (.int (if j > i then j else i)) H) ∨ rMax K xs H Q
  | .min => fun xs H Q => (∃ i j, xs = [.int i, .int j] ∧ Q (.int (if j < i then j else i)) H) ∨ rMin K xs H Q
  | .tuple => fun xs H Q => ∃ p ys, xs = [.ref p] ∧ ((SqL K H p ys ∧ ∀ l, H l = none → Q (.ref l) (upd H l (.tup ys))) ∨ (SqT K H p ys ∧ Q (.ref p) H))
  | .list => fun xs H Q => ∃ p ys, xs = [.ref p] ∧ (SqL K H p ys ∨ SqT K H p ys) ∧ ∀ l, H l = none → Q (.ref l) (upd H l (.lst ys))
  | .all => rAll K
  | .any => rAny K
  | .gcd => rGcd
  | .comb => rComb
  | .fact => rFact
  | .sorted => rSortedI K
  | .str => fun xs H Q => ∃ i : Int, xs = [.int i] ∧ i.natAbs.log2 < 1920 ∧ Q (.str (toString i)) H
/-- the built-in's name, what it is -/
def biName : Bi → String
  | .len => "len" | .sum => "sum" | .int => "int" | .abs => "abs" | .max => "max" | .min => "min" | .tuple => "tuple" | .list => "list" | .all => "all" | .any => "any" | .gcd => "gcd" | .sorted => "sorted" | .str => "str" | .comb => "comb" | .fact => "factorial"
def biVal : Bi → Value
  | .len => .builtin "len" | .sum => .builtin "sum" | .int => .type "int" | .abs => .builtin "abs" | .max => .builtin "max" | .min => .builtin "min" | .tuple => .type "tuple" | .list => .type "list" | .all => .builtin "all" | .any => .builtin "any"
  | .gcd => .builtin "math.gcd" | .sorted => .builtin "sorted" | .str => .type "str" | .comb => .builtin "math.comb" | .fact => .builtin "math.factorial"
theorem cr_bi {X : Cx} (hc : X.calm = true) (b : Bi) : CallR X (biVal b) (rBi X.K b) := by
  cases b with
  | len => exact call_len_seq.or (call_lenD.or call_len_str)
  | sum => exact (cr_sum hc).or (cr_sumT hc)
  | int => exact call_int1
  | abs => exact call_abs
  | max => exact (call_max2 hc).or (cr_max hc)
  | min => exact (call_min2 hc).or (cr_min hc)
  | tuple => exact call_tuple_of
  | list => exact call_list_of
  | all => exact cr_all hc
  | any => exact cr_any hc
  | gcd => exact cr_gcd
  | sorted => exact cr_sortedI
  | comb => exact cr_comb
  | fact => exact cr_fact
  | str => exact call_str_int
section
variable {K : PySem.W.Frag} {C : Nat → Addr} {W : WX} {B Bs : Addr → Prop} {σ : L2.St} {H : Hp} {ρ : Env} {Q : VK} {x y : V} {d e : PyData}
theorem bi_ok (b : Bi) {vs : List V} {ds : List PyData} (s : SR K B σ H ρ) (r : RVs K B σ H ρ vs ds) (g : GoodE K C W B σ H ρ (liftR (biD b ds) ρ) Q) : rBi K b vs H Q := by
  obtain ⟨z, hz, g⟩ := g.lift
  cases b with
  | len =>
    match ds, hz with
    | [.list xs], hz =>
      simp only [biD, Option.some.injEq] at hz; subst hz
      obtain ⟨v, rfl, zz⟩ := r.one
      obtain ⟨a, ys, rfl, h, p⟩ := zz.list
      exact .inl ⟨a, ys, rfl, .inl h, by rw [p.length]; exact g.int s⟩
    | [.tuple xs], hz =>
      simp only [biD, Option.some.injEq] at hz; subst hz
      obtain ⟨v, rfl, zz⟩ := r.one
      obtain ⟨a, ys, rfl, h, p⟩ := zz.tuple
      exact .inl ⟨a, ys, rfl, .inr h, by rw [p.length]; exact g.int s⟩
    | [.dict xs], hz =>
      simp only [biD] at hz
      split at hz
      · rename_i hk
        simp only [Option.some.injEq] at hz; subst hz
        obtain ⟨v, rfl, zz⟩ := r.one
        obtain ⟨a, ks, rfl, h, e, p⟩ := zz.dict
        obtain ⟨kvs, hkk, rfl⟩ := h.k e hk
        have l : kvs.length = xs.length := by simpa using congrArg List.length e
        exact .inr (.inl ⟨a, kvs, rfl, hkk, by rw [l]; exact g.int s⟩)
      · cases hz
    | [.str z], hz =>
      simp only [biD] at hz
      split at hz
      · rename_i hk
        simp only [Option.some.injEq] at hz; subst hz
        obtain ⟨v, rfl, zz⟩ := r.one
        exact .inr (.inr ⟨z, by rw [zz.str], len_line hk, g.int s⟩)
      · cases hz
  | sum =>
    match ds, hz with
    | [.list xs], hz =>
      simp only [biD] at hz
      obtain ⟨ns, h1, rfl⟩ := Option.map_eq_some_iff.mp hz
      obtain ⟨v, rfl, zz⟩ := r.one
      obtain ⟨a, ys, rfl, h, p⟩ := zz.list
      obtain ⟨rfl, _⟩ := intsOf_rps h1 p
      exact .inl ⟨a, ns, rfl, h, g.int s⟩
    | [.tuple xs], hz =>
      simp only [biD] at hz
      obtain ⟨ns, h1, rfl⟩ := Option.map_eq_some_iff.mp hz
      obtain ⟨v, rfl, zz⟩ := r.one
      obtain ⟨a, ys, rfl, h, p⟩ := zz.tuple
      obtain ⟨rfl, _⟩ := intsOf_rps h1 p
      exact .inr ⟨a, ns, rfl, h, g.int s⟩
  | int =>
    match ds, hz with
    | [.int i], hz =>
      simp only [biD, Option.some.injEq] at hz; subst hz
      obtain ⟨v, rfl, zz⟩ := r.one
      exact .inl ⟨i, by rw [zz.int], g.int s⟩
    | [.bool k], hz =>
      simp only [biD, Option.some.injEq] at hz; subst hz
      obtain ⟨v, rfl, zz⟩ := r.one
      exact .inr ⟨k, by rw [zz.bool], g.int s⟩
  | abs =>
    match ds, hz with
    | [.int i], hz =>
      simp only [biD, Option.some.injEq] at hz; subst hz
      obtain ⟨v, rfl, zz⟩ := r.one
      exact ⟨i, by rw [zz.int], g.int s⟩
  | max =>
    match ds, hz with
    | [.int i, .int j], hz =>
      simp only [biD, Option.some.injEq] at hz; subst hz
      obtain ⟨v, w, rfl, r1, r2⟩ := r.two
      exact .inl ⟨i, j, by rw [r1.int, r2.int], g.int s⟩
    | [.list xs], hz =>
      simp only [biD] at hz
      split at hz
      · rename_i n ns h1
        simp only [Option.some.injEq] at hz; subst hz
        obtain ⟨v, rfl, zz⟩ := r.one
        obtain ⟨a, ys, rfl, h, p⟩ := zz.list
        obtain ⟨rfl, _⟩ := intsOf_rps h1 p
        exact .inr ⟨a, _, rfl, h, by simp, fun m h1 h2 => by rw [maxI_eq h1 h2]; exact g.int s⟩
      · cases hz
  | min =>
    match ds, hz with
    | [.int i, .int j], hz =>
      simp only [biD, Option.some.injEq] at hz; subst hz
      obtain ⟨v, w, rfl, r1, r2⟩ := r.two
      exact .inl ⟨i, j, by rw [r1.int, r2.int], g.int s⟩
    | [.list xs], hz =>
      simp only [biD] at hz
      split at hz
      · rename_i n ns h1
        simp only [Option.some.injEq] at hz; subst hz
        obtain ⟨v, rfl, zz⟩ := r.one
        obtain ⟨a, ys, rfl, h, p⟩ := zz.list
        obtain ⟨rfl, _⟩ := intsOf_rps h1 p
        exact .inr ⟨a, _, rfl, h, by simp, fun m h1 h2 => by rw [minI_eq h1 h2]; exact g.int s⟩
      · cases hz
  | tuple =>
    match ds, hz with
    | [.list xs], hz =>
      simp only [biD, Option.some.injEq] at hz; subst hz
      obtain ⟨v, rfl, zz⟩ := r.one
      obtain ⟨a, ys, rfl, h, p⟩ := zz.list
      exact ⟨a, ys, rfl, .inl ⟨h, fun l hl => g.newT s p hl⟩⟩
    | [.tuple xs], hz =>
      simp only [biD, Option.some.injEq] at hz; subst hz
      obtain ⟨v, rfl, zz⟩ := r.one
      obtain ⟨a, ys, rfl, h, p⟩ := zz.tuple
      exact ⟨a, ys, rfl, .inr ⟨h, g.give s (.tup h p)⟩⟩
  | list =>
    match ds, hz with
    | [.list xs], hz =>
      simp only [biD, Option.some.injEq] at hz; subst hz
      obtain ⟨v, rfl, zz⟩ := r.one
      obtain ⟨a, ys, rfl, h, p⟩ := zz.list
      exact ⟨a, ys, rfl, .inl h, fun l hl => g.newL s p hl⟩
    | [.tuple xs], hz =>
      simp only [biD, Option.some.injEq] at hz; subst hz
      obtain ⟨v, rfl, zz⟩ := r.one
      obtain ⟨a, ys, rfl, h, p⟩ := zz.tuple
      exact ⟨a, ys, rfl, .inr h, fun l hl => g.newL s p hl⟩
  | all =>
    match ds, hz with
    | [.list xs], hz =>
      simp only [biD] at hz
      obtain ⟨ns, h1, rfl⟩ := Option.map_eq_some_iff.mp hz
      obtain ⟨v, rfl, zz⟩ := r.one
      obtain ⟨a, ys, rfl, h, p⟩ := zz.list
      obtain rfl := boolsOf_rps h1 p
      exact ⟨a, ns, rfl, h, g.bool s⟩
  | any =>
    match ds, hz with
    | [.list xs], hz =>
      simp only [biD] at hz
      obtain ⟨ns, h1, rfl⟩ := Option.map_eq_some_iff.mp hz
      obtain ⟨v, rfl, zz⟩ := r.one
      obtain ⟨a, ys, rfl, h, p⟩ := zz.list
      obtain rfl := boolsOf_rps h1 p
      exact ⟨a, ns, rfl, h, g.bool s⟩
  | gcd =>
    match ds, hz with
    | [.int i, .int j], hz =>
      simp only [biD, Option.some.injEq] at hz; subst hz
      obtain ⟨v, w, rfl, r1, r2⟩ := r.two
      exact ⟨i, j, by rw [r1.int, r2.int], g.int s⟩
  | sorted =>
    match ds, hz with
    | [.list xs], hz =>
      simp only [biD] at hz
      obtain ⟨ns, h1, rfl⟩ := Option.map_eq_some_iff.mp hz
      obtain ⟨v, rfl, zz⟩ := r.one
      obtain ⟨a, ys, rfl, h, p⟩ := zz.list
      obtain ⟨rfl, _⟩ := intsOf_rps h1 p
      refine ⟨a, ns, rfl, h, fun ns' p' hp hs hn => ?_⟩
      have e : ns' = ns.mergeSort (fun a b => decide (a ≤ b)) := sort_one hp hs
      rw [e] at hp
      rw [e]
      exact g.newL s (rps_ints _) hn
  | comb =>
    match ds, hz with
    | [.int i, .int j], hz =>
      simp only [biD] at hz
      split at hz
      · rename_i hc
        simp only [Option.some.injEq] at hz; subst hz
        obtain ⟨v, w, rfl, r1, r2⟩ := r.two
        exact ⟨i, j, by rw [r1.int, r2.int], hc, g.int s⟩
      · cases hz
  | fact =>
    match ds, hz with
    | [.int i], hz =>
      simp only [biD] at hz
      split at hz
      · rename_i hc
        simp only [Option.some.injEq] at hz; subst hz
        obtain ⟨v, rfl, zz⟩ := r.one
        exact ⟨i, by rw [zz.int], hc, g.int s⟩
      · cases hz
  | str =>
    match ds, hz with
    | [.int i], hz =>
      simp only [biD] at hz
      split at hz
      · rename_i hc
        simp only [Option.some.injEq] at hz; subst hz
        obtain ⟨v, rfl, zz⟩ := r.one
        exact ⟨i, by rw [zz.int], hc, g.give s (.str _)⟩
      · cases hz

/-! ### isinstance -/
theorem RV.ty (r : RV K B σ H ρ x d) (ok : isiOk d = true) : TyX K H x (.type (tyName d)) := by
  cases d with
  | none => rw [r.none]; exact .base .non
  | bool b => rw [r.bool]; exact .base (.bl b)
  | int i => rw [r.int]; exact .base (.int i)
  | str z => rw [r.str]; exact .base (.str z)
  | list ds =>
    obtain ⟨a, xs, rfl, h, _⟩ := r.list
    rcases h with (h | ⟨o, h⟩) | ⟨o, its, n, hk, hc, _⟩
    · exact .base (.lst h)
    · exact .base (.frz h)
    · exact .kList hk hc
  | tuple ds =>
    obtain ⟨a, xs, rfl, h, _⟩ := r.tuple
    rcases h with (h | ⟨o, h⟩) | ⟨o, its, n, hk, hc, _⟩
    · exact .base (.tup h)
    · exact .fTuple h
    · exact .kTuple hk hc
  | dict ds =>
    obtain ⟨a, ks, rfl, h, e, _⟩ := r.dict
    obtain ⟨kvs, h, _⟩ := h.k e ok
    exact .base (.dK h)
/-- the classes that isinstance is asked for here -/
def okTys : List String := ["int", "bool", "str", "list", "tuple", "dict"]
theorem kit_ok {t : String} (h : okTys.contains t = true) : PySem.W.kitOne K (.type (tyName d)) (.type t) = some (t == tyName d || (t == "int" && tyName d == "bool")) := by
  have ht : t = "int" ∨ t = "bool" ∨ t = "str" ∨ t = "list" ∨ t = "tuple" ∨ t = "dict" := by
    simpa [okTys] using h
  refine kit_ty ?_
  rcases ht with rfl | rfl | rfl | rfl | rfl | rfl <;> cases d <;> simp only [tyName] <;> decide +kernel
theorem kits_ok : ∀ {ts : List String}, ts.all (okTys.contains ·) = true → PySem.W.kitAny K (.type (tyName d)) (ts.map Value.type) = some (isiD d ts)
  | [], _ => rfl
  | t :: ts, h => by
    rw [List.all_cons, Bool.and_eq_true] at h
    have h1 := kit_ok (K := K) (d := d) h.1
    have h2 := kits_ok (ts := ts) h.2
    rw [List.map_cons]
    refine kitAny_cons h1 (fun e => ?_) fun e => ?_
    · rw [h2]
      unfold isiD
      rw [List.any_cons, e, Bool.false_or]
    · unfold isiD
      rw [List.any_cons, e, Bool.true_or]
end
end PD
set_option maxRecDepth 100000
set_option autoImplicit false
/-! PD6: a def's promise by its code; a call. -/
namespace PD
variable [WW]
open PySem PySem.Spec PyProof.Rows L2

def IoAt (io : List Bool) (vs : List V) (a : Addr) : Prop := ∃ j : Nat, io[j]? = some true ∧ vs[j]? = some (V.ref a)
def Sa (S : Addr → Prop) (io : List Bool) (vs : List V) : Addr → Prop := fun a => S a ∧ ¬ IoAt io vs a
def S1 (S : Addr → Prop) (H : Hp) (io : List Bool) (vs : List V) : Addr → Prop := fun a => (S a ∨ H a = none) ∧ ¬ IoAt io vs a
section
variable (K : PySem.W.Frag) (C : Nat → Addr)
structure ArgsOk (S : Addr → Prop) (H : Hp) (io : List Bool) (vs : List V) (ds : List PyData) : Prop where
  lv : vs.length = io.length
  ld : ds.length = io.length
  pl : ∀ (j : Nat) d, io[j]? = some false → ds[j]? = some d → ∃ v, vs[j]? = some v ∧ Rp K (Sa S io vs) H v d
  mu : ∀ (j : Nat) d, io[j]? = some true → ds[j]? = some d → ∃ a, vs[j]? = some (V.ref a) ∧ ORp K (Sa S io vs) H a d
  ap : ∀ (i j : Nat) a, io[i]? = some true → io[j]? = some true → vs[i]? = some (V.ref a) → vs[j]? = some (V.ref a) → i = j
structure IoRes (S : Addr → Prop) (H' : Hp) (io : List Bool) (vs : List V) (ds : List PyData) : Prop where
  len : ds.length = (ioIx io 0).length
  at_ : ∀ (m j : Nat) d, (ioIx io 0)[m]? = some j → ds[m]? = some d → ∃ a, vs[j]? = some (V.ref a) ∧ ORp K S H' a d
def GoodF (S : Addr → Prop) (H : Hp) (io : List Bool) (vs : List V) (out : FR) (Q : VK) (E : XK) : Prop := match out with
  | .ret false d ds => ∀ v H', Keep (IoAt io vs) H H' → Rp K (S1 S H io vs) H' v d → IoRes K (S1 S H io vs) H' io vs ds → Q v H'
  | .ret true d ds => ∀ p H', Keep (IoAt io vs) H H' → H p = none → ORp K (fun a => S1 S H io vs a ∧ a ≠ p) H' p d → IoRes K (fun a => S1 S H io vs a ∧ a ≠ p) H' io vs ds → Q (.ref p) H'
  | .exc c d ds => ∀ dd v H', Keep (IoAt io vs) H H' → H' dd = some (.xd [(("value" : Str), v)]) → Rp K (S1 S H io vs) H' v d → IoRes K (S1 S H io vs) H' io vs ds → E (.ref (C c)) (some dd) H'
  | .no => False
/-- the promise of the f-th def, n calls deep -/
def spF (T : Prog) (n f : Nat) : Sp := fun vs H Q E => ∃ (S : Addr → Prop) (ds : List PyData), ArgsOk K S H (T.io f) vs ds ∧ GoodF K C S H (T.io f) vs (run T n f ds) Q E
end

/-! ### places of the changed parameters -/
theorem ioIx_shift : ∀ (io : List Bool) (k : Nat), ioIx io k = (ioIx io 0).map (· + k)
  | [], _ => rfl
  | true :: r, k => by
    simp only [ioIx]
    rw [ioIx_shift r (k + 1), ioIx_shift r (0 + 1), List.map_cons, List.map_map]
    simp only [Nat.zero_add]
    congr 1
    apply List.map_congr_left
    intro x _
    show x + (k + 1) = x + 1 + k
    omega
  | false :: r, k => by
    simp only [ioIx]
    rw [ioIx_shift r (k + 1), ioIx_shift r (0 + 1), List.map_map]
    apply List.map_congr_left
    intro x _
    show x + (k + 1) = x + (0 + 1) + k
    omega
theorem ioIx_mem : ∀ {io : List Bool} {j : Nat}, j ∈ ioIx io 0 ↔ io[j]? = some true
  | [], j => by simp [ioIx]
  | true :: r, j => by
    simp only [ioIx]
    rw [ioIx_shift r (0 + 1)]
    cases j with
    | zero => simp
    | succ j =>
      rw [List.mem_cons, List.mem_map]
      simp only [List.getElem?_cons_succ]
      rw [← ioIx_mem (io := r) (j := j)]
      constructor
      · rintro (h | ⟨x, h, e⟩)
        · omega
        · have : x = j := by omega
          subst this; exact h
      · exact fun h => .inr ⟨j, h, by omega⟩
  | false :: r, j => by
    simp only [ioIx]
    rw [ioIx_shift r (0 + 1)]
    cases j with
    | zero => simp
    | succ j =>
      rw [List.mem_map]
      simp only [List.getElem?_cons_succ]
      rw [← ioIx_mem (io := r) (j := j)]
      constructor
      · rintro ⟨x, h, e⟩
        have : x = j := by omega
        subst this; exact h
      · exact fun h => ⟨j, h, by omega⟩
/-- the caller's slots of the changed parameters -/
theorem ioSl_at {ρ : Env} : ∀ {io : List Bool} {rs : List Rv} {sl : List Nat}, ioSl io rs ρ = some sl → sl.length = (ioIx io 0).length ∧ io.length = rs.length ∧ sl.Nodup ∧
    (∀ (m j : Nat), (ioIx io 0)[m]? = some j → ∃ i d, sl[m]? = some i ∧ rs[j]? = some (.sl i) ∧ ρ[i]? = some (some (true, d)))
  | [], [], sl, h => by simp only [ioSl, Option.some.injEq] at h; subst h; exact ⟨rfl, rfl, List.nodup_nil, fun m j e => by simp [ioIx] at e⟩
  | [], _ :: _, sl, h => by simp [ioSl] at h
  | _ :: _, [], sl, h => by simp [ioSl] at h
  | true :: io, r :: rs, sl, h => by
    cases r <;> simp only [ioSl, reduceCtorEq] at h
    rename_i i
    split at h
    · rename_i d sl' e1 e2
      split at h
      · cases h
      · rename_i hni
        simp only [Option.some.injEq] at h
        subst h
        obtain ⟨l1, l2, nd, f⟩ := ioSl_at e2
        have ix : ioIx (true :: io) 0 = 0 :: (ioIx io 0).map (· + 1) := by
          simp only [ioIx]; rw [ioIx_shift io (0 + 1)]
        refine ⟨by rw [ix]; simp [l1], by simp [l2], List.nodup_cons.mpr ⟨hni, nd⟩, fun m j e => ?_⟩
        rw [ix] at e
        cases m with
        | zero => simp only [List.getElem?_cons_zero, Option.some.injEq] at e; subst e; exact ⟨i, d, rfl, rfl, e1⟩
        | succ m =>
          simp only [List.getElem?_cons_succ, List.getElem?_map, Option.map_eq_some_iff] at e
          obtain ⟨j', e, rfl⟩ := e
          obtain ⟨i', d', q1, q2, q3⟩ := f m j' e
          exact ⟨i', d', by simpa using q1, by simpa using q2, q3⟩
    · cases h
  | false :: io, r :: rs, sl, h => by
    simp only [ioSl] at h
    obtain ⟨l1, l2, nd, f⟩ := ioSl_at h
    have ix : ioIx (false :: io) 0 = (ioIx io 0).map (· + 1) := by
      simp only [ioIx]; rw [ioIx_shift io (0 + 1)]
    refine ⟨by rw [ix]; simp [l1], by simp [l2], nd, fun m j e => ?_⟩
    rw [ix] at e
    simp only [List.getElem?_map, Option.map_eq_some_iff] at e
    obtain ⟨j', e, rfl⟩ := e
    obtain ⟨i', d', q1, q2, q3⟩ := f m j' e
    exact ⟨i', d', q1, by simpa using q2, q3⟩
theorem lent_at : ∀ {io : List Bool} {rs : List Rv} {j i : Nat}, io[j]? = some false → rs[j]? = some (.sl i) → i ∈ lent io rs
  | [], _, j, _, h, _ => by simp at h
  | _ :: _, [], j, _, _, h => by simp at h
  | b :: io, r :: rs, 0, i, h1, h2 => by
    simp only [List.getElem?_cons_zero, Option.some.injEq] at h1 h2
    subst h1; subst h2
    simp [lent]
  | b :: io, r :: rs, j + 1, i, h1, h2 => by
    have q := lent_at (io := io) (rs := rs) (j := j) (i := i) (by simpa using h1) (by simpa using h2)
    cases b <;> cases r <;> simp [lent, q]
/-- the environment behind the call -/
theorem setIo_len : ∀ (sl : List Nat) (ds : List PyData) (ρ : Env), (setIo ρ sl ds).length = ρ.length
  | [], _, _ => by simp [setIo]
  | _ :: _, [], _ => by simp [setIo]
  | i :: sl, d :: ds, ρ => by simp only [setIo]; rw [setIo_len sl ds]; simp
theorem setIo_out : ∀ {sl : List Nat} {ds : List PyData} {ρ : Env} {k : Nat}, k ∉ sl → (setIo ρ sl ds)[k]? = ρ[k]?
  | [], _, _, _, _ => by simp [setIo]
  | _ :: _, [], _, _, _ => by simp [setIo]
  | i :: sl, d :: ds, ρ, k, h => by
    simp only [setIo]
    rw [setIo_out (fun z => h (List.mem_cons_of_mem _ z)), List.getElem?_set_ne (fun e => h (by rw [e]; exact List.mem_cons_self))]
theorem setIo_in : ∀ {sl : List Nat} {ds : List PyData} {ρ : Env} {m i : Nat} {d : PyData}, sl.Nodup → (∀ i ∈ sl, i < ρ.length) → sl[m]? = some i → ds[m]? = some d → (setIo ρ sl ds)[i]? = some (some (true, d))
  | [], _, _, m, _, _, _, _, h, _ => by simp at h
  | _ :: _, [], _, m, _, _, _, _, _, h => by simp at h
  | i :: sl, d :: ds, ρ, 0, _, _, nd, hl, h1, h2 => by
    simp only [List.getElem?_cons_zero, Option.some.injEq] at h1 h2
    subst h1; subst h2
    simp only [setIo]
    rw [setIo_out (List.nodup_cons.mp nd).1]
    exact List.getElem?_set_self (hl i List.mem_cons_self)
  | i :: sl, d :: ds, ρ, m + 1, _, _, nd, hl, h1, h2 => by
    simp only [setIo]
    exact setIo_in (m := m) (List.nodup_cons.mp nd).2 (fun k hk => by rw [List.length_set]; exact hl k (List.mem_cons_of_mem _ hk)) (by simpa using h1) (by simpa using h2)
theorem frozens_all : ∀ {ds : List PyData}, ds.all frozenKids = true → ∀ (m : Nat) d, ds[m]? = some d → frozenKids d = true := fun {ds} h m d e => List.all_eq_true.mp h d (List.mem_of_getElem? e)
theorem ORp.froz {K : PySem.W.Frag} {S T : Addr → Prop} {H : Hp} {a : Addr} {d : PyData} (h : ORp K S H a d) (f : frozenKids d = true) : ORp K T H a d := by
  cases h with
  | lst e r => exact .lst e (r.frozen (by simpa only [frozenKids] using f))
  | dic e q r => simp [frozenKids] at f

section
variable {K : PySem.W.Frag} {C : Nat → Addr} {W : WX} {B Bs : Addr → Prop} {σ : L2.St} {H : Hp} {ρ : Env} {Q : VK}
/-- the state behind a call -/
theorem SR.called {S : Addr → Prop} {H' : Hp} {io : List Bool} {vs : List V} {sl : List Nat} {ds : List PyData} {p : Addr → Prop} (s : SR K B σ H ρ) (k : Keep (IoAt io vs) H H')
    (l1 : sl.length = (ioIx io 0).length) (nd : sl.Nodup) (f : ∀ (m j : Nat), (ioIx io 0)[m]? = some j → ∃ i d a, sl[m]? = some i ∧ ρ[i]? = some (some (true, d)) ∧ vs[j]? = some (V.ref a) ∧ σ[i]? = some (some (V.ref a)))
    (r : IoRes K S H' io vs ds) (hS : ∀ a, S a → Free B σ ρ a ∨ H a = none) (hp : ∀ a, p a → H a = none ∧ ∃ o, H' a = some o) (hn : ∀ a, S a → ¬ p a) :
    SR K (fun a => B a ∨ p a) σ H' (setIo ρ sl ds) ∧ OSub σ (setIo ρ sl ds) ρ ∧ Ext ρ (setIo ρ sl ds) ∧ Keep (OwnAt σ ρ) H H' := by
  have ioOwn : ∀ a, IoAt io vs a → OwnAt σ ρ a := fun a ⟨j, e1, e2⟩ => by
    obtain ⟨m, hm⟩ := List.getElem?_of_mem (ioIx_mem.mpr e1)
    obtain ⟨i, d, a', _, q2, q3, q4⟩ := f m j hm
    rw [e2] at q3; cases q3
    exact ⟨i, d, q2, q4⟩
  have kk : Keep (OwnAt σ ρ) H H' := k.mono ioOwn
  have hlt : ∀ i ∈ sl, i < ρ.length := fun i hi => by
    obtain ⟨m, hm⟩ := List.getElem?_of_mem hi
    have hml : m < (ioIx io 0).length := by rw [← l1]; exact (List.getElem?_eq_some_iff.mp hm).1
    obtain ⟨i', d, a', q1, q2, _⟩ := f m _ (List.getElem?_eq_getElem hml)
    rw [hm] at q1; cases q1
    exact (List.getElem?_eq_some_iff.mp q2).1
  -- the slots: io ones own as before, the others untouched
  have slots : ∀ (i : Nat) m d', (setIo ρ sl ds)[i]? = some (some (m, d')) → (i ∉ sl ∧ ρ[i]? = some (some (m, d'))) ∨ (m = true ∧ ∃ d0 a, ρ[i]? = some (some (true, d0)) ∧ σ[i]? = some (some (V.ref a)) ∧ IoAt io vs a ∧ ORp K S H' a d') := by
    intro i m d' e
    by_cases hi : i ∈ sl
    · obtain ⟨n, hm⟩ := List.getElem?_of_mem hi
      have hml : n < (ioIx io 0).length := by rw [← l1]; exact (List.getElem?_eq_some_iff.mp hm).1
      obtain ⟨i', d, a, q1, q2, q3, q4⟩ := f n _ (List.getElem?_eq_getElem hml)
      rw [hm] at q1; cases q1
      have hdl : n < ds.length := by rw [r.len]; exact hml
      have q5 := setIo_in nd hlt hm (List.getElem?_eq_getElem hdl)
      rw [q5] at e
      simp only [Option.some.injEq, Prod.mk.injEq] at e
      obtain ⟨rfl, rfl⟩ := e
      obtain ⟨a', q6, q7⟩ := r.at_ n _ _ (List.getElem?_eq_getElem hml) (List.getElem?_eq_getElem hdl)
      rw [q3] at q6; cases q6
      exact .inr ⟨rfl, d, a, q2, q4, ⟨_, ioIx_mem.mp (List.mem_of_getElem? (List.getElem?_eq_getElem hml)), q3⟩, q7⟩
    · rw [setIo_out hi] at e
      exact .inl ⟨hi, e⟩
  have osub : OSub σ (setIo ρ sl ds) ρ := fun a ⟨i, d, e, q⟩ => by
    rcases slots i true d e with ⟨_, e⟩ | ⟨_, d0, a', e, _⟩
    · exact ⟨i, d, e, q⟩
    · exact ⟨i, d0, e, q⟩
  have ext : Ext ρ (setIo ρ sl ds) := fun i m d e => by
    by_cases hi : i ∈ sl
    · obtain ⟨n, hm⟩ := List.getElem?_of_mem hi
      have hdl : n < ds.length := by rw [r.len, ← l1]; exact (List.getElem?_eq_some_iff.mp hm).1
      exact ⟨true, _, setIo_in nd hlt hm (List.getElem?_eq_getElem hdl)⟩
    · exact ⟨m, d, by rw [setIo_out hi]; exact e⟩
  have toF : ∀ a, Free B σ ρ a → (∃ o, H a = some o) → Free (fun a => B a ∨ p a) σ (setIo ρ sl ds) a ∧ ¬ IoAt io vs a := fun a g ⟨o, q⟩ =>
    ⟨⟨fun z => z.elim g.1 fun z => (by rw [(hp a z).1] at q; cases q), fun z => g.2 (osub a z)⟩, fun z => g.2 (ioOwn a z)⟩
  have sToF : ∀ a, S a → Free (fun a => B a ∨ p a) σ (setIo ρ sl ds) a := fun a g => by
    rcases hS a g with q | q
    · exact ⟨fun z => z.elim q.1 (hn a g), fun z => q.2 (osub a z)⟩
    · refine ⟨fun z => z.elim (fun b => ?_) (hn a g), fun z => ?_⟩
      · obtain ⟨o, e⟩ := s.bt a b; rw [q] at e; cases e
      · obtain ⟨o, e, _⟩ := s.ownTracked (osub a z); rw [q] at e; cases e
  refine ⟨⟨by rw [setIo_len]; exact s.len, fun a z => ?_, fun i d e => ?_, fun i d e => ?_, fun i j a c d e1 e2 => ?_⟩, osub, ext, kk⟩
  · rcases z with z | z
    · obtain ⟨o, e⟩ := s.bt a z; exact kk.t a o e
    · exact (hp a z).2
  · rcases slots i false d e with ⟨_, e⟩ | ⟨z, _⟩
    · obtain ⟨v, q, r⟩ := s.plain i d e
      exact ⟨v, q, r.to k toF⟩
    · cases z
  · rcases slots i true d e with ⟨hi, e⟩ | ⟨_, d0, a, e, q, io', r'⟩
    · obtain ⟨a, q, nb, r⟩ := s.own i d e
      obtain ⟨o, q2, _⟩ := r.there
      have ni : ¬ IoAt io vs a := fun ⟨j, z1, z2⟩ => by
        obtain ⟨m, hm⟩ := List.getElem?_of_mem (ioIx_mem.mpr z1)
        obtain ⟨i', d', a', y1, y2, y3, y4⟩ := f m j hm
        rw [z2] at y3; cases y3
        have := s.inj i i' a _ _ e y2 q y4
        subst this
        exact hi (List.mem_of_getElem? y1)
      exact ⟨a, q, fun z => z.elim nb fun z => (by rw [(hp a z).1] at q2; cases q2), r.to k toF ni⟩
    · obtain ⟨a2, q', nb, r⟩ := s.own i d0 e
      rw [q] at q'; cases q'
      obtain ⟨o, q2, _⟩ := r.there
      exact ⟨a, q, fun z => z.elim nb fun z => (by rw [(hp a z).1] at q2; cases q2), r'.mono sToF⟩
  · rcases slots i true c e1 with ⟨_, e1⟩ | ⟨_, d0, _, e1, _⟩ <;> rcases slots j true d e2 with ⟨_, e2⟩ | ⟨_, d1, _, e2, _⟩ <;> exact s.inj i j a _ _ e1 e2
end
end PD
set_option maxRecDepth 100000
set_option autoImplicit false
/-! PD7: a call by its promise. -/
namespace PD
variable [WW]
open PySem PySem.Spec PyProof.Rows L2
section
variable {K : PySem.W.Frag} {C : Nat → Addr} {W : WX} {B Bs : Addr → Prop} {σ : L2.St} {H : Hp} {ρ : Env} {Q : VK}
/-- operands in some order -/
def OpsOk (K : PySem.W.Frag) (B : Addr → Prop) (σ : L2.St) (H : Hp) (ρ : Env) (vs : List V) (rs : List Rv) : Prop :=
  vs.length = rs.length ∧ ∀ (k : Nat) v r, vs[k]? = some v → rs[k]? = some r → Opd K B σ H ρ v r
theorem call_ok {T : Prog} {n f : Nat} {vs : List V} {rs : List Rv} {ds : List PyData} {sl : List Nat} (s : SR K B σ H ρ) (ops : OpsOk K B σ H ρ vs rs) (hd : dats ρ rs = some ds) (hs : ioSl (T.io f) rs ρ = some sl)
    (hl : (lent (T.io f) rs).all (fun i => !sl.contains i) = true)
    (g : GoodE K C W B σ H ρ (match run T n f ds with
      | .ret o d ds' => if sl.length = ds'.length ∧ (lent (T.io f) rs ≠ [] → (if o then frozenKids d else frozen d) = true ∧ ds'.all frozenKids = true) then .ok (if o then .own d else .val d) (setIo ρ sl ds') else .no
      | .exc c d ds' => if sl.length = ds'.length ∧ (lent (T.io f) rs ≠ [] → frozen d = true ∧ ds'.all frozenKids = true) then .exc c d (setIo ρ sl ds') else .no
      | .no => .no) Q) : spF K C T n f vs H Q (WE W σ) := by
  obtain ⟨l1, l2, nd, at_⟩ := ioSl_at hs
  obtain ⟨ld, da⟩ := dats_at hd
  obtain ⟨lv, op⟩ := ops
  -- the slots that are lent
  let S : Addr → Prop := fun a => Free B σ ρ a ∨ ∃ i, i ∈ lent (T.io f) rs ∧ σ[i]? = some (some (V.ref a)) ∧ OwnAt σ ρ a
  have ioR : ∀ (m j : Nat), (ioIx (T.io f) 0)[m]? = some j → ∃ i d a, sl[m]? = some i ∧ ρ[i]? = some (some (true, d)) ∧ vs[j]? = some (V.ref a) ∧ σ[i]? = some (some (V.ref a)) := by
    intro m j e
    obtain ⟨i, d, q1, q2, q3⟩ := at_ m j e
    have hj : j < vs.length := by rw [lv]; exact (List.getElem?_eq_some_iff.mp q2).1
    obtain ⟨q4, _⟩ := op j _ _ (List.getElem?_eq_getElem hj) q2
    obtain ⟨a, q5, _⟩ := s.own i d q3
    rw [q4] at q5
    simp only [Option.some.injEq] at q5
    exact ⟨i, d, a, q1, q3, by rw [List.getElem?_eq_getElem hj, q5], by rw [q4, q5]⟩
  have ioSlot : ∀ a, IoAt (T.io f) vs a → ∃ i d, i ∈ sl ∧ ρ[i]? = some (some (true, d)) ∧ σ[i]? = some (some (V.ref a)) := fun a ⟨j, e1, e2⟩ => by
    obtain ⟨m, hm⟩ := List.getElem?_of_mem (ioIx_mem.mpr e1)
    obtain ⟨i, d, a', q1, q2, q3, q4⟩ := ioR m j hm
    rw [e2] at q3; cases q3
    exact ⟨i, d, List.mem_of_getElem? q1, q2, q4⟩
  have freeSa : ∀ a, Free B σ ρ a → Sa S (T.io f) vs a := fun a g => ⟨.inl g, fun z => by
    obtain ⟨i, d, _, q1, q2⟩ := ioSlot a z
    exact g.2 ⟨i, d, q1, q2⟩⟩
  have A : ArgsOk K S H (T.io f) vs ds := by
    refine ⟨lv.trans l2.symm, ld.symm.trans l2.symm, fun j d e1 e2 => ?_, fun j d e1 e2 => ?_, fun i j a e1 e2 e3 e4 => ?_⟩
    · obtain ⟨r, q1, q2⟩ := da j d e2
      have hj : j < vs.length := by rw [lv]; exact (List.getElem?_eq_some_iff.mp q1).1
      refine ⟨_, List.getElem?_eq_getElem hj, ?_⟩
      have o := op j _ _ (List.getElem?_eq_getElem hj) q1
      cases r with
      | val c => cases q2; exact Rp.mono o freeSa
      | own c => cases q2; exact Rp.mono o freeSa
      | sl i =>
        rcases o.rv s q2 with z | ⟨a, ea, z⟩
        · exact z.mono freeSa
        · -- lent
          obtain ⟨q4, m, d', q5⟩ := o
          have ed : d' = d := by simp only [dat, slotD, q5] at q2; exact Option.some.inj q2
          subst ed
          cases m with
          | false =>
            obtain ⟨w, q6, r⟩ := s.plain i d' q5
            rw [q4] at q6; cases q6
            exact r.mono freeSa
          | true =>
            obtain ⟨a', q6, _, r⟩ := s.own i d' q5
            rw [q4] at q6
            simp only [Option.some.injEq] at q6
            rw [q6]
            have hin := lent_at e1 q1
            refine (r.mono freeSa).rp ⟨.inr ⟨i, hin, by rw [q4, q6], ⟨i, d', q5, by rw [q4, q6]⟩⟩, fun z => ?_⟩
            obtain ⟨i', d2, y1, y2, y3⟩ := ioSlot a' z
            have := s.inj i i' a' _ _ q5 y2 (by rw [q4, q6]) y3
            subst this
            have := List.all_eq_true.mp hl i hin
            simp [y1] at this
    · obtain ⟨m, hm⟩ := List.getElem?_of_mem (ioIx_mem.mpr e1)
      obtain ⟨i, d', a, q1, q2, q3, q4⟩ := ioR m j hm
      obtain ⟨i', d2, y1, y2, y3⟩ := at_ m j hm
      rw [q1] at y1; cases y1
      obtain ⟨r, q5, q6⟩ := da j d e2
      rw [y2] at q5; cases q5
      simp only [dat, slotD, q2, Option.some.injEq] at q6
      subst q6
      obtain ⟨a', q7, _, r⟩ := s.own i d' q2
      rw [q4] at q7; cases q7
      exact ⟨a, q3, r.mono freeSa⟩
    · obtain ⟨m, hm⟩ := List.getElem?_of_mem (ioIx_mem.mpr e1)
      obtain ⟨m', hm'⟩ := List.getElem?_of_mem (ioIx_mem.mpr e2)
      obtain ⟨x, d, a1, q1, q2, q3, q4⟩ := ioR m i hm
      obtain ⟨y, d', a2, y1, y2, y3, y4⟩ := ioR m' j hm'
      rw [e3] at q3; cases q3
      rw [e4] at y3; cases y3
      have hxy := s.inj x y a _ _ q2 y2 q4 y4
      subst hxy
      obtain ⟨hm1, hm2⟩ := List.getElem?_eq_some_iff.mp q1
      obtain ⟨hn1, hn2⟩ := List.getElem?_eq_some_iff.mp y1
      have hmm : m = m' := (List.getElem_inj nd).mp (hm2.trans hn2.symm)
      subst hmm
      rw [hm] at hm'; cases hm'
      rfl
  refine ⟨S, ds, A, ?_⟩
  -- what the callee hands back, as the caller has it
  have s1 : ∀ {a : Addr}, lent (T.io f) rs = [] → S1 S H (T.io f) vs a → Free B σ ρ a ∨ H a = none := fun {a} e z => by
    rcases z.1 with (z | ⟨i, hi, _⟩) | z
    · exact .inl z
    · rw [e] at hi; cases hi
    · exact .inr z
  cases er : run T n f ds with
  | no => rw [er] at g; exact g
  | ret o d ds' =>
    rw [er] at g
    by_cases hc : sl.length = ds'.length ∧ (lent (T.io f) rs ≠ [] → (if o = true then frozenKids d else frozen d) = true ∧ ds'.all frozenKids = true)
    · have g := (congrArg (fun z => GoodE K C W B σ H ρ z Q) (if_pos hc)).mp g
      obtain ⟨hc1, hc2⟩ := hc
      cases o with
      | false =>
        intro v H' k r io
        -- the result, the changed lists: free, or frozen
        by_cases hle : lent (T.io f) rs = []
        · obtain ⟨s', os, ex, kk⟩ := s.called (p := fun _ => False) k l1 nd (fun m j e => ioR m j e) io (fun a z => s1 hle z) (fun _ z => z.elim) (fun _ _ z => z)
          have s2 : SR K B σ H' (setIo ρ sl ds') := s'.weak fun _ => .inl
          refine g v H' kk os ex trivial ⟨s2, r.mono fun a z => ?_⟩
          rcases s1 hle z with q | q
          · exact ⟨q.1, fun z => q.2 (os a z)⟩
          · refine ⟨fun b => ?_, fun z => ?_⟩
            · obtain ⟨o, e⟩ := s.bt a b; rw [q] at e; cases e
            · obtain ⟨o, e, _⟩ := s.ownTracked (os a z); rw [q] at e; cases e
        · obtain ⟨f1, f2⟩ := hc2 hle
          have io' : IoRes K (fun _ => False) H' (T.io f) vs ds' := ⟨io.len, fun m j d e1 e2 => let ⟨a, q1, q2⟩ := io.at_ m j d e1 e2; ⟨a, q1, q2.froz (frozens_all f2 m d e2)⟩⟩
          obtain ⟨s', os, ex, kk⟩ := s.called (p := fun _ => False) k l1 nd (fun m j e => ioR m j e) io' (fun a z => z.elim) (fun _ z => z.elim) (fun _ _ z => z)
          exact g v H' kk os ex trivial ⟨s'.weak fun _ => .inl, r.frozen f1⟩
      | true =>
        intro p H' k hp r io
        have nb : ¬ B p := fun b => by obtain ⟨o, q⟩ := s.bt p b; rw [hp] at q; cases q
        have tp : ∃ o, H' p = some o := let ⟨o, e, _⟩ := r.there; ⟨o, e⟩
        by_cases hle : lent (T.io f) rs = []
        · obtain ⟨s', os, ex, kk⟩ := s.called (p := fun a => a = p) k l1 nd (fun m j e => ioR m j e) io (fun a z => s1 hle z.1) (fun a z => by subst z; exact ⟨hp, tp⟩) (fun _ z => z.2)
          refine g (.ref p) H' kk os ex (fun a e => by cases e; exact hp) ⟨p, rfl, nb, s', r.mono fun a z => ?_⟩
          rcases s1 hle z.1 with q | q
          · exact ⟨fun y => y.elim q.1 z.2, fun z => q.2 (os a z)⟩
          · refine ⟨fun y => y.elim (fun b => ?_) z.2, fun z => ?_⟩
            · obtain ⟨o, e⟩ := s.bt a b; rw [q] at e; cases e
            · obtain ⟨o, e, _⟩ := s.ownTracked (os a z); rw [q] at e; cases e
        · obtain ⟨f1, f2⟩ := hc2 hle
          have io' : IoRes K (fun _ => False) H' (T.io f) vs ds' := ⟨io.len, fun m j d e1 e2 => let ⟨a, q1, q2⟩ := io.at_ m j d e1 e2; ⟨a, q1, q2.froz (frozens_all f2 m d e2)⟩⟩
          obtain ⟨s', os, ex, kk⟩ := s.called (p := fun a => a = p) k l1 nd (fun m j e => ioR m j e) io' (fun a z => z.elim) (fun a z => by subst z; exact ⟨hp, tp⟩) (fun _ z => z.elim)
          exact g (.ref p) H' kk os ex (fun a e => by cases e; exact hp) ⟨p, rfl, nb, s', r.froz f1⟩
    · exact ((congrArg (fun z => GoodE K C W B σ H ρ z Q) (if_neg hc)).mp g).elim
  | exc c d ds' =>
    rw [er] at g
    by_cases hc : sl.length = ds'.length ∧ (lent (T.io f) rs ≠ [] → frozen d = true ∧ ds'.all frozenKids = true)
    · have g := (congrArg (fun z => GoodE K C W B σ H ρ z Q) (if_pos hc)).mp g
      obtain ⟨hc1, hc2⟩ := hc
      intro dd v H' k e r io
      by_cases hle : lent (T.io f) rs = []
      · obtain ⟨s', os, ex, kk⟩ := s.called (p := fun _ => False) k l1 nd (fun m j e => ioR m j e) io (fun a z => s1 hle z) (fun _ z => z.elim) (fun _ _ z => z)
        refine g dd H' kk os (s'.weak fun _ => .inl) ⟨v, e, r.mono fun a z => ?_⟩
        rcases s1 hle z with q | q
        · exact ⟨q.1, fun z => q.2 (os a z)⟩
        · refine ⟨fun b => ?_, fun z => ?_⟩
          · obtain ⟨o, e⟩ := s.bt a b; rw [q] at e; cases e
          · obtain ⟨o, e, _⟩ := s.ownTracked (os a z); rw [q] at e; cases e
      · obtain ⟨f1, f2⟩ := hc2 hle
        have io' : IoRes K (fun _ => False) H' (T.io f) vs ds' := ⟨io.len, fun m j d e1 e2 => let ⟨a, q1, q2⟩ := io.at_ m j d e1 e2; ⟨a, q1, q2.froz (frozens_all f2 m d e2)⟩⟩
        obtain ⟨s', os, ex, kk⟩ := s.called (p := fun _ => False) k l1 nd (fun m j e => ioR m j e) io' (fun a z => z.elim) (fun _ z => z.elim) (fun _ _ z => z)
        exact g dd H' kk os (s'.weak fun _ => .inl) ⟨v, e, r.frozen f1⟩
    · exact ((congrArg (fun z => GoodE K C W B σ H ρ z Q) (if_neg hc)).mp g).elim
end
end PD
set_option maxRecDepth 100000
set_option autoImplicit false
/-! PD8: readings of expressions by code. -/
namespace PD
variable [WW]
open PySem PySem.Spec PyProof.Rows L2
section
variable {K : PySem.W.Frag} {C : Nat → Addr} {W : WX} {B Bs : Addr → Prop} {σ : L2.St} {H H' : Hp} {ρ ρ' : Env} {Q : VK} {v : V} {d : PyData}

/-! ### a value is stored away -/
theorem SR.demote {i : Nat} {m : Bool} (s : SR K B σ H ρ) (e : ρ[i]? = some (some (m, d))) : SR K B σ H (ρ.set i (some (false, d))) ∧ OSub σ (ρ.set i (some (false, d))) ρ ∧ Ext ρ (ρ.set i (some (false, d))) ∧
    (∀ v, σ[i]? = some (some v) → Rp K (Free B σ (ρ.set i (some (false, d)))) H v d) := by
  have hi : i < ρ.length := (List.getElem?_eq_some_iff.mp e).1
  have os : OSub σ (ρ.set i (some (false, d))) ρ := fun a ⟨j, c, e1, e2⟩ => by
    by_cases h : i = j
    · subst h; rw [List.getElem?_set_self hi] at e1; cases e1
    · rw [List.getElem?_set_ne h] at e1; exact ⟨j, c, e1, e2⟩
  have fr : ∀ a, Free B σ ρ a → Free B σ (ρ.set i (some (false, d))) a := fun a f => ⟨f.1, fun z => f.2 (os a z)⟩
  have key : ∀ v, σ[i]? = some (some v) → Rp K (Free B σ (ρ.set i (some (false, d)))) H v d := by
    intro v q
    cases m with
    | false =>
      obtain ⟨w, q', r⟩ := s.plain i d e
      rw [q] at q'; cases q'
      exact r.mono fr
    | true =>
      obtain ⟨a, q', nb, r⟩ := s.own i d e
      rw [q] at q'
      simp only [Option.some.injEq] at q'
      subst q'
      refine (r.mono fr).rp ⟨nb, fun ⟨j, c, e1, e2⟩ => ?_⟩
      by_cases h : i = j
      · subst h; rw [List.getElem?_set_self hi] at e1; cases e1
      · rw [List.getElem?_set_ne h] at e1
        exact h (s.inj i j a _ _ e e1 q e2)
  refine ⟨⟨by rw [List.length_set]; exact s.len, s.bt, fun j c e1 => ?_, fun j c e1 => ?_, fun j k a c c' e1 e2 => ?_⟩, os, fun j m' c e1 => ?_, key⟩
  · by_cases h : i = j
    · subst h
      rw [List.getElem?_set_self hi] at e1
      simp only [Option.some.injEq, Prod.mk.injEq, true_and] at e1
      subst e1
      cases m with
      | false => obtain ⟨w, q', r⟩ := s.plain i d e; exact ⟨w, q', key w q'⟩
      | true => obtain ⟨a, q', _⟩ := s.own i d e; exact ⟨_, q', key _ q'⟩
    · rw [List.getElem?_set_ne h] at e1
      obtain ⟨w, q, r⟩ := s.plain j c e1
      exact ⟨w, q, r.mono fr⟩
  · by_cases h : i = j
    · subst h; rw [List.getElem?_set_self hi] at e1; cases e1
    · rw [List.getElem?_set_ne h] at e1
      obtain ⟨a, q, nb, r⟩ := s.own j c e1
      exact ⟨a, q, nb, r.mono fr⟩
  · by_cases h : i = j
    · subst h; rw [List.getElem?_set_self hi] at e1; cases e1
    · by_cases h' : i = k
      · subst h'; rw [List.getElem?_set_self hi] at e2; cases e2
      · rw [List.getElem?_set_ne h] at e1
        rw [List.getElem?_set_ne h'] at e2
        exact s.inj j k a _ _ e1 e2
  · by_cases h : i = j
    · subst h; exact ⟨false, d, List.getElem?_set_self hi⟩
    · exact ⟨m', c, by rw [List.getElem?_set_ne h]; exact e1⟩
theorem keepV_ok {lk : List Nat} {r : Rv} (s : SR K B σ H ρ) (o : Opd K B σ H ρ v r) (h : keepV lk r ρ = .ok d ρ') : SR K B σ H ρ' ∧ Rp K (Free B σ ρ') H v d ∧ OSub σ ρ' ρ ∧ Ext ρ ρ' := by
  cases r with
  | val c => simp only [keepV, Rs.ok.injEq] at h; obtain ⟨rfl, rfl⟩ := h; exact ⟨s, o, OSub.refl _ _, Ext.refl _⟩
  | own c => simp only [keepV, Rs.ok.injEq] at h; obtain ⟨rfl, rfl⟩ := h; exact ⟨s, o, OSub.refl _ _, Ext.refl _⟩
  | sl i =>
    simp only [keepV] at h
    split at h
    · cases h
    · split at h
      · rename_i m c e
        simp only [Rs.ok.injEq] at h
        obtain ⟨rfl, rfl⟩ := h
        obtain ⟨s', os, ex, key⟩ := s.demote e
        exact ⟨s', key v o.1, os, ex⟩
      · cases h
theorem keepV_cases (lk : List Nat) (r : Rv) (ρ : Env) : (∃ d ρ', keepV lk r ρ = .ok d ρ') ∨ keepV lk r ρ = .no := by
  cases r with
  | val c => exact .inl ⟨c, ρ, rfl⟩
  | own c => exact .inl ⟨c, ρ, rfl⟩
  | sl i =>
    simp only [keepV]
    split
    · exact .inr rfl
    · split
      · exact .inl ⟨_, _, rfl⟩
      · exact .inr rfl
theorem keepVs_ok {lk : List Nat} : ∀ {rs : List Rv} {vs : List V} {ds : List PyData} {ρ ρ' : Env}, SR K B σ H ρ → OpsOk K B σ H ρ vs rs → keepVs lk rs ρ = .ok ds ρ' → SR K B σ H ρ' ∧ Rps K (Free B σ ρ') H vs ds ∧ OSub σ ρ' ρ ∧ Ext ρ ρ'
  | [], vs, ds, ρ, ρ', s, o, h => by
    simp only [keepVs, Rs.ok.injEq] at h
    obtain ⟨rfl, rfl⟩ := h
    have : vs = [] := List.length_eq_zero_iff.mp o.1
    subst this
    exact ⟨s, .nil, OSub.refl _ _, Ext.refl _⟩
  | r :: rs, vs, ds, ρ, ρ', s, o, h => by
    obtain ⟨ol, oa⟩ := o
    match vs, ol with
    | v :: vs, ol =>
      simp only [keepVs] at h
      rcases keepV_cases lk r ρ with ⟨d, ρ1, e⟩ | e
      · rw [e, Rs.bind_ok] at h
        obtain ⟨s1, r1, os1, ex1⟩ := keepV_ok s (oa 0 v r rfl rfl) e
        cases e2 : keepVs lk rs ρ1 with
        | no => rw [e2] at h; cases h
        | exc => rw [e2] at h; cases h
        | ok ds' ρ2 =>
          rw [e2, Rs.bind_ok] at h
          simp only [Rs.ok.injEq] at h
          obtain ⟨rfl, rfl⟩ := h
          obtain ⟨s2, r2, os2, ex2⟩ := keepVs_ok s1 ⟨by simpa using ol, fun k w r' q1 q2 => (oa (k + 1) w r' (by simpa using q1) (by simpa using q2)).stay (Keep.refl _ _) os1 ex1⟩ e2
          exact ⟨s2, .cons (r1.mono fun a f => ⟨f.1, fun z => f.2 (os2 a z)⟩) r2, os1.trans os2, ex1.trans ex2⟩
      · rw [e, Rs.bind_no] at h; cases h
theorem keepVs_cases (lk : List Nat) : ∀ (rs : List Rv) (ρ : Env), (∃ ds ρ', keepVs lk rs ρ = .ok ds ρ') ∨ keepVs lk rs ρ = .no
  | [], ρ => .inl ⟨[], ρ, rfl⟩
  | r :: rs, ρ => by
    simp only [keepVs]
    rcases keepV_cases lk r ρ with ⟨d, ρ1, e⟩ | e
    · rw [e, Rs.bind_ok]
      rcases keepVs_cases lk rs ρ1 with ⟨ds, ρ2, e2⟩ | e2
      · rw [e2]; exact .inl ⟨_, _, rfl⟩
      · rw [e2]; exact .inr rfl
    · rw [e]; exact .inr rfl
theorem ResL.ops {vs : List V} {rs : List Rv} (L : ResL K B Bs σ H ρ vs rs) : OpsOk K B σ H ρ vs rs := ⟨L.len, fun _ _ _ e1 e2 => L.opd e1 e2⟩

/-! ### the small ones -/
theorem ed_lit {v : V} (h : ∀ S H, Rp K S H v d) : ED K C W (tC v) fun ρ => .ok (.val d) ρ := fun B σ H ρ Q s g => g.give s (h _ _)
theorem ed_var (i : Nat) : ED K C W (tVar i) fun ρ => match ρ[i]? with
    | some (some (false, d)) => .ok (.val d) ρ
    | some (some (true, _)) => .ok (.sl i) ρ
    | _ => .no := by
  intro B σ H ρ Q s g
  dsimp only at g
  split at g
  · rename_i d e
    obtain ⟨v, q, r⟩ := s.plain i d e
    exact ⟨v, q, g.give s r⟩
  · rename_i d e
    obtain ⟨a, q, nb, r⟩ := s.own i d e
    exact ⟨.ref a, q, g _ H (Keep.refl _ _) (OSub.refl _ _) (Ext.refl _) trivial ⟨s, q, true, d, e⟩⟩
  · exact g.elim
theorem ed_neg {t : TE} {f : Env → Rs Rv} (h : ED K C W t f) : ED K C W (tUn (rU fun i => .int (-i)) t) fun ρ => (f ρ).bind fun x ρ1 => match dat ρ1 x with
    | some (.int i) => .ok (.val (.int (-i))) ρ1
    | _ => .no := by
  intro B σ H ρ Q s hg
  refine h.bindE s hg fun x ρ1 v H1 k1 o1 x1 f1 r1 g1 => ?_
  split at g1
  · rename_i i e
    exact ⟨i, (r1.op.rv r1.sr e).int, g1.int r1.sr⟩
  · exact g1.elim
theorem ed_isN {t : TE} {f : Env → Rs Rv} (h : ED K C W t f) (o : CO) (ho : o = .isN ∨ o = .notN) : ED K C W (tOp (rOfC K o) t (tC .non)) fun ρ => (f ρ).bind fun x ρ1 => (Rs.ok (Rv.val PyData.none) ρ1 : Rs Rv).bind fun y ρ2 => match dat ρ2 x, dat ρ2 y with
    | some d, some e => liftR ((cmpD o d e).map fun c => .val (.bool c)) ρ2
    | _, _ => .no := by
  intro B σ H ρ Q s hg
  refine h.bindE s hg fun x ρ1 v H1 k1 o1 x1 f1 r1 g1 => ?_
  simp only [Rs.bind_ok, dat_val] at g1
  cases e1 : dat ρ1 x with
  | none => rw [e1] at g1; exact g1.elim
  | some d =>
    rw [e1] at g1
    obtain ⟨r, hr, g⟩ := g1.lift
    obtain ⟨c, hc, rfl⟩ := Option.map_eq_some_iff.mp hr
    exact cmp_ok o r1.sr (r1.op.rv r1.sr e1) (.inl .non) (fun _ => rfl) hc (g.bool r1.sr)
theorem ed_cmp {ta tb : TE} {fa fb : Env → Rs Rv} (ha : ED K C W ta fa) (hb : ED K C W tb fb) (o : CO) (ho : ¬ (o = .isN ∨ o = .notN)) : ED K C W (tOp (rOfC K o) ta tb) fun ρ => (fa ρ).bind fun x ρ1 => (fb ρ1).bind fun y ρ2 => match dat ρ2 x, dat ρ2 y with
    | some d, some e => liftR ((cmpD o d e).map fun c => .val (.bool c)) ρ2
    | _, _ => .no :=
  ed_op2 (g := fun d e => (cmpD o d e).map fun c => .val (.bool c)) ha hb fun s r1 r2 g => by
    obtain ⟨r, hr, g⟩ := g.lift
    obtain ⟨c, hc, rfl⟩ := Option.map_eq_some_iff.mp hr
    exact cmp_ok o s r1 r2 (fun z => absurd z ho) hc (g.bool s)
theorem ed_bin {ta tb : TE} {fa fb : Env → Rs Rv} (ha : ED K C W ta fa) (hb : ED K C W tb fb) (o : BO) : ED K C W (tOp (rOfB K o) ta tb) fun ρ => (fa ρ).bind fun x ρ1 => (fb ρ1).bind fun y ρ2 => match dat ρ2 x, dat ρ2 y with
    | some d, some e => liftR (binD o d e) ρ2
    | _, _ => .no :=
  ed_op2 ha hb fun s r1 r2 g => bin_ok o s r1 r2 g
theorem ed_idx {ta tb : TE} {fa fb : Env → Rs Rv} (ha : ED K C W ta fa) (hb : ED K C W tb fb) : ED K C W (tOp (fun x y H Q => ((rIxL K x y H Q ∨ rIxT K x y H Q) ∨ rDIx x y H Q) ∨ rNIx K x y H Q) ta tb) fun ρ => (fa ρ).bind fun x ρ1 => (fb ρ1).bind fun y ρ2 => match dat ρ2 x, dat ρ2 y with
    | some d, some e => liftR (idxD d e) ρ2
    | _, _ => .no :=
  ed_op2 ha hb fun s r1 r2 g => idx_ok s r1 r2 g
theorem ed_cmp2 {ta tb tc : TE} {fa fb fc : Env → Rs Rv} (ha : ED K C W ta fa) (hb : ED K C W tb fb) (hc : ED K C W tc fc) (o p : CO) (ho : ¬ (o = .isN ∨ o = .notN)) (hp : ¬ (p = .isN ∨ p = .notN)) :
    ED K C W (tChain (rOfC K o) (rOfC K p) ta tb tc) fun ρ => (fa ρ).bind fun x ρ1 => (fb ρ1).bind fun y ρ2 => match dat ρ2 x, dat ρ2 y with
      | some d, some e => match cmpD o d e with
        | some true => (fc ρ2).bind fun z ρ3 => match dat ρ3 y, dat ρ3 z with
          | some e', some f => liftR ((cmpD p e' f).map fun c => .val (.bool c)) ρ3
          | _, _ => .no
        | some false => .ok (.val (.bool false)) ρ2
        | none => .no
      | _, _ => .no := by
  intro B σ H ρ Q s hg
  refine ha.bindE s hg fun x ρ1 v H1 k1 o1 x1 f1 r1 g1 => ?_
  refine hb.bindE r1.sr g1 fun y ρ2 u H2 k2 o2 x2 f2 r2 g2 => ?_
  have p1 := r1.op.stay k2 o2 x2
  cases e1 : dat ρ2 x with
  | none => simp only [e1] at g2; exact g2.elim
  | some d =>
    cases e2 : dat ρ2 y with
    | none => simp only [e1, e2] at g2; exact g2.elim
    | some e =>
      simp only [e1, e2] at g2
      cases e3 : cmpD o d e with
      | none => simp only [e3] at g2; exact g2.elim
      | some c =>
        refine cmp_ok o r2.sr (p1.rv r2.sr e1) (r2.op.rv r2.sr e2) (fun z => absurd z ho) e3 ?_
        refine ⟨c, rfl, ?_⟩
        cases c with
        | false => simp only [e3] at g2; rw [if_neg (by simp)]; exact g2.bool r2.sr
        | true =>
          simp only [e3] at g2
          rw [if_pos rfl]
          refine hc.bindE r2.sr g2 fun z ρ3 w H3 k3 o3 x3 f3 r3 g3 => ?_
          have p2 := r2.op.stay k3 o3 x3
          cases e4 : dat ρ3 y with
          | none => simp only [e4] at g3; exact g3.elim
          | some e' =>
            cases e5 : dat ρ3 z with
            | none => simp only [e4, e5] at g3; exact g3.elim
            | some f =>
              simp only [e4, e5] at g3
              obtain ⟨r, hr, g⟩ := g3.lift
              obtain ⟨c', hc', rfl⟩ := Option.map_eq_some_iff.mp hr
              exact cmp_ok p r3.sr (p2.rv r3.sr e4) (r3.op.rv r3.sr e5) (fun z => absurd z hp) hc' (g.bool r3.sr)

/-! ### and, or, not, if -/
theorem ResR.bool {b : Bool} (r : ResR K B σ H ρ v (.val (.bool b))) : v = .bl b := by
  have := r.2
  cases this; rfl
theorem ed_and {ta tb : TE} {fa fb : Env → Rs Rv} (ha : ED K C W ta fa) (hb : ED K C W tb fb) : ED K C W (tAndV ta tb) fun ρ => (fa ρ).bind fun x ρ1 => match x with
    | .val (.bool true) => fb ρ1
    | .val (.bool false) => .ok (.val (.bool false)) ρ1
    | _ => .no := by
  intro B σ H ρ Q s hg
  refine ha.bindE s hg fun x ρ1 v H1 k1 o1 x1 f1 r1 g1 => ?_
  split at g1
  · refine ⟨true, r1.bool, ?_⟩
    rw [if_pos rfl]
    exact hb _ _ _ _ _ r1.sr g1
  · refine ⟨false, r1.bool, ?_⟩
    rw [if_neg (by simp)]
    exact g1.bool r1.sr
  · exact g1.elim
theorem ed_or {ta tb : TE} {fa fb : Env → Rs Rv} (ha : ED K C W ta fa) (hb : ED K C W tb fb) : ED K C W (tOrV ta tb) fun ρ => (fa ρ).bind fun x ρ1 => match x with
    | .val (.bool false) => fb ρ1
    | .val (.bool true) => .ok (.val (.bool true)) ρ1
    | _ => .no := by
  intro B σ H ρ Q s hg
  refine ha.bindE s hg fun x ρ1 v H1 k1 o1 x1 f1 r1 g1 => ?_
  split at g1
  · refine ⟨false, r1.bool, ?_⟩
    rw [if_neg (by simp)]
    exact hb _ _ _ _ _ r1.sr g1
  · refine ⟨true, r1.bool, ?_⟩
    rw [if_pos rfl]
    exact g1.bool r1.sr
  · exact g1.elim
theorem ed_not {ta : TE} {fa : Env → Rs Rv} (ha : ED K C W ta fa) : ED K C W (tNotV ta) fun ρ => (fa ρ).bind fun x ρ1 => match x with
    | .val (.bool c) => .ok (.val (.bool !c)) ρ1
    | _ => .no := by
  intro B σ H ρ Q s hg
  refine ha.bindE s hg fun x ρ1 v H1 k1 o1 x1 f1 r1 g1 => ?_
  split at g1
  · exact ⟨_, r1.bool, g1.bool r1.sr⟩
  · exact g1.elim
/-- a test by its code -/
def asB (f : Env → Rs Rv) (ρ : Env) : Rs Bool := (f ρ).bind fun x ρ1 => match x with
  | .val (.bool b) => .ok b ρ1
  | _ => .no
theorem td_val {t : TE} {f : Env → Rs Rv} (h : ED K C W t f) : TD K C W (tB t) (asB f) := by
  intro B σ H ρ Q s hg
  refine h.bindT s hg fun x ρ1 v H1 k1 o1 x1 f1 r1 g1 => ?_
  split at g1
  · exact ⟨_, r1.bool, g1 H1 (Keep.refl _ _) (OSub.refl _ _) (Ext.refl _) r1.sr⟩
  · exact g1.elim
theorem td_cmp {t : TE} {f : Env → Rs Rv} (h : ED K C W t f) : TD K C W (tTest t) (asB f) := td_val h
theorem GoodT.give {b : Bool} {Q : Bool → Hp → Prop} (g : GoodT K C W B σ H ρ (.ok b ρ) Q) (s : SR K B σ H ρ) : Q b H := g H (Keep.refl _ _) (OSub.refl _ _) (Ext.refl _) s
theorem td_bind {t : TT} {f : Env → Rs Bool} (h : TD K C W t f) (s : SR K B σ H ρ) {g : Bool → Env → Rs Bool} {Q' Q : Bool → Hp → Prop} (hg : GoodT K C W B σ H ρ ((f ρ).bind g) Q)
    (hok : ∀ b ρ' H', Keep (OwnAt σ ρ) H H' → OSub σ ρ' ρ → Ext ρ ρ' → SR K B σ H' ρ' → GoodT K C W B σ H' ρ' (g b ρ') Q → Q' b H') : t σ H Q' := by
  refine h B σ H ρ Q' s ?_
  cases e : f ρ with
  | ok r ρ' => rw [e] at hg; exact fun H' k o x r' => hok r ρ' H' k o x r' (GoodT.step hg k o x)
  | exc c d ρ' => rw [e] at hg; exact hg
  | no => rw [e] at hg; exact hg
theorem td_bindE {t : TT} {f : Env → Rs Bool} (h : TD K C W t f) (s : SR K B σ H ρ) {g : Bool → Env → Rs Rv} {Q' : Bool → Hp → Prop} {Q : VK} (hg : GoodE K C W B σ H ρ ((f ρ).bind g) Q)
    (hok : ∀ b ρ' H', Keep (OwnAt σ ρ) H H' → OSub σ ρ' ρ → Ext ρ ρ' → SR K B σ H' ρ' → GoodE K C W B σ H' ρ' (g b ρ') Q → Q' b H') : t σ H Q' := by
  refine h B σ H ρ Q' s ?_
  cases e : f ρ with
  | ok r ρ' => rw [e] at hg; exact fun H' k o x r' => hok r ρ' H' k o x r' (GoodE.step hg k o x)
  | exc c d ρ' => rw [e] at hg; exact hg
  | no => rw [e] at hg; exact hg
theorem td_and {ta tb : TT} {fa fb : Env → Rs Rv} (ha : TD K C W ta (asB fa)) (hb : TD K C W tb (asB fb)) : TD K C W (tAnd ta tb) (asB fun ρ => (fa ρ).bind fun x ρ1 => match x with
    | .val (.bool true) => fb ρ1
    | .val (.bool false) => .ok (.val (.bool false)) ρ1
    | _ => .no) := by
  intro B σ H ρ Q s hg
  refine td_bind ha s (g := fun b ρ1 => if b = true then asB fb ρ1 else .ok false ρ1) (Q := Q) ?_ fun b ρ' H' k o x s' g' => ?_
  · refine (congrArg (fun z => GoodT K C W B σ H ρ z Q) ?_).mp hg
    unfold asB
    dsimp only
    cases fa ρ with
    | no => rfl
    | exc => rfl
    | ok r ρ1 =>
      cases r with
      | val d => cases d <;> first | rfl | (rename_i b; cases b <;> rfl)
      | own d => rfl
      | sl i => rfl
  · cases b with
    | true => rw [if_pos rfl] at g' ⊢; exact hb _ _ _ _ _ s' g'
    | false => rw [if_neg (by simp)] at g' ⊢; exact g'.give s'
theorem td_or {ta tb : TT} {fa fb : Env → Rs Rv} (ha : TD K C W ta (asB fa)) (hb : TD K C W tb (asB fb)) : TD K C W (tOr ta tb) (asB fun ρ => (fa ρ).bind fun x ρ1 => match x with
    | .val (.bool false) => fb ρ1
    | .val (.bool true) => .ok (.val (.bool true)) ρ1
    | _ => .no) := by
  intro B σ H ρ Q s hg
  refine td_bind ha s (g := fun b ρ1 => if b = true then .ok true ρ1 else asB fb ρ1) (Q := Q) ?_ fun b ρ' H' k o x s' g' => ?_
  · refine (congrArg (fun z => GoodT K C W B σ H ρ z Q) ?_).mp hg
    unfold asB
    dsimp only
    cases fa ρ with
    | no => rfl
    | exc => rfl
    | ok r ρ1 =>
      cases r with
      | val d => cases d <;> first | rfl | (rename_i b; cases b <;> rfl)
      | own d => rfl
      | sl i => rfl
  · cases b with
    | true => rw [if_pos rfl] at g' ⊢; exact g'.give s'
    | false => rw [if_neg (by simp)] at g' ⊢; exact hb _ _ _ _ _ s' g'
theorem td_not {ta : TT} {fa : Env → Rs Rv} (ha : TD K C W ta (asB fa)) : TD K C W (tNot ta) (asB fun ρ => (fa ρ).bind fun x ρ1 => match x with
    | .val (.bool c) => .ok (.val (.bool !c)) ρ1
    | _ => .no) := by
  intro B σ H ρ Q s hg
  refine td_bind ha s (g := fun b ρ1 => .ok (!b) ρ1) (Q := Q) ?_ fun b ρ' H' k o x s' g' => ?_
  · refine (congrArg (fun z => GoodT K C W B σ H ρ z Q) ?_).mp hg
    unfold asB
    dsimp only
    cases fa ρ with
    | no => rfl
    | exc => rfl
    | ok r ρ1 =>
      cases r with
      | val d => cases d <;> rfl
      | own d => rfl
      | sl i => rfl
  · exact g'.give s'
theorem ed_ife {t : TT} {ta tb : TE} {f fa fb : Env → Rs Rv} (h : TD K C W t (asB f)) (ha : ED K C W ta fa) (hb : ED K C W tb fb) : ED K C W (tIf t ta tb) fun ρ => (f ρ).bind fun x ρ1 => match x with
    | .val (.bool true) => fa ρ1
    | .val (.bool false) => fb ρ1
    | _ => .no := by
  intro B σ H ρ Q s hg
  refine td_bindE h s (g := fun b ρ1 => if b = true then fa ρ1 else fb ρ1) (Q := Q) ?_ fun b ρ' H' k o x s' g' => ?_
  · refine (congrArg (fun z => GoodE K C W B σ H ρ z Q) ?_).mp hg
    unfold asB
    dsimp only
    cases f ρ with
    | no => rfl
    | exc => rfl
    | ok r ρ1 =>
      cases r with
      | val d => cases d <;> first | rfl | (rename_i b; cases b <;> rfl)
      | own d => rfl
      | sl i => rfl
  · cases b with
    | true => rw [if_pos rfl] at g' ⊢; exact ha _ _ _ _ _ s' g'
    | false => rw [if_neg (by simp)] at g' ⊢; exact hb _ _ _ _ _ s' g'

/-! ### displays, slices, calls -/
theorem ed_tup {t : TA} {fs : Env → Rs (List Rv)} {lk : List Nat} (h : AD K C W t fs) : ED K C W (tTup t) fun ρ => (fs ρ).bind fun rs ρ1 => (keepVs lk rs ρ1).bind fun ds ρ2 => if lenOk ds.length then .ok (.val (.tuple ds)) ρ2 else .no := by
  intro B σ H ρ Q s hg
  refine h.bindE s hg fun rs ρ1 vs H1 Bs k1 o1 x1 f1 L g1 => ?_
  rcases keepVs_cases lk rs ρ1 with ⟨ds, ρ2, e⟩ | e
  · rw [e, Rs.bind_ok] at g1
    obtain ⟨s2, r2, os, ex⟩ := keepVs_ok L.base L.ops e
    split at g1
    · rename_i hl
      exact ⟨by rw [r2.length]; exact len_line hl, fun p hp => (g1.step (ρ1 := ρ2) (Keep.refl _ _) os ex).newT s2 r2 hp⟩
    · exact g1.elim
  · rw [e] at g1; exact g1.elim
theorem ed_lst {t : TA} {fs : Env → Rs (List Rv)} {lk : List Nat} (h : AD K C W t fs) : ED K C W (tLst t) fun ρ => (fs ρ).bind fun rs ρ1 => (keepVs lk rs ρ1).bind fun ds ρ2 => if lenOk ds.length then .ok (.own (.list ds)) ρ2 else .no := by
  intro B σ H ρ Q s hg
  refine h.bindE s hg fun rs ρ1 vs H1 Bs k1 o1 x1 f1 L g1 => ?_
  rcases keepVs_cases lk rs ρ1 with ⟨ds, ρ2, e⟩ | e
  · rw [e, Rs.bind_ok] at g1
    obtain ⟨s2, r2, os, ex⟩ := keepVs_ok L.base L.ops e
    split at g1
    · rename_i hl
      exact ⟨by rw [r2.length]; exact len_line hl, fun p hp => (g1.step (ρ1 := ρ2) (Keep.refl _ _) os ex).newL s2 r2 hp⟩
    · exact g1.elim
  · rw [e] at g1; exact g1.elim
theorem ed_emp : ED K C W tDNewK fun ρ => .ok (.own (.dict [])) ρ := by
  intro B σ H ρ Q s g p hp
  have nb : ¬ B p := fun b => by obtain ⟨o, q⟩ := s.bt p b; rw [hp] at q; cases q
  exact g _ _ (Keep.new hp) (OSub.refl _ _) (Ext.refl _) (fun a e => by cases e; exact hp) ⟨p, rfl, nb, s.block hp, .dic (ks := []) (.inl ⟨[], upd_same, rfl⟩) rfl .nil⟩
/-- a slice's end -/
theorem od_none {g : Option Int → Env → Rs Rv} {r : Rs Rv} {Q' : Option Int → Hp → Prop} (s : SR K B σ H ρ) (hg : GoodE K C W B σ H ρ ((endR true r ρ).bind g) Q)
    (hok : ∀ o ρ' H', Keep (OwnAt σ ρ) H H' → OSub σ ρ' ρ → Ext ρ ρ' → SR K B σ H' ρ' → GoodE K C W B σ H' ρ' (g o ρ') Q → Q' o H') : tNoPart σ H Q' :=
  hok none ρ H (Keep.refl _ _) (OSub.refl _ _) (Ext.refl _) s hg
theorem od_some {t : TE} {f : Env → Rs Rv} {g : Option Int → Env → Rs Rv} {Q' : Option Int → Hp → Prop} (h : ED K C W t f) (s : SR K B σ H ρ) (hg : GoodE K C W B σ H ρ ((endR false (f ρ) ρ).bind g) Q)
    (hok : ∀ o ρ' H', Keep (OwnAt σ ρ) H H' → OSub σ ρ' ρ → Ext ρ ρ' → SR K B σ H' ρ' → GoodE K C W B σ H' ρ' (g o ρ') Q → Q' o H') : tPart t σ H Q' := by
  refine h.bindE s (g := fun y ρ1 => match y with | .val (.int i) => g (some i) ρ1 | _ => .no) (Q := Q) ?_ fun x ρ1 v H1 k1 o1 x1 f1 r1 g1 => ?_
  · refine (congrArg (fun z => GoodE K C W B σ H ρ z Q) ?_).mp hg
    unfold endR
    rw [if_neg (by simp)]
    cases f ρ with
    | no => rfl
    | exc => rfl
    | ok r ρ1 =>
      cases r with
      | val d => cases d <;> rfl
      | own d => rfl
      | sl i => rfl
  · split at g1
    · rename_i i
      have e := r1.2
      cases e
      exact ⟨i, rfl, hok (some i) ρ1 H1 k1 o1 x1 r1.sr g1⟩
    · exact g1.elim
/-- an end: there, or left out -/
inductive OD (K : PySem.W.Frag) (C : Nat → Addr) (W : WX) : TO → Bool → (Env → Rs Rv) → Prop
  | none (f : Env → Rs Rv) : OD K C W tNoPart true f
  | some {t : TE} {f : Env → Rs Rv} (h : ED K C W t f) : OD K C W (tPart t) false f
theorem OD.ok {t : TO} {b : Bool} {f : Env → Rs Rv} (h : OD K C W t b f) {g : Option Int → Env → Rs Rv} {Q' : Option Int → Hp → Prop} (s : SR K B σ H ρ) (hg : GoodE K C W B σ H ρ ((endR b (f ρ) ρ).bind g) Q)
    (hok : ∀ o ρ' H', Keep (OwnAt σ ρ) H H' → OSub σ ρ' ρ → Ext ρ ρ' → SR K B σ H' ρ' → GoodE K C W B σ H' ρ' (g o ρ') Q → Q' o H') : t σ H Q' := by
  cases h with
  | none => exact od_none s hg hok
  | some h => exact od_some h s hg hok
theorem ed_slc {t : TE} {tl th : TO} {f fl fh : Env → Rs Rv} {bl bh : Bool} (h : ED K C W t f) (hl : OD K C W tl bl fl) (hh : OD K C W th bh fh) :
    ED K C W (tSl (fun x lo hi H Q => rSlL K x lo hi H Q ∨ rSlA K x lo hi H Q) t tl th) fun ρ => (f ρ).bind fun x ρ1 => (endR bl (fl ρ1) ρ1).bind fun lo ρ2 => (endR bh (fh ρ2) ρ2).bind fun hi ρ3 => match dat ρ3 x with
      | some d => liftR (slcD d lo hi) ρ3
      | _ => .no := by
  intro B σ H ρ Q s hg
  refine h.bindE s hg fun x ρ1 v H1 k1 o1 x1 f1 r1 g1 => ?_
  refine hl.ok r1.sr g1 fun lo ρ2 H2 k2 o2 x2 s2 g2 => ?_
  have p2 := r1.op.stay k2 o2 x2
  refine hh.ok s2 g2 fun hi ρ3 H3 k3 o3 x3 s3 g3 => ?_
  have p3 := p2.stay k3 o3 x3
  split at g3
  · rename_i d e
    exact slc_ok s3 (p3.rv s3 e) g3
  · exact g3.elim
theorem ed_bi {t : TA} {fs : Env → Rs (List Rv)} (h : AD K C W t fs) (b : Bi) : ED K C W (tCB (rBi K b) t) fun ρ => (fs ρ).bind fun rs ρ1 => match dats ρ1 rs with
    | some ds => liftR (biD b ds) ρ1
    | none => .no := by
  intro B σ H ρ Q s hg
  refine h.bindE s hg fun rs ρ1 vs H1 Bs k1 o1 x1 f1 L g1 => ?_
  split at g1
  · rename_i ds e
    exact bi_ok b L.base (L.rvs e) g1
  · exact g1.elim
/-- isinstance(a, T), isinstance(a, (T, ..)) -/
def tIsi (K : PySem.W.Frag) (ts : List String) (t : TE) : TE := fun σ H Q => t σ H fun x H1 => match ts with
  | [T] => rIsi K [x, .ty T] H1 Q
  | _ => ∀ p, H1 p = none → rIsiT K [x, .ref p] (upd H1 p (.tup (ts.map V.ty))) Q
theorem tys_cls : ∀ ts : List String, Paired ClsV (ts.map V.ty) (ts.map Value.type)
  | [] => .nil
  | a :: ts => .cons (.ty a) (tys_cls ts)
theorem ed_isi {t : TE} {f : Env → Rs Rv} (h : ED K C W t f) {ts : List String} (hk : ts.all (okTys.contains ·) = true) : ED K C W (tIsi K ts t) fun ρ => (f ρ).bind fun x ρ1 => match dat ρ1 x with
    | some d => isiE d ts ρ1
    | none => .no := by
  intro B σ H ρ Q s hg
  refine h.bindE s hg fun x ρ1 v H1 k1 o1 x1 f1 r1 g1 => ?_
  split at g1
  · rename_i d e
    have rv := r1.op.rv r1.sr e
    unfold isiE at g1
    split at g1
    case isFalse => exact g1.elim
    rename_i ok
    have two : ∀ p, H1 p = none → rIsiT K [v, .ref p] (upd H1 p (.tup (ts.map V.ty))) Q := fun p hp => by
      have s2 := r1.sr.new (o := .tup (ts.map V.ty)) hp
      have k2 : Keep (OwnAt σ ρ1) H1 (upd H1 p (.tup (ts.map V.ty))) := Keep.new hp
      have rv2 : RV K B σ (upd H1 p (.tup (ts.map V.ty))) ρ1 v d := (r1.op.stay k2 (OSub.refl _ _) (Ext.refl _)).rv s2 e
      refine ⟨v, p, ts.map V.ty, .type (tyName d), ts.map Value.type, _, rfl, upd_same, ?_, rv2.ty ok, kits_ok hk, (g1.step k2 (OSub.refl _ _) (Ext.refl _)).bool s2⟩
      exact tys_cls ts
    split
    · rename_i T
      have hk1 : okTys.contains T = true := by simpa using hk
      have e2 : isiD d [T] = (T == tyName d || (T == "int" && tyName d == "bool")) := by simp [isiD]
      exact ⟨v, .ty T, .type (tyName d), .type T, _, rfl, .ty T, rv.ty ok, kit_ok hk1, by rw [← e2]; exact g1.bool r1.sr⟩
    · exact two
  · exact g1.elim
theorem permR_nil (rs : List Rv) : permR [] rs = some rs := rfl
def permG {α : Type} : List Nat → List α → List α → List α
  | [], us, ws => us ++ ws
  | p :: ps, us, ws => (p :: ps).filterMap fun j => (us ++ ws)[j]?
theorem OpsOk.append {vs ws : List V} {rs qs : List Rv} (a : OpsOk K B σ H ρ vs rs) (b : OpsOk K B σ H ρ ws qs) : OpsOk K B σ H ρ (vs ++ ws) (rs ++ qs) := by
  refine ⟨by rw [List.length_append, List.length_append, a.1, b.1], fun k v r e1 e2 => ?_⟩
  by_cases h : k < vs.length
  · rw [List.getElem?_append_left h] at e1
    rw [List.getElem?_append_left (by rw [← a.1]; exact h)] at e2
    exact a.2 k v r e1 e2
  · rw [List.getElem?_append_right (by omega)] at e1
    rw [List.getElem?_append_right (by rw [← a.1]; omega), ← a.1] at e2
    exact b.2 _ v r e1 e2
theorem OpsOk.perm {vs : List V} {rs rs' : List Rv} {perm : List Nat} (a : OpsOk K B σ H ρ vs rs) (h : permR perm rs = some rs') : OpsOk K B σ H ρ (permG perm vs []) rs' := by
  cases perm with
  | nil => simp only [permR, Option.some.injEq] at h; subst h; simpa [permG] using a
  | cons p ps =>
    simp only [permR, permG, List.append_nil] at h ⊢
    generalize p :: ps = l at h ⊢
    induction l generalizing rs' with
    | nil =>
      simp only [List.mapM_nil, Option.pure_def, Option.some.injEq] at h
      subst h
      exact ⟨rfl, fun k v r e => by simp at e⟩
    | cons q l ih =>
      simp only [List.mapM_cons, Option.bind_eq_bind, Option.bind_eq_some_iff, Option.pure_def, Option.some.injEq] at h
      obtain ⟨r, hr, rs2, h2, rfl⟩ := h
      have hq : q < vs.length := by rw [a.1]; exact (List.getElem?_eq_some_iff.mp hr).1
      have e : vs[q]? = some vs[q] := List.getElem?_eq_getElem hq
      obtain ⟨i1, i2⟩ := ih h2
      rw [List.filterMap_cons, e]
      refine ⟨by simp [i1], fun k v r' e1 e2 => ?_⟩
      cases k with
      | zero =>
        simp only [List.getElem?_cons_zero, Option.some.injEq] at e1 e2
        subst e1; subst e2
        exact a.2 q _ _ e hr
      | succ k => exact i2 k v r' (by simpa using e1) (by simpa using e2)
theorem AD.bindA {t : TA} {f : Env → Rs (List Rv)} (h : AD K C W t f) (s : SR K B σ H ρ) {g : List Rv → Env → Rs Rv} {Q' : List V → Hp → Prop} (hg : GoodE K C W B σ H ρ ((f ρ).bind g) Q)
    (hok : ∀ rs ρ' vs H', SR K B σ H' ρ' → OpsOk K B σ H' ρ' vs rs → GoodE K C W B σ H' ρ' (g rs ρ') Q → Q' vs H') : t σ H Q' :=
  h.bindE s hg fun rs ρ' vs H' Bs k o x f L g' => hok rs ρ' vs H' L.base L.ops g'
theorem OpsOk.stay {vs : List V} {rs : List Rv} (a : OpsOk K B σ H ρ vs rs) (k : Keep (OwnAt σ ρ) H H') (o : OSub σ ρ' ρ) (x : Ext ρ ρ') : OpsOk K B σ H' ρ' vs rs := ⟨a.1, fun j v r e1 e2 => (a.2 j v r e1 e2).stay k o x⟩
/-- a call, its arguments in the parameters' order -/
theorem ed_call {T : Prog} {n f : Nat} {perm : List Nat} {t tk : TA} {fs fk : Env → Rs (List Rv)} (h : AD K C W t fs) (hk : AD K C W tk fk) :
    ED K C W (fun σ H Q => t σ H fun vs H1 => tk σ H1 fun zs H2 => spF K C T n f (permG perm (vs ++ zs) []) H2 Q (WE W σ)) fun ρ => (fs ρ).bind fun rs ρ1 => (fk ρ1).bind fun qs ρ2 => callE T.io (run T n) f perm (rs ++ qs) ρ2 := by
  intro B σ H ρ Q s hg
  refine h.bindA s hg fun rs ρ1 vs H1 s1 o1 g1 => ?_
  refine hk.bindE s1 g1 fun qs ρ2 zs H2 Bs k2 os2 x2 f2 L g2 => ?_
  have ops := (o1.stay k2 os2 x2).append L.ops
  unfold callE at g2
  split at g2
  · exact g2.elim
  · rename_i rs' hp
    split at g2
    · rename_i ds sl hd hs
      split at g2
      · rename_i hl
        exact call_ok L.base (ops.perm hp) hd hs hl g2
      · exact g2.elim
    · exact g2.elim
/-! ### a new list given to a parameter that is changed -/
theorem ownIx_at : ∀ {io : List Bool} {rs : List Rv} {k : Nat} {d : PyData}, ownIx io rs = some (k, d) → rs[k]? = some (.own d)
  | [], rs, k, d, h => by cases rs <;> simp [ownIx] at h
  | true :: io, [], k, d, h => by simp [ownIx] at h
  | false :: io, [], k, d, h => by simp [ownIx] at h
  | b :: io, r :: rs, k, d, h => by
    have gen : ∀ (h : (ownIx io rs).map (fun p => (p.1 + 1, p.2)) = some (k, d)), (r :: rs)[k]? = some (.own d) := fun h => by
      obtain ⟨⟨k', d'⟩, e, h⟩ := Option.map_eq_some_iff.mp h
      simp only [Prod.mk.injEq] at h
      obtain ⟨rfl, rfl⟩ := h
      simpa using ownIx_at e
    cases b with
    | false => exact gen (by simpa only [ownIx] using h)
    | true =>
      cases r with
      | own c =>
        simp only [ownIx, Option.some.injEq, Prod.mk.injEq] at h
        obtain ⟨rfl, rfl⟩ := h
        rfl
      | val c => exact gen (by simpa only [ownIx] using h)
      | sl c => exact gen (by simpa only [ownIx] using h)
theorem app_lt {α : Type} {l : List α} {x : α} {i : Nat} (h : i < l.length) : (l ++ [x])[i]? = l[i]? := List.getElem?_append_left h
theorem app_eq {α : Type} {l : List α} {x : α} : (l ++ [x])[l.length]? = some x := by simp
theorem own_app {a : Addr} (hl : σ.length = ρ.length) {x : Addr} (h : OwnAt (σ ++ [some (V.ref a)]) (ρ ++ [some (true, d)]) x) : OwnAt σ ρ x ∨ x = a := by
  obtain ⟨i, c, e1, e2⟩ := h
  by_cases hi : i < ρ.length
  · rw [app_lt hi] at e1
    rw [app_lt (by rw [hl]; exact hi)] at e2
    exact .inl ⟨i, c, e1, e2⟩
  · have : i = σ.length := by
      have := (List.getElem?_eq_some_iff.mp e1).1
      simp at this; omega
    subst this
    rw [app_eq] at e2
    cases e2
    exact .inr rfl
theorem app_own {a x : Addr} (hl : σ.length = ρ.length) (h : OwnAt σ ρ x) : OwnAt (σ ++ [some (V.ref a)]) (ρ ++ [some (true, d)]) x := by
  obtain ⟨i, c, e1, e2⟩ := h
  have hi := (List.getElem?_eq_some_iff.mp e1).1
  exact ⟨i, c, by rw [app_lt hi]; exact e1, by rw [app_lt (by rw [hl]; exact hi)]; exact e2⟩
theorem SR.park {a : Addr} (s : SR K Bs σ H ρ) (m : ∀ x, B x → Bs x) (ba : Bs a) (nb : ¬ B a) (r : ORp K (Free Bs σ ρ) H a d) : SR K B (σ ++ [some (V.ref a)]) H (ρ ++ [some (true, d)]) ∧ ∀ x, Free Bs σ ρ x → Free B (σ ++ [some (V.ref a)]) (ρ ++ [some (true, d)]) x := by
  have fr : ∀ x, Free Bs σ ρ x → Free B (σ ++ [some (V.ref a)]) (ρ ++ [some (true, d)]) x := fun x f => ⟨fun b => f.1 (m x b), fun z => (own_app s.len z).elim f.2 fun z => f.1 (z ▸ ba)⟩
  have cs : ∀ {i : Nat} {z : Bool × PyData}, (ρ ++ [some (true, d)])[i]? = some (some z) → (i < ρ.length ∧ ρ[i]? = some (some z)) ∨ (i = ρ.length ∧ z = (true, d)) := fun {i z} e => by
    by_cases hi : i < ρ.length
    · rw [app_lt hi] at e; exact .inl ⟨hi, e⟩
    · have : i = ρ.length := by
        have := (List.getElem?_eq_some_iff.mp e).1
        simp at this; omega
      subst this
      rw [app_eq] at e
      cases e
      exact .inr ⟨rfl, rfl⟩
  have st : ∀ {i : Nat}, i < ρ.length → (σ ++ [some (V.ref a)])[i]? = σ[i]? := fun {i} hi => app_lt (by rw [s.len]; exact hi)
  have se : (σ ++ [some (V.ref a)])[ρ.length]? = some (some (V.ref a)) := by rw [← s.len]; exact app_eq
  refine ⟨⟨by simp [s.len], fun x b => s.bt x (m x b), fun i z e => ?_, fun i z e => ?_, fun i j x z z' e1 e2 e3 e4 => ?_⟩, fr⟩
  · rcases cs e with ⟨hi, e⟩ | ⟨_, e⟩
    · obtain ⟨w, q, r⟩ := s.plain i z e
      exact ⟨w, by rw [st hi]; exact q, r.mono fr⟩
    · cases e
  · rcases cs e with ⟨hi, e⟩ | ⟨hi, e⟩
    · obtain ⟨w, q, n, r⟩ := s.own i z e
      exact ⟨w, by rw [st hi]; exact q, fun b => n (m _ b), r.mono fr⟩
    · cases e
      subst hi
      exact ⟨a, se, nb, r.mono fr⟩
  · rcases cs e1 with ⟨hi, e1⟩ | ⟨hi, _⟩ <;> rcases cs e2 with ⟨hj, e2⟩ | ⟨hj, _⟩
    · rw [st hi] at e3; rw [st hj] at e4
      exact s.inj i j x _ _ e1 e2 e3 e4
    · subst hj
      rw [se] at e4; cases e4
      rw [st hi] at e3
      exact absurd ba (s.ownFree ⟨i, z, e1, e3⟩)
    · subst hi
      rw [se] at e3; cases e3
      rw [st hj] at e4
      exact absurd ba (s.ownFree ⟨j, z', e2, e4⟩)
    · omega
theorem own_take {a x : Addr} {n : Nat} (h : OwnAt σ (ρ.take n) x) (hn : n = σ.length) : ∃ (i : Nat) (c : PyData), i < n ∧ ρ[i]? = some (some (true, c)) ∧ σ[i]? = some (some (V.ref x)) ∧ (σ ++ [some (V.ref a)])[i]? = some (some (V.ref x)) := by
  obtain ⟨i, c, e1, e2⟩ := h
  have hi : i < n := by
    have := (List.getElem?_eq_some_iff.mp e1).1
    rw [List.length_take] at this; omega
  exact ⟨i, c, hi, by rw [List.getElem?_take_of_lt hi] at e1; exact e1, e2, by rw [app_lt (by omega)]; exact e2⟩
theorem SR.unpark {a : Addr} (s : SR K B (σ ++ [some (V.ref a)]) H ρ) : SR K B σ H (ρ.take σ.length) ∧ ∀ x, Free B (σ ++ [some (V.ref a)]) ρ x → Free B σ (ρ.take σ.length) x := by
  have l : ρ.length = σ.length + 1 := by have := s.len; simp at this; omega
  have at_ : ∀ {i : Nat} {z : Bool × PyData}, (ρ.take σ.length)[i]? = some (some z) → i < σ.length ∧ ρ[i]? = some (some z) := fun {i z} e => by
    have hi : i < σ.length := by
      have := (List.getElem?_eq_some_iff.mp e).1
      rw [List.length_take] at this; omega
    rw [List.getElem?_take_of_lt hi] at e
    exact ⟨hi, e⟩
  have fr : ∀ x, Free B (σ ++ [some (V.ref a)]) ρ x → Free B σ (ρ.take σ.length) x := fun x f => ⟨f.1, fun z => by
    obtain ⟨i, c, _, h1, _, h3⟩ := own_take (a := a) z rfl
    exact f.2 ⟨i, c, h1, h3⟩⟩
  refine ⟨⟨by rw [List.length_take]; omega, s.bt, fun i z e => ?_, fun i z e => ?_, fun i j x z z' e1 e2 e3 e4 => ?_⟩, fr⟩
  · obtain ⟨hi, e⟩ := at_ e
    obtain ⟨w, q, r⟩ := s.plain i z e
    rw [app_lt hi] at q
    exact ⟨w, q, r.mono fr⟩
  · obtain ⟨hi, e⟩ := at_ e
    obtain ⟨w, q, n, r⟩ := s.own i z e
    rw [app_lt hi] at q
    exact ⟨w, q, n, r.mono fr⟩
  · obtain ⟨hi, e1⟩ := at_ e1
    obtain ⟨hj, e2⟩ := at_ e2
    exact s.inj i j x _ _ e1 e2 (by rw [app_lt hi]; exact e3) (by rw [app_lt hj]; exact e4)
theorem ed_callP {T : Prog} {n f : Nat} {t : TA} {fs : Env → Rs (List Rv)} (h : AD K C W t fs) :
    ED K C W (fun σ H Q => t σ H fun vs H1 => spF K C T n f vs H1 Q (WE W σ)) fun ρ => (fs ρ).bind fun rs ρ1 => callP T.io (run T n) f rs ρ1 := by
  intro B σ H0 ρ0 Q s hg
  refine h B σ H0 ρ0 _ s ?_
  dsimp only at hg
  cases e : fs ρ0 with
  | no => rw [e] at hg; exact hg
  | exc c d ρ' => rw [e] at hg; exact hg
  | ok rs ρ =>
    rw [e, Rs.bind_ok] at hg
    intro vs H Bs k0 o0 x0 f0 L
    unfold callP at hg
    cases eo : ownIx (T.io f) rs with
    | none =>
      rw [eo] at hg
      have g2 := hg.step k0 o0 x0
      dsimp only at g2
      unfold callE at g2
      split at g2
      · exact g2.elim
      · rename_i rs' hp
        cases hp
        split at g2
        · rename_i ds sl hd hs
          split at g2
          · rename_i hl
            exact call_ok L.base L.ops hd hs hl g2
          · exact g2.elim
        · exact g2.elim
    | some p =>
      obtain ⟨k, d⟩ := p
      rw [eo] at hg
      dsimp only at hg
      have ek := ownIx_at eo
      have hk : k < vs.length := by rw [L.len]; exact (List.getElem?_eq_some_iff.mp ek).1
      obtain ⟨a, ea, nb, ba, ro⟩ := L.own k d _ ek (List.getElem?_eq_getElem hk)
      have evk : vs[k]? = some (V.ref a) := by rw [List.getElem?_eq_getElem hk, ea]
      have hn : H0 a = none := f0 k d a ek evk
      obtain ⟨s2, fr⟩ := L.sr.park L.sub ba nb ro
      have ops : OpsOk K B (σ ++ [some (V.ref a)]) H (ρ ++ [some (true, d)]) vs (rs.set k (.sl ρ.length)) := by
        refine ⟨by rw [List.length_set]; exact L.len, fun j v r e1 e2 => ?_⟩
        by_cases hj : k = j
        · subst hj
          rw [List.getElem?_set_self (by rw [← L.len]; exact hk)] at e2
          cases e2
          rw [evk] at e1
          cases e1
          exact ⟨by rw [← L.sr.len]; exact app_eq, true, d, app_eq⟩
        · rw [List.getElem?_set_ne hj] at e2
          cases r with
          | val c => exact (L.val j c v e2 e1).mono fr
          | own c =>
            obtain ⟨b, eb, nb', bb, rb⟩ := L.own j c v e2 e1
            subst eb
            refine (rb.mono fr).rp ⟨nb', fun z => ?_⟩
            rcases own_app L.sr.len z with z | z
            · exact L.sr.ownFree z bb
            · subst z
              exact hj (L.apart k j d c b ek e2 evk e1)
          | sl i =>
            obtain ⟨q1, m, c, q2⟩ := L.slt j i v e2 e1
            have hi := (List.getElem?_eq_some_iff.mp q2).1
            exact ⟨by rw [app_lt (by rw [L.sr.len]; exact hi)]; exact q1, m, c, by rw [app_lt hi]; exact q2⟩
      -- the wish, the state as it was
      have key : ∀ out : Rs Rv, GoodE K C W B σ H0 ρ0 (trimE ρ.length out) Q → GoodE K C (fun cls dd _ H' => W cls dd σ H') B (σ ++ [some (V.ref a)]) H (ρ ++ [some (true, d)]) out Q := by
        intro out g
        have hsub : ∀ {ρ' : Env} {Bx : Addr → Prop} {H' : Hp}, OSub (σ ++ [some (V.ref a)]) ρ' (ρ ++ [some (true, d)]) → SR K Bx (σ ++ [some (V.ref a)]) H' ρ' → ownS ρ' ρ.length = true → OSub σ (ρ'.take ρ.length) ρ0 := by
          intro ρ' Bx H' os sx ow x z
          rw [← L.sr.len] at z ow
          obtain ⟨i, c, hi, h1, h2, h3⟩ := own_take (a := a) z rfl
          rcases own_app L.sr.len (os x ⟨i, c, h1, h3⟩) with q | q
          · exact o0 x q
          · subst q
            unfold ownS at ow
            split at ow
            · rename_i c' e'
              have := sx.inj i σ.length x _ _ h1 e' h3 app_eq
              omega
            · cases ow
        have hkeep : ∀ {H' : Hp}, Keep (OwnAt (σ ++ [some (V.ref a)]) (ρ ++ [some (true, d)])) H H' → Keep (OwnAt σ ρ0) H0 H' := fun k => k0.trans k fun x z => (own_app L.sr.len z).elim (fun z => .inl (o0 x z)) fun z => .inr (z ▸ hn)
        have hext : ∀ {ρ' : Env}, Ext (ρ ++ [some (true, d)]) ρ' → Ext ρ0 (ρ'.take ρ.length) := fun {ρ'} x i m c q => by
          obtain ⟨m1, c1, q1⟩ := x0 i m c q
          have hi := (List.getElem?_eq_some_iff.mp q1).1
          obtain ⟨m2, c2, q2⟩ := x i m1 c1 (by rw [app_lt hi]; exact q1)
          exact ⟨m2, c2, by rw [List.getElem?_take_of_lt hi]; exact q2⟩
        cases out with
        | no => exact g
        | exc c dd ρ' =>
          simp only [trimE] at g
          split at g
          · rename_i ow
            intro ddd H' k os sx ex
            obtain ⟨s3, fr3⟩ := sx.unpark
            rw [L.sr.len] at s3 fr3
            obtain ⟨v, e1, r1⟩ := ex
            exact g ddd H' (hkeep k) (hsub os sx ow) s3 ⟨v, e1, r1.mono fr3⟩
          · exact g.elim
        | ok r ρ' =>
          cases r with
          | sl i => exact g.elim
          | val c =>
            simp only [trimE] at g
            split at g
            · rename_i ow
              intro v H' k os x fv rr
              obtain ⟨s3, fr3⟩ := rr.1.unpark
              rw [L.sr.len] at s3 fr3
              exact g v H' (hkeep k) (hsub os rr.1 ow) (hext x) trivial ⟨s3, rr.2.mono fr3⟩
            · exact g.elim
          | own c =>
            simp only [trimE] at g
            split at g
            · rename_i ow
              intro v H' k os x fv rr
              obtain ⟨b, rfl, nb', sx, rx⟩ := rr
              obtain ⟨s3, fr3⟩ := sx.unpark
              rw [L.sr.len] at s3 fr3
              exact g _ H' (hkeep k) (hsub os sx ow) (hext x) (fv.step k0) ⟨b, rfl, nb', s3, rx.mono fr3⟩
            · exact g.elim
      have g2 := key _ hg
      unfold callE at g2
      split at g2
      · exact g2.elim
      · rename_i rs' hp
        cases hp
        split at g2
        · rename_i ds sl hd hs
          split at g2
          · rename_i hl
            exact call_ok (W := fun cls dd _ H' => W cls dd σ H') s2 ops hd hs hl g2
          · exact g2.elim
        · exact g2.elim
end
end PD
set_option maxRecDepth 100000
set_option autoImplicit false
/-! PD9: what a loop walks: lists and tuples alike, ranges, enumerate, zip. -/
namespace PD
variable [WW]
open PySem PySem.Spec PyProof.Rows L2
open AutoSeq1 (wpAny_loadPart')

/-! ### enumerate(tuple) -/
set_option maxHeartbeats 1000000 in
theorem meets_enumerate_new1 {v : Value} {o : Obj} {H : Heap → Prop} (B : Begins v o H) :
    Meets (Builtin.«enumerate.__new__» ⟨[.type "enumerate", v], []⟩) (fun _ R s => H s.heap ∧
      R (.ok (.ret (.ref (s.heap.push o).objs.size))) { s with heap := (s.heap.push o).push { cls := .type "enumerate", data := .fields #[.none, .bool false, .ref s.heap.objs.size, rawInt 0, .none, .none] } }) :=
  .of_wp fun prog w A R s h => by
    obtain ⟨hp, g, d, tk, os⟩ := s; obtain ⟨h1, h⟩ := h
    have hsub := sub_enumerate
    have q1 : ∀ {A' : Around} {E : Value → Shared → Prop} {Q : Value → Shared → Prop}, Q (.ref hp.objs.size) ⟨hp.push o, g, d, tk, os⟩ → wpAny (model prog w) A' (pyIter v) Q E ⟨hp, g, d, tk, os⟩ :=
      fun q => B.iter prog w _ _ ⟨hp, g, d, tk, os⟩ _ h1 q
    wp_walk using q1
    refine wpAny_stack_any fun st => wpAny_pure ?_
    split
    · rename_i c _ _ _ _ _
      cases (c == Value.type "enumerate")
      · wp_walk using q1
        exact ⟨_, rfl, h⟩
      · wp_walk using q1
        exact ⟨_, rfl, h⟩
    · wp_walk using q1
      exact ⟨_, rfl, h⟩
section
variable {prog : Program} {w : World} {A : Around} {E : Value → Shared → Prop} {s : Shared}
theorem enum_begins1 {v : Value} {o : Obj} {H : Heap → Prop} {Q : Value → Shared → Prop} (B : Begins v o H) (h1 : H s.heap)
    (h : ∀ h', IsEnum h' (s.heap.objs.size + 1) s.heap.objs.size 0 .none → h'.get? s.heap.objs.size = some o → h'.objs.size = s.heap.objs.size + 2 →
      (∀ b o, s.heap.get? b = some o → h'.get? b = some o) → Q (.ref (s.heap.objs.size + 1)) { s with heap := h' }) :
    wpAny (model prog w) A (call (.type "enumerate") [v]) Q E s := by
  refine callType_new PySem.F.called_enumerate (by decide) (PySem.F.typeCall_enumerate_1 _) (PySem.F.newCall_enumerate_1 _) (fun obj => PySem.F.args_object_init_2 obj _) PySem.F.entry_enumerate_new
    (meets_enumerate_new1 B) ⟨h1, ?_⟩
  have hz : (s.heap.push o).objs.size = s.heap.objs.size + 1 := Heap.size_push ..
  show _ ∧ _
  rw [hz]
  have he : IsEnum ((s.heap.push o).push { cls := .type "enumerate", data := .fields #[.none, .bool false, .ref s.heap.objs.size, rawInt 0, .none, .none] }) (s.heap.objs.size + 1) s.heap.objs.size 0 .none := by
    have := Heap.get?_push_size (s.heap.push o) (o := { cls := .type "enumerate", data := .fields #[.none, .bool false, .ref s.heap.objs.size, rawInt 0, .none, .none] }) rfl
    rw [hz] at this; exact this
  refine ⟨⟨_, he, rfl⟩, h _ he (Heap.get?_push_of_some _ (Heap.get?_push_size _ B.free)) (by rw [Heap.size_push, hz]) fun b o x => Heap.get?_push_of_some _ (Heap.get?_push_of_some _ x)⟩
end
/-- the tuple at a, each item in a new pair -/
def IteT (K : PySem.W.Frag) (a : Addr) : It :=
  ⟨fun i H => ∃ (xs : List V) (x : V), SqT K H a xs ∧ xs[i]? = some x, fun i H v H' => ∃ T x, v = .ref T ∧ H T = none ∧ H' = upd H T (.tup [.int (i : Nat), x]) ∧ ∀ xs, SqT K H a xs → xs[i]? = some x, fun i H => ∃ xs : List V, SqT K H a xs ∧ xs.length ≤ i⟩
theorem turn_enumT {P : Program} {w : World} {K : PySem.W.Frag} {elts : List Expr} {kk : Nat} {tpos : Pos} (a e it : Addr) :
    Turn P w K (.Tuple elts kk tpos) (IteT K a) [e, it] e (fun i h => (∃ old, IsEnum h e it ((i : Nat) : Int) old) ∧ h.IsTupleIter it a i ∧ e ≠ it ∧ a ≠ e ∧ a ≠ it) where
  mem := by simp
  obj := fun i h st b hb => by
    obtain ⟨⟨old, he⟩, ⟨o, ho, hc, hd⟩, _⟩ := st
    have e' : b = e ∨ b = it := by simpa using hb
    rcases e' with z | z
    · rw [z]; exact ⟨_, he, fun v q => nomatch q⟩
    · rw [z]; exact ⟨o, ho, fun v q => by rw [hd] at q; cases q⟩
  keep := fun i h h' st k => let ⟨⟨old, he⟩, hi, hne⟩ := st; ⟨⟨old, k e (by simp) _ he⟩, hi.at fun o q => k it (by simp) o q, hne⟩
  item := by
    intro X hP hw hK hc i pins s σ H E I hf st hg
    subst hP hw hK
    obtain ⟨⟨old, he⟩, hit, hne, hae, hai⟩ := st
    obtain ⟨xs, x, hq, hx⟩ := hg
    obtain ⟨its, rv, p, hz⟩ := I.tuple hq
    obtain ⟨u, hu, ru⟩ := rv.get hx
    have hel : e < s.heap.objs.size := Heap.lt_size he
    have hil : it < s.heap.objs.size := by obtain ⟨_, q, _⟩ := hit; exact Heap.lt_size q
    have hlt : i < its.toArray.size := by
      have := (List.getElem?_eq_some_iff.mp hu).1
      simpa using this
    refine wpAny_pyNext_enum_itemD (Draws.tuple (A := X.A.in1) (show X.A.in1.handled = none from I.ok.hd hc) it a hai its.toArray) he ⟨hit, (show s.heap.IsTuple a its.toArray from p)⟩ hlt hne (by simp [hne, Ne.symm hae]) fun x' h' tk hx' ho hst hT hsz hk => ?_
    obtain ⟨hit', hat⟩ := hst
    have ex : x' = u := by
      have : its.toArray[i]? = some u := by simpa using hu
      rw [this] at hx'; exact (Option.some.inj hx').symm
    subst ex
    refine ⟨_, rfl, wpAny_letOwnedTupleGo_enum (s := { s with heap := h', toks := tk + 1 }) ho fun h'' he' sb => ?_⟩
    have hT2 : h''.get? s.heap.objs.size = some { cls := .type "tuple", data := .seq #[.int i tk, x'] } := (sb.2 _ (Nat.ne_of_gt hel)).trans hT
    have new : ObjOk X.prog X.w (upd H s.heap.objs.size (.tup [.int (i : Nat), x])) h'' s.heap.objs.size (.tup [.int (i : Nat), x]) :=
      ⟨by show 2 ≤ sizeLine; decide, [.int i tk, x'], .cons ⟨_, rfl⟩ (.cons ru .nil), ⟨_, hT2, rfl, _, rfl⟩⟩
    have I1 : Inv X pins σ (upd H s.heap.objs.size (.tup [.int (i : Nat), x])) { s with heap := h'', toks := tk + 1 } :=
      I.turnedNew (ch := [e, it]) (fun b ob hb q => (sb.2 b (fun z => hb (by simp [z]))).trans (hk b ob (fun z => hb (by simp [z])) (fun z => hb (by simp [z])) q)) hf (Nat.le_refl _) new
    refine ⟨.ref s.heap.objs.size, _, I1, rfl, ⟨_, x, rfl, I.hok.fresh (Nat.le_refl _), rfl, fun ys hy => by rw [I.tuple_inj hy hq]; exact hx⟩, ⟨⟨x', ?_⟩, hit'.at fun o q => (sb.2 it (Ne.symm hne)).trans q, hne, hae, hai⟩, fun b hb => ?_⟩
    · have e1 : ((i + 1 : Nat) : Int) = (i : Int) + 1 := by omega
      rw [e1]; exact he'
    · have hb' : b < s.heap.objs.size := by
        have e' : b = e ∨ b = it := by simpa using hb
        rcases e' with z | z
        · rw [z]; exact hel
        · rw [z]; exact hil
      rw [upd_ne (Nat.ne_of_lt hb')]
      exact (hf b hb).1
  done := by
    intro X hP hw hK hc i pins s σ H E I hf st hg
    subst hP hw hK
    obtain ⟨⟨old, he⟩, hit, hne, hae, hai⟩ := st
    obtain ⟨xs, hq, hx⟩ := hg
    obtain ⟨its, rv, p, hz⟩ := I.tuple hq
    obtain ⟨f0, f1, f2, f3, f4, f5⟩ := hf it (by simp)
    have hl := rv.length
    have D : Draws X.prog X.w X.A.in1 it [it, a] i (fun _ _ => False) (fun j h => j = i ∧ h.IsTupleIter it a i ∧ h.IsTuple a its.toArray) :=
      { live := fun _ _ st => let ⟨o, ho, _⟩ := st.2.1; ⟨o, ho⟩
        frame := fun _ _ _ st hk => ⟨st.1, st.2.1.at fun o e => hk it (by simp) o e, st.2.2.at fun o e => hk a (by simp) o e⟩
        item := fun j s Q E hj st _ => absurd st.1 (Nat.ne_of_lt hj)
        done := fun s Q E st hE => wpAny_nextOf_tuple_end (show X.A.in1.handled = none from I.ok.hd hc) st.2.1 st.2.2 (by simp; omega) hE }
    exact wpAny_pyNext_enum_endD D he ⟨rfl, hit, p⟩ fun h' eb => ⟨rfl, I.turned (t' := s.toks) (fun b o hb q => eb b o hb q) f0 f1 f3 f4 f5⟩
  self := fun A i s Q E st h => let ⟨⟨_, he⟩, _⟩ := st; wpAny_pyIter_enum he h
/-- enumerate of a list or a tuple -/
def iEnumA (K : PySem.W.Frag) (ta : TA) : TI := fun σ H R => ta σ H fun vs H1 => (∃ a xs, vs = [.ref a] ∧ SqL K H1 a xs ∧ R (Ite K a) H1) ∨ ∃ a xs, vs = [.ref a] ∧ SqT K H1 a xs ∧ R (IteT K a) H1
theorem pi_enumA {X : Cx} {e : Expr} {ta : TA} {p pos tpos : Pos} {elts : List Expr} {kk : Nat} (hg : Gl X "enumerate") (hm : X.mg "enumerate" = none) (ha : PA X [e] ta) (hs : starEach [e] X.env = [(false, eval e X.env)]) :
    PI X (.Tuple elts kk tpos) (.Call (.Name "enumerate" p) [e] [] pos) (iEnumA X.K ta) := by
  refine ⟨fun pins s σ H R I h => ?_⟩
  refine Call_ (ld_blt I hg hm boot_enumerate (PyProof.Rows.callWith_type1 (thn (ha.run pos pins s σ H _ I h) fun us s1 ⟨vs, H1, I1, r1, q1⟩ => ?_) hs rfl))
  rcases q1 with ⟨a, xs, ex, hq, q⟩ | ⟨a, xs, ex, hq, q⟩
  · subst ex
    cases r1 with
    | cons r rr =>
      cases rr
      cases r
      obtain ⟨its, rv, p', hz⟩ := I1.list hq
      refine call_enumerate_list p'.isList fun h' he hit hsz hk => wpAny_pyIter_enum he ?_
      have I2 : Inv X pins σ H1 { s1 with heap := h' } := I1.kept (t' := s1.toks) hk
      refine ⟨s1.heap.objs.size + 1, [s1.heap.objs.size + 1, s1.heap.objs.size], _, _, H1, rfl, I2, turn_enum a (s1.heap.objs.size + 1) s1.heap.objs.size, ⟨⟨.none, he⟩, hit, Nat.succ_ne_self _⟩, fun b hb => ?_, q⟩
      have e' : b = s1.heap.objs.size + 1 ∨ b = s1.heap.objs.size := by simpa using hb
      have hle : s1.heap.objs.size ≤ b := by
        rcases e' with z | z
        · rw [z]; exact Nat.le_add_right _ _
        · rw [z]; exact Nat.le_refl _
      exact I1.fpOk hle (I1.hok.fresh hle)
  · subst ex
    cases r1 with
    | cons r rr =>
      cases rr
      cases r
      obtain ⟨its, rv, p', hz⟩ := I1.tuple hq
      have hal : a < s1.heap.objs.size := p'.lt
      refine enum_begins1 (begins_tuple a its.toArray) p' fun h' he hit hsz hk => wpAny_pyIter_enum he ?_
      have I2 : Inv X pins σ H1 { s1 with heap := h' } := I1.kept (t' := s1.toks) hk
      refine ⟨s1.heap.objs.size + 1, [s1.heap.objs.size + 1, s1.heap.objs.size], _, _, H1, rfl, I2, turn_enumT a (s1.heap.objs.size + 1) s1.heap.objs.size, ⟨⟨.none, he⟩, ⟨_, hit, rfl, rfl⟩, Nat.succ_ne_self _, Nat.ne_of_lt (Nat.lt_succ_of_lt hal), Nat.ne_of_lt hal⟩, fun b hb => ?_, q⟩
      have e' : b = s1.heap.objs.size + 1 ∨ b = s1.heap.objs.size := by simpa using hb
      have hle : s1.heap.objs.size ≤ b := by
        rcases e' with z | z
        · rw [z]; exact Nat.le_add_right _ _
        · rw [z]; exact Nat.le_refl _
      exact I1.fpOk hle (I1.hok.fresh hle)
/-- a list or a tuple, walked -/
def iSeq (K : PySem.W.Frag) (tl : TE) : TI := fun σ H R => tl σ H fun x H1 => (∃ a, x = .ref a ∧ (∃ xs, SqL K H1 a xs) ∧ R (Itl K a) H1) ∨ ∃ a, x = .ref a ∧ (∃ xs, SqT K H1 a xs) ∧ R (Itt K a) H1
theorem pi_seq {X : Cx} {tg l : Expr} {tl : TE} (hl : PE X l tl) : PI X tg l (iSeq X.K tl) := by
  refine ⟨fun pins s σ H R I h => ?_⟩
  refine thn (hl.run pins s σ H _ I h) fun v s1 ⟨x, H1, I1, r1, q1⟩ => ?_
  rcases q1 with ⟨a, e, ⟨xs, hq⟩, q⟩ | ⟨a, e, ⟨xs, hq⟩, q⟩
  · subst e
    cases r1
    obtain ⟨its, rv, p, hz⟩ := I1.list hq
    refine wpAny_pyIter_list p.isList ?_
    refine ⟨s1.heap.objs.size, [s1.heap.objs.size], _, _, H1, rfl, I1.kept (t' := s1.toks) fun b o e => Heap.get?_push_of_some _ e, turn_list a _, ⟨_, Heap.get?_push_size _ rfl, rfl, rfl⟩, fun b hb => ?_, q⟩
    have e : b = s1.heap.objs.size := by simpa using hb
    subst e
    exact I1.fpOk (Nat.le_refl _) (I1.hok.fresh (Nat.le_refl _))
  · subst e
    cases r1
    obtain ⟨its, rv, p, hz⟩ := I1.tuple hq
    refine wpAny_pyIter_tuple (show s1.heap.IsTuple a its.toArray from p) ?_
    refine ⟨s1.heap.objs.size, [s1.heap.objs.size], _, _, H1, rfl, I1.kept (t' := s1.toks) fun b o e => Heap.get?_push_of_some _ e, turn_tuple a _, ⟨_, Heap.get?_push_size _ rfl, rfl, rfl⟩, fun b hb => ?_, q⟩
    have e : b = s1.heap.objs.size := by simpa using hb
    subst e
    exact I1.fpOk (Nat.le_refl _) (I1.hok.fresh (Nat.le_refl _))

/-! ### sources by data -/
/-- what was free stays free -/
def Lt (S0 : Addr → Prop) (H0 : Hp) (S : Addr → Prop) (H : Hp) : Prop := ∃ U : Addr → Prop, Keep U H0 H ∧ ∀ a, S0 a → (∃ o, H0 a = some o) → S a ∧ ¬ U a
theorem Lt.rp {K : PySem.W.Frag} {S0 S : Addr → Prop} {H0 H : Hp} {v : V} {d : PyData} (l : Lt S0 H0 S H) (r : Rp K S0 H0 v d) : Rp K S H v d := let ⟨_, k, f⟩ := l; r.to k f
theorem Lt.rps {K : PySem.W.Frag} {S0 S : Addr → Prop} {H0 H : Hp} {v : List V} {d : List PyData} (l : Lt S0 H0 S H) (r : Rps K S0 H0 v d) : Rps K S H v d := let ⟨_, k, f⟩ := l; r.to k f
theorem Lt.sqT {K : PySem.W.Frag} {S0 S : Addr → Prop} {H0 H : Hp} {a : Addr} {xs : List V} (l : Lt S0 H0 S H) (r : SqT K H0 a xs) : SqT K H a xs := let ⟨_, k, _⟩ := l; SqT.keep k r
theorem Lt.la {K : PySem.W.Frag} {S0 S : Addr → Prop} {H0 H : Hp} {a : Addr} {xs : List V} (l : Lt S0 H0 S H) (r : LA K S0 H0 a xs) : SqL K H a xs := by
  obtain ⟨U, k, f⟩ := l
  rcases r with ⟨s, e⟩ | z
  · exact .inl (.inl (k.k a _ e (f a s ⟨_, e⟩).2))
  · exact LA.seq (S := S) (.inr (FzL.keep k z))
structure Src (K : PySem.W.Frag) (S0 : Addr → Prop) (H0 : Hp) (J : It) (ds : List PyData) : Prop where
  ex : ∃ (G : Hp → Prop) (Y : Nat → Hp → V → Hp → Prop), Walk J ds.length G Y ∧ (∀ S H, Lt S0 H0 S H → G H) ∧
    ∀ S H i x H2, i < ds.length → Lt S0 H0 S H → Y i H x H2 → (∀ a o, H a = some o → H2 a = some o) ∧ ∃ d, ds[i]? = some d ∧ Rp K S H2 x d
theorem src_list {K : PySem.W.Frag} {S0 : Addr → Prop} {H0 : Hp} {a : Addr} {xs : List V} {ds : List PyData} (h : LA K S0 H0 a xs) (r : Rps K S0 H0 xs ds) : Src K S0 H0 (Itl K a) ds := by
  refine ⟨_, _, by rw [← r.length]; exact walk_list, fun S H l => l.la h, fun S H i x H2 hi l y => ?_⟩
  obtain ⟨rfl, hx⟩ := y
  obtain ⟨v, e, q⟩ := (l.rps r).get (List.getElem?_eq_getElem hi)
  rw [hx] at e; cases e
  exact ⟨fun _ _ e => e, _, List.getElem?_eq_getElem hi, q⟩
theorem src_tup {K : PySem.W.Frag} {S0 : Addr → Prop} {H0 : Hp} {a : Addr} {xs : List V} {ds : List PyData} (h : SqT K H0 a xs) (r : Rps K S0 H0 xs ds) : Src K S0 H0 (Itt K a) ds := by
  refine ⟨_, _, by rw [← r.length]; exact walk_tup, fun S H l => l.sqT h, fun S H i x H2 hi l y => ?_⟩
  obtain ⟨rfl, hx⟩ := y
  obtain ⟨v, e, q⟩ := (l.rps r).get (List.getElem?_eq_getElem hi)
  rw [hx] at e; cases e
  exact ⟨fun _ _ e => e, _, List.getElem?_eq_getElem hi, q⟩
theorem src_rng {K : PySem.W.Frag} {S0 : Addr → Prop} {H0 : Hp} {lo hi : Int} : Src K S0 H0 (Itr lo (hi - lo).toNat) (rngD lo hi) := by
  have e : (rngD lo hi).length = (hi - lo).toNat := by simp [rngD]
  refine ⟨_, _, by rw [e]; exact walk_range, fun _ _ _ => trivial, fun S H i x H2 hi' l y => ?_⟩
  obtain ⟨rfl, rfl⟩ := y
  rw [e] at hi'
  exact ⟨fun _ _ e => e, .int (lo + (i : Nat)), by simp [rngD, hi'], .int _⟩
theorem src_rngC {K : PySem.W.Frag} {S0 : Addr → Prop} {H0 : Hp} {lo c : Int} {n : Nat} : Src K S0 H0 (Itc lo c n) (rngC lo c n) := by
  have e : (rngC lo c n).length = n := by simp [rngC]
  refine ⟨_, _, by rw [e]; exact walk_rangeC, fun _ _ _ => trivial, fun S H i x H2 hi' l y => ?_⟩
  obtain ⟨rfl, rfl⟩ := y
  rw [e] at hi'
  exact ⟨fun _ _ e => e, .int (lo + (i : Nat) * c), by simp [rngC, hi'], .int _⟩
theorem walk_enumT {K : PySem.W.Frag} {a : Addr} {xs : List V} : Walk (IteT K a) xs.length (fun H => SqT K H a xs) (YPair (fun i => some (.int (i : Nat))) (fun i => xs[i]?)) :=
  ⟨fun i _ hi q => ⟨xs, xs[i], q, by simp [hi]⟩, fun _ q => ⟨xs, q, Nat.le_refl _⟩, fun i H x H' _ q ⟨T, y, e1, e2, e3, f⟩ => ⟨T, _, y, e1, e2, e3, rfl, f xs q⟩⟩
theorem walk_zipT {K : PySem.W.Frag} {a b : Addr} {xs ys : List V} {n : Nat} (hn : n = min xs.length ys.length) : Walk (RZ.ItzT K a b) n (fun H => SqT K H a xs ∧ SqT K H b ys) (YPair (fun i => xs[i]?) (fun i => ys[i]?)) :=
  ⟨fun i _ hi q => ⟨xs, ys, xs[i]'(by omega), ys[i]'(by omega), q.1, q.2, by simp [show i < xs.length by omega], by simp [show i < ys.length by omega]⟩, fun _ q => ⟨xs, ys, q.1, q.2, by omega⟩,
    fun i H x H' _ q ⟨T, y, z, e1, e2, e3, f, g⟩ => ⟨T, y, z, e1, e2, e3, f xs q.1, g ys q.2⟩⟩
theorem pair_rp {K : PySem.W.Frag} {S : Addr → Prop} {H H2 : Hp} {x y z : V} {d e : PyData} {T : Addr} (hT : H T = none) (e2 : H2 = upd H T (.tup [y, z])) (r1 : Rp K S H y d) (r2 : Rp K S H z e) : (∀ a o, H a = some o → H2 a = some o) ∧ Rp K S H2 (.ref T) (.tuple [d, e]) := by
  subst e2
  have k : Keep (fun _ => False) H (upd H T (.tup [y, z])) := Keep.new hT
  refine ⟨fun a o q => by rw [upd_ne (ne_of_none q hT)]; exact q, .tup (.inl (.inl upd_same)) (.cons (r1.to k fun a s _ => ⟨s, fun z => z⟩) (.cons (r2.to k fun a s _ => ⟨s, fun z => z⟩) .nil))⟩
theorem enumD_at {ds : List PyData} {i : Nat} {d : PyData} (h : ds[i]? = some d) : (enumD ds)[i]? = some (.tuple [.int (i : Nat), d]) := by
  have hl := (List.getElem?_eq_some_iff.mp h).1
  simp only [enumD, List.getElem?_map, List.getElem?_range hl, Option.map_some]
  rw [List.getD_eq_getElem?_getD, h]
  rfl
theorem src_enumL {K : PySem.W.Frag} {S0 : Addr → Prop} {H0 : Hp} {a : Addr} {xs : List V} {ds : List PyData} (h : LA K S0 H0 a xs) (r : Rps K S0 H0 xs ds) : Src K S0 H0 (Ite K a) (enumD ds) := by
  have e : (enumD ds).length = xs.length := by simp [enumD, r.length]
  refine ⟨_, _, by rw [e]; exact walk_enum, fun S H l => l.la h, fun S H i x H2 hi l y => ?_⟩
  obtain ⟨T, y1, y2, rfl, hT, e2, e3, e4⟩ := y
  dsimp only at e3 e4
  rw [e, r.length] at hi
  obtain ⟨v, e5, q⟩ := (l.rps r).get (List.getElem?_eq_getElem hi)
  rw [e4] at e5; cases e5; cases e3
  obtain ⟨f, p⟩ := pair_rp (x := y2) hT e2 (.int _) q
  exact ⟨f, _, enumD_at (List.getElem?_eq_getElem hi), p⟩
theorem src_enumT {K : PySem.W.Frag} {S0 : Addr → Prop} {H0 : Hp} {a : Addr} {xs : List V} {ds : List PyData} (h : SqT K H0 a xs) (r : Rps K S0 H0 xs ds) : Src K S0 H0 (IteT K a) (enumD ds) := by
  have e : (enumD ds).length = xs.length := by simp [enumD, r.length]
  refine ⟨_, _, by rw [e]; exact walk_enumT, fun S H l => l.sqT h, fun S H i x H2 hi l y => ?_⟩
  obtain ⟨T, y1, y2, rfl, hT, e2, e3, e4⟩ := y
  dsimp only at e3 e4
  rw [e, r.length] at hi
  obtain ⟨v, e5, q⟩ := (l.rps r).get (List.getElem?_eq_getElem hi)
  rw [e4] at e5; cases e5; cases e3
  obtain ⟨f, p⟩ := pair_rp (x := y2) hT e2 (.int _) q
  exact ⟨f, _, enumD_at (List.getElem?_eq_getElem hi), p⟩
theorem zipD_at {ds es : List PyData} {i : Nat} {d e : PyData} (h : ds[i]? = some d) (h' : es[i]? = some e) : (zipD ds es)[i]? = some (.tuple [d, e]) := by
  have hl := (List.getElem?_eq_some_iff.mp h).1
  have hl' := (List.getElem?_eq_some_iff.mp h').1
  simp only [zipD, List.getElem?_map, List.getElem?_range (show i < min ds.length es.length by omega), Option.map_some]
  rw [List.getD_eq_getElem?_getD, List.getD_eq_getElem?_getD, h, h']
  rfl
theorem src_zipL {K : PySem.W.Frag} {S0 : Addr → Prop} {H0 : Hp} {a b : Addr} {xs ys : List V} {ds es : List PyData} (h : LA K S0 H0 a xs) (r : Rps K S0 H0 xs ds) (h' : LA K S0 H0 b ys) (r' : Rps K S0 H0 ys es) : Src K S0 H0 (Itz K a b) (zipD ds es) := by
  have e : (zipD ds es).length = min xs.length ys.length := by simp [zipD, r.length, r'.length]
  refine ⟨fun H => SqL K H a xs ∧ SqL K H b ys, _, by rw [e]; exact walk_zip rfl, fun S H l => ⟨l.la h, l.la h'⟩, fun S H i x H2 hi l y => ?_⟩
  obtain ⟨T, y1, y2, rfl, hT, e2, e3, e4⟩ := y
  dsimp only at e3 e4
  rw [e, r.length, r'.length] at hi
  have h1 : i < ds.length := by omega
  have h2 : i < es.length := by omega
  obtain ⟨v, e5, q⟩ := (l.rps r).get (List.getElem?_eq_getElem h1)
  obtain ⟨v', e6, q'⟩ := (l.rps r').get (List.getElem?_eq_getElem h2)
  rw [e3] at e5; cases e5
  rw [e4] at e6; cases e6
  obtain ⟨f, p⟩ := pair_rp (x := y2) hT e2 q q'
  exact ⟨f, _, zipD_at (List.getElem?_eq_getElem h1) (List.getElem?_eq_getElem h2), p⟩
theorem src_zipT {K : PySem.W.Frag} {S0 : Addr → Prop} {H0 : Hp} {a b : Addr} {xs ys : List V} {ds es : List PyData} (h : SqT K H0 a xs) (r : Rps K S0 H0 xs ds) (h' : SqT K H0 b ys) (r' : Rps K S0 H0 ys es) : Src K S0 H0 (RZ.ItzT K a b) (zipD ds es) := by
  have e : (zipD ds es).length = min xs.length ys.length := by simp [zipD, r.length, r'.length]
  refine ⟨fun H => SqT K H a xs ∧ SqT K H b ys, _, by rw [e]; exact walk_zipT rfl, fun S H l => ⟨l.sqT h, l.sqT h'⟩, fun S H i x H2 hi l y => ?_⟩
  obtain ⟨T, y1, y2, rfl, hT, e2, e3, e4⟩ := y
  dsimp only at e3 e4
  rw [e, r.length, r'.length] at hi
  have h1 : i < ds.length := by omega
  have h2 : i < es.length := by omega
  obtain ⟨v, e5, q⟩ := (l.rps r).get (List.getElem?_eq_getElem h1)
  obtain ⟨v', e6, q'⟩ := (l.rps r').get (List.getElem?_eq_getElem h2)
  rw [e3] at e5; cases e5
  rw [e4] at e6; cases e6
  obtain ⟨f, p⟩ := pair_rp (x := y2) hT e2 q q'
  exact ⟨f, _, zipD_at (List.getElem?_eq_getElem h1) (List.getElem?_eq_getElem h2), p⟩
end PD
set_option maxRecDepth 100000
set_option autoImplicit false
/-! PD10: targets, sources, comprehensions. -/
namespace PD
variable [WW]
open PySem PySem.Spec PyProof.Rows L2
section
variable {K : PySem.W.Frag} {C : Nat → Addr} {W : WX} {B Bs : Addr → Prop} {σ σ' : L2.St} {H H' : Hp} {ρ ρ' : Env} {Q : VK} {v : V} {d : PyData} {a : Addr}

/-! ### a slot is stored -/
theorem SR.put {i : Nat} (s : SR K B σ H ρ) (hi : i < ρ.length) (r : Rp K (Free B σ ρ) H v d) : SR K B (σ.set i (some v)) H (ρ.set i (some (false, d))) ∧ ∀ a, OwnAt (σ.set i (some v)) (ρ.set i (some (false, d))) a → OwnAt σ ρ a := by
  have os : ∀ a, OwnAt (σ.set i (some v)) (ρ.set i (some (false, d))) a → OwnAt σ ρ a := fun a ⟨j, c, e1, e2⟩ => by
    by_cases h : i = j
    · subst h; rw [List.getElem?_set_self hi] at e1; cases e1
    · rw [List.getElem?_set_ne h] at e1 e2; exact ⟨j, c, e1, e2⟩
  have fr : ∀ a, Free B σ ρ a → Free B (σ.set i (some v)) (ρ.set i (some (false, d))) a := fun a f => ⟨f.1, fun z => f.2 (os a z)⟩
  have hiσ : i < σ.length := by rw [s.len]; exact hi
  refine ⟨⟨by rw [List.length_set, List.length_set]; exact s.len, s.bt, fun j c e1 => ?_, fun j c e1 => ?_, fun j k a c c' e1 e2 e3 e4 => ?_⟩, os⟩
  · by_cases h : i = j
    · subst h
      rw [List.getElem?_set_self hi] at e1
      simp only [Option.some.injEq, Prod.mk.injEq, true_and] at e1
      subst e1
      exact ⟨v, List.getElem?_set_self hiσ, r.mono fr⟩
    · rw [List.getElem?_set_ne h] at e1 ⊢
      obtain ⟨w, q, r⟩ := s.plain j c e1
      exact ⟨w, q, r.mono fr⟩
  · by_cases h : i = j
    · subst h; rw [List.getElem?_set_self hi] at e1; cases e1
    · rw [List.getElem?_set_ne h] at e1 ⊢
      obtain ⟨a, q, nb, r⟩ := s.own j c e1
      exact ⟨a, q, nb, r.mono fr⟩
  · by_cases h : i = j
    · subst h; rw [List.getElem?_set_self hi] at e1; cases e1
    · by_cases h' : i = k
      · subst h'; rw [List.getElem?_set_self hi] at e2; cases e2
      · rw [List.getElem?_set_ne h] at e1 e3
        rw [List.getElem?_set_ne h'] at e2 e4
        exact s.inj j k a _ _ e1 e2 e3 e4
theorem SR.putOwn {i : Nat} (s : SR K (Bl B a) σ H ρ) (nb : ¬ B a) (hi : i < ρ.length) (r : ORp K (Free (Bl B a) σ ρ) H a d) :
    SR K B (σ.set i (some (.ref a))) H (ρ.set i (some (true, d))) ∧ ∀ x, OwnAt (σ.set i (some (.ref a))) (ρ.set i (some (true, d))) x → OwnAt σ ρ x ∨ x = a := by
  have hiσ : i < σ.length := by rw [s.len]; exact hi
  have os : ∀ x, OwnAt (σ.set i (some (.ref a))) (ρ.set i (some (true, d))) x → OwnAt σ ρ x ∨ x = a := fun x ⟨j, c, e1, e2⟩ => by
    by_cases h : i = j
    · subst h
      rw [List.getElem?_set_self hiσ] at e2
      cases e2; exact .inr rfl
    · rw [List.getElem?_set_ne h] at e1 e2; exact .inl ⟨j, c, e1, e2⟩
  have fr : ∀ x, Free (Bl B a) σ ρ x → Free B (σ.set i (some (.ref a))) (ρ.set i (some (true, d))) x := fun x f => ⟨fun b => f.1 (.inl b), fun z => (os x z).elim f.2 fun e => f.1 (.inr e)⟩
  refine ⟨⟨by rw [List.length_set, List.length_set]; exact s.len, fun x b => s.bt x (.inl b), fun j c e1 => ?_, fun j c e1 => ?_, fun j k x c c' e1 e2 e3 e4 => ?_⟩, os⟩
  · by_cases h : i = j
    · subst h
      rw [List.getElem?_set_self hi] at e1; cases e1
    · rw [List.getElem?_set_ne h] at e1 ⊢
      obtain ⟨w, q, r⟩ := s.plain j c e1
      exact ⟨w, q, r.mono fr⟩
  · by_cases h : i = j
    · subst h
      rw [List.getElem?_set_self hi] at e1
      simp only [Option.some.injEq, Prod.mk.injEq, true_and] at e1
      subst e1
      exact ⟨a, List.getElem?_set_self hiσ, nb, r.mono fr⟩
    · rw [List.getElem?_set_ne h] at e1 ⊢
      obtain ⟨x, q, nb, r⟩ := s.own j c e1
      exact ⟨x, q, fun b => nb (.inl b), r.mono fr⟩
  · have key : ∀ {j : Nat} {c : PyData} {x : Addr}, i ≠ j → ρ[j]? = some (some (true, c)) → σ[j]? = some (some (V.ref x)) → x ≠ a := fun {j c x} _ e1 e2 e => by
      subst e
      exact s.ownNot ⟨j, c, e1, e2⟩
    by_cases h : i = j
    · by_cases h' : i = k
      · rw [← h, h']
      · subst h
        rw [List.getElem?_set_self hiσ] at e3
        rw [List.getElem?_set_ne h'] at e2 e4
        cases e3
        exact absurd rfl (key h' e2 e4)
    · by_cases h' : i = k
      · subst h'
        rw [List.getElem?_set_self hiσ] at e4
        rw [List.getElem?_set_ne h] at e1 e3
        cases e4
        exact absurd rfl (key h e1 e3)
      · rw [List.getElem?_set_ne h] at e1 e3
        rw [List.getElem?_set_ne h'] at e2 e4
        exact s.inj j k x _ _ e1 e2 e3 e4

/-! ### targets -/
mutual
def tgS : Tg → List Nat
  | .nm i => [i]
  | .tp ts => tgsS ts
def tgsS : List Tg → List Nat
  | [] => []
  | t :: ts => tgS t ++ tgsS ts
end
/-- as they were but at these slots -/
structure Same2 (σ σ' : L2.St) (ρ ρ' : Env) (l : List Nat) : Prop where
  ls : σ'.length = σ.length
  lr : ρ'.length = ρ.length
  s : ∀ j, j ∉ l → σ'[j]? = σ[j]?
  r : ∀ j, j ∉ l → ρ'[j]? = ρ[j]?
/-- a target's reading -/
def GD (K : PySem.W.Frag) (lk : List Nat) (g : TG) (t : Tg) : Prop := ∀ (B : Addr → Prop) (σ : L2.St) (H : Hp) (ρ ρ' : Env) (v : V) (d : PyData) (Q : L2.St → Hp → Prop), SR K B σ H ρ → Rp K (Free B σ ρ) H v d → asgT lk t d ρ = some ρ' →
  (∀ σ', SR K B σ' H ρ' → (∀ a, OwnAt σ' ρ' a → OwnAt σ ρ a) → Same2 σ σ' ρ ρ' (tgS t) → (∀ i ∈ tgS t, i ∉ lk) → Q σ' H) → g v σ H Q
def GsD (K : PySem.W.Frag) (lk : List Nat) (g : TGs) (ts : List Tg) : Prop := ∀ (B : Addr → Prop) (σ : L2.St) (H : Hp) (ρ ρ' : Env) (vs : List V) (ds : List PyData) (Q : L2.St → Hp → Prop), SR K B σ H ρ → Rps K (Free B σ ρ) H vs ds → asgTs lk ts ds ρ = some ρ' →
  (∀ σ', SR K B σ' H ρ' → (∀ a, OwnAt σ' ρ' a → OwnAt σ ρ a) → Same2 σ σ' ρ ρ' (tgsS ts) → (∀ i ∈ tgsS ts, i ∉ lk) → Q σ' H) → g vs σ H Q
theorem gd_nm {lk : List Nat} (i : Nat) : GD K lk (gName i) (.nm i) := by
  intro B σ H ρ ρ' v d Q s r e q
  simp only [asgT] at e
  split at e
  · cases e
  · rename_i h
    simp only [Option.some.injEq] at e
    subst e
    have h1 : i ∉ lk := fun z => h (.inl z)
    have h2 : i < ρ.length := Decidable.byContradiction fun z => h (.inr z)
    obtain ⟨s', os⟩ := s.put h2 r
    exact q _ s' os ⟨by rw [List.length_set], by rw [List.length_set], fun j hj => List.getElem?_set_ne (by simp [tgS] at hj; exact fun z => hj z.symm), fun j hj => List.getElem?_set_ne (by simp [tgS] at hj; exact fun z => hj z.symm)⟩ fun j hj => by
      simp only [tgS, List.mem_singleton] at hj; subst hj; exact h1
theorem gd_nil {lk : List Nat} : GsD K lk gNil [] := by
  intro B σ H ρ ρ' vs ds Q s r e q
  cases ds with
  | nil =>
    simp only [asgTs, Option.some.injEq] at e
    subst e
    cases r
    exact ⟨rfl, q σ s (fun _ z => z) ⟨rfl, rfl, fun _ _ => rfl, fun _ _ => rfl⟩ fun i hi => by simp [tgsS] at hi⟩
  | cons _ _ => simp [asgTs] at e
theorem gd_cons {lk : List Nat} {g : TG} {gs : TGs} {t : Tg} {ts : List Tg} (h : GD K lk g t) (hs : GsD K lk gs ts) : GsD K lk (gCons g gs) (t :: ts) := by
  intro B σ H ρ ρ' vs ds Q s r e q
  cases ds with
  | nil => simp [asgTs] at e
  | cons d ds =>
    cases r with
    | cons r1 r2 =>
      simp only [asgTs] at e
      split at e
      · rename_i ρ1 e1
        refine ⟨_, _, rfl, h B σ H ρ ρ1 _ d _ s r1 e1 fun σ1 s1 o1 m1 n1 => ?_⟩
        refine hs B σ1 H ρ1 ρ' _ ds _ s1 (r2.mono fun a f => ⟨f.1, fun z => f.2 (o1 a z)⟩) e fun σ2 s2 o2 m2 n2 => ?_
        refine q σ2 s2 (fun a z => o1 a (o2 a z)) ⟨m2.ls.trans m1.ls, m2.lr.trans m1.lr, fun j hj => ?_, fun j hj => ?_⟩ fun i hi => ?_
        · simp only [tgsS, List.mem_append, not_or] at hj
          exact (m2.s j hj.2).trans (m1.s j hj.1)
        · simp only [tgsS, List.mem_append, not_or] at hj
          exact (m2.r j hj.2).trans (m1.r j hj.1)
        · simp only [tgsS, List.mem_append] at hi
          exact hi.elim (n1 i) (n2 i)
      · cases e
theorem asgTs_len {lk : List Nat} : ∀ {ts : List Tg} {ds : List PyData} {ρ ρ' : Env}, asgTs lk ts ds ρ = some ρ' → ds.length = ts.length
  | [], [], _, _, _ => rfl
  | [], _ :: _, _, _, h => by simp [asgTs] at h
  | _ :: _, [], _, _, h => by simp [asgTs] at h
  | t :: ts, d :: ds, ρ, ρ', h => by
    simp only [asgTs] at h
    split at h
    · rw [List.length_cons, List.length_cons, asgTs_len h]
    · cases h
theorem gd_tup {lk : List Nat} {gs : TGs} {ts : List Tg} (h : GsD K lk gs ts) : GD K lk (gTup K ts.length gs) (.tp ts) := by
  intro B σ H ρ ρ' v d Q s r e q
  cases d with
  | tuple ds =>
    simp only [asgT] at e
    cases r with
    | tup h1 h2 => exact ⟨_, _, rfl, h1, by rw [h2.length, asgTs_len e], h B σ H ρ ρ' _ ds Q s h2 e fun σ' s' o m n => q σ' s' o m n⟩
  | _ => simp [asgT] at e

/-! ### sources -/
def GoodS (K : PySem.W.Frag) (C : Nat → Addr) (W : WX) (B : Addr → Prop) (σ : L2.St) (H : Hp) (ρ : Env) (out : Rs (List PyData)) (R : It → Hp → Prop) : Prop := match out with
  | .ok ds ρ' => ∀ J H', Keep (OwnAt σ ρ) H H' → OSub σ ρ' ρ → Ext ρ ρ' → SR K B σ H' ρ' → Src K (Free B σ ρ') H' J ds → R J H'
  | .exc c d ρ' => ∀ dd H', Keep (OwnAt σ ρ) H H' → OSub σ ρ' ρ → SR K B σ H' ρ' → ExcAt K H' B σ ρ' d dd → W (.ref (C c)) (some dd) σ H'
  | .no => False
def SD (K : PySem.W.Frag) (C : Nat → Addr) (W : WX) (wi : TI) (f : Env → Rs (List PyData)) : Prop := ∀ B σ H ρ R, SR K B σ H ρ → GoodS K C W B σ H ρ (f ρ) R → wi σ H R
theorem GoodS.step {H1 : Hp} {ρ1 : Env} {out : Rs (List PyData)} {R : It → Hp → Prop} (g : GoodS K C W B σ H ρ out R) (k : Keep (OwnAt σ ρ) H H1) (o : OSub σ ρ1 ρ) (x : Ext ρ ρ1) : GoodS K C W B σ H1 ρ1 out R := by
  cases out with
  | ok r ρ' => exact fun J H' k' o' x' s r => g J H' (k.then o k') (o.trans o') (x.trans x') s r
  | exc c d ρ' => exact fun dd H' k' o' s e => g dd H' (k.then o k') (o.trans o') s e
  | no => exact g
theorem ED.bindS {t : TE} {f : Env → Rs Rv} (h : ED K C W t f) (s : SR K B σ H ρ) {g : Rv → Env → Rs (List PyData)} {Q' : VK} {R : It → Hp → Prop} (hg : GoodS K C W B σ H ρ ((f ρ).bind g) R)
    (hok : ∀ r ρ' v H', Keep (OwnAt σ ρ) H H' → OSub σ ρ' ρ → Ext ρ ρ' → Fr H v r → ResR K B σ H' ρ' v r → GoodS K C W B σ H' ρ' (g r ρ') R → Q' v H') : t σ H Q' :=
  h.bind s (fun out => GoodS K C W B σ H ρ out R) (fun z => z) (fun _ _ _ z => z) hg fun r ρ' v H' _ gg k o x f rr => hok r ρ' v H' k o x f rr (gg.step k o x)
theorem GoodS.give {ds : List PyData} {R : It → Hp → Prop} {J : It} (g : GoodS K C W B σ H ρ (.ok ds ρ) R) (s : SR K B σ H ρ) (r : Src K (Free B σ ρ) H J ds) : R J H := g J H (Keep.refl _ _) (OSub.refl _ _) (Ext.refl _) s r
theorem sd_seq {t : TE} {f : Env → Rs Rv} {lk : List Nat} (h : ED K C W t f) : SD K C W (iSeq K t) fun ρ => (f ρ).bind fun x ρ1 => (keepV lk x ρ1).bind fun d ρ2 => match d with
    | .list ds => .ok ds ρ2
    | .tuple ds => .ok ds ρ2
    | _ => .no := by
  intro B σ H ρ R s hg
  refine h.bindS s hg fun x ρ1 v H1 k1 o1 x1 f1 r1 g1 => ?_
  rcases keepV_cases lk x ρ1 with ⟨d, ρ2, e⟩ | e
  · rw [e, Rs.bind_ok] at g1
    obtain ⟨s2, r2, os, ex⟩ := keepV_ok r1.sr r1.op e
    have g2 := g1.step (ρ1 := ρ2) (Keep.refl _ _) os ex
    cases d with
    | list ds =>
      cases r2 with
      | lst h1 h2 => exact .inl ⟨_, rfl, ⟨_, h1.seq⟩, g2.give s2 (src_list h1 h2)⟩
    | tuple ds =>
      cases r2 with
      | tup h1 h2 => exact .inr ⟨_, rfl, ⟨_, h1⟩, g2.give s2 (src_tup h1 h2)⟩
    | _ => exact g2.elim
  · rw [e] at g1; exact g1.elim
theorem sd_rng1 {t : TE} {f : Env → Rs Rv} (h : ED K C W t f) : SD K C W (iRng1 (tCons t tNil)) fun ρ => (f ρ).bind fun x ρ1 => match x with
    | .val (.int i) => if rngOk i then .ok (rngD 0 i) ρ1 else .no
    | _ => .no := by
  intro B σ H ρ R s hg
  refine h.bindS s hg fun x ρ1 v H1 k1 o1 x1 f1 r1 g1 => ?_
  split at g1
  · rename_i i
    split at g1
    · rename_i hi
      have e := r1.2
      cases e
      simp only [rngOk_eq, Bool.and_eq_true, decide_eq_true_eq] at hi
      refine ⟨i, rfl, hi.1, hi.2, ?_⟩
      have := g1.give (J := Itr 0 (i - 0).toNat) r1.1 src_rng
      rw [Int.sub_zero] at this
      exact this
    · exact g1.elim
  · exact g1.elim
theorem sd_rng2 {ta tb : TE} {fa fb : Env → Rs Rv} (ha : ED K C W ta fa) (hb : ED K C W tb fb) : SD K C W (iRng2 (tCons ta (tCons tb tNil))) fun ρ => (fa ρ).bind fun x ρ1 => (fb ρ1).bind fun y ρ2 => match x, y with
    | .val (.int i), .val (.int j) => if rngOk i && rngOk j then .ok (rngD i j) ρ2 else .no
    | _, _ => .no := by
  intro B σ H ρ R s hg
  refine ha.bindS s hg fun x ρ1 v H1 k1 o1 x1 f1 r1 g1 => ?_
  refine hb.bindS r1.sr g1 fun y ρ2 u H2 k2 o2 x2 f2 r2 g2 => ?_
  split at g2
  · rename_i i j
    split at g2
    · rename_i hi
      have e1 := r1.2
      have e2 := r2.2
      cases e1; cases e2
      simp only [rngOk_eq, Bool.and_eq_true, decide_eq_true_eq] at hi
      exact ⟨i, j, rfl, ⟨hi.1.1, hi.1.2, hi.2.1, hi.2.2⟩, g2.give r2.1 src_rng⟩
    · exact g2.elim
  · exact g2.elim
theorem sd_rng3 {ta tb tc : TE} {fa fb fc : Env → Rs Rv} (ha : ED K C W ta fa) (hb : ED K C W tb fb) (hc : ED K C W tc fc) : SD K C W (iRng3 (tCons ta (tCons tb (tCons tc tNil)))) fun ρ => (fa ρ).bind fun x ρ1 => (fb ρ1).bind fun y ρ2 => (fc ρ2).bind fun z ρ3 => match x, y, z with
    | .val (.int i), .val (.int j), .val (.int k) => if rngOk i && rngOk j && k == -1 then .ok (rngC i (-1) (i - j).toNat) ρ3 else .no
    | _, _, _ => .no := by
  intro B σ H ρ R s hg
  refine ha.bindS s hg fun x ρ1 v H1 k1 o1 x1 f1 r1 g1 => ?_
  refine hb.bindS r1.sr g1 fun y ρ2 u H2 k2 o2 x2 f2 r2 g2 => ?_
  refine hc.bindS r2.sr g2 fun z ρ3 w H3 k3 o3 x3 f3 r3 g3 => ?_
  split at g3
  · rename_i i j k
    split at g3
    · rename_i hi
      have e1 := r1.2
      have e2 := r2.2
      have e3 := r3.2
      cases e1; cases e2; cases e3
      simp only [rngOk_eq, Bool.and_eq_true, decide_eq_true_eq, beq_iff_eq] at hi
      obtain ⟨⟨h1, h2⟩, rfl⟩ := hi
      exact ⟨i, j, -1, (i - j).toNat, rfl, RgC.neg h1.1 h1.2 h2.1 h2.2, g3.give r3.1 src_rngC⟩
    · exact g3.elim
  · exact g3.elim
theorem sd_enum {t : TE} {f : Env → Rs Rv} {lk : List Nat} (h : ED K C W t f) : SD K C W (iEnumA K (tCons t tNil)) fun ρ => (f ρ).bind fun x ρ1 => (keepV lk x ρ1).bind fun d ρ2 => match d with
    | .list ds => .ok (enumD ds) ρ2
    | .tuple ds => .ok (enumD ds) ρ2
    | _ => .no := by
  intro B σ H ρ R s hg
  refine h.bindS s hg fun x ρ1 v H1 k1 o1 x1 f1 r1 g1 => ?_
  rcases keepV_cases lk x ρ1 with ⟨d, ρ2, e⟩ | e
  · rw [e, Rs.bind_ok] at g1
    obtain ⟨s2, r2, os, ex⟩ := keepV_ok r1.sr r1.op e
    have g2 := g1.step (ρ1 := ρ2) (Keep.refl _ _) os ex
    cases d with
    | list ds =>
      cases r2 with
      | lst h1 h2 => exact .inl ⟨_, _, rfl, h1.seq, g2.give s2 (src_enumL h1 h2)⟩
    | tuple ds =>
      cases r2 with
      | tup h1 h2 => exact .inr ⟨_, _, rfl, h1, g2.give s2 (src_enumT h1 h2)⟩
    | _ => exact g2.elim
  · rw [e] at g1; exact g1.elim
theorem sd_zip {ta tb : TE} {fa fb : Env → Rs Rv} {lk : List Nat} (ha : ED K C W ta fa) (hb : ED K C W tb fb) : SD K C W (RZ.iZipA K (tCons ta (tCons tb tNil))) fun ρ => (fa ρ).bind fun x ρ1 => (fb ρ1).bind fun y ρ2 => (keepV lk x ρ2).bind fun d ρ3 => (keepV lk y ρ3).bind fun e ρ4 => match d, e with
    | .list ds, .list es => .ok (zipD ds es) ρ4
    | .tuple ds, .tuple es => .ok (zipD ds es) ρ4
    | _, _ => .no := by
  intro B σ H ρ R s hg
  refine ha.bindS s hg fun x ρ1 v H1 k1 o1 x1 f1 r1 g1 => ?_
  refine hb.bindS r1.sr g1 fun y ρ2 u H2 k2 o2 x2 f2 r2 g2 => ?_
  have p1 := r1.op.stay k2 o2 x2
  rcases keepV_cases lk x ρ2 with ⟨d, ρ3, e⟩ | e
  · rw [e, Rs.bind_ok] at g2
    obtain ⟨s3, r3, os3, ex3⟩ := keepV_ok r2.sr p1 e
    have p2 := r2.op.stay (Keep.refl _ _) os3 ex3
    rcases keepV_cases lk y ρ3 with ⟨d', ρ4, e'⟩ | e'
    · rw [e', Rs.bind_ok] at g2
      obtain ⟨s4, r4, os4, ex4⟩ := keepV_ok s3 p2 e'
      have g3 := g2.step (ρ1 := ρ4) (Keep.refl _ _) (os3.trans os4) (ex3.trans ex4)
      have r3' := r3.stay (Keep.refl _ _) os4
      cases d with
      | list ds =>
        cases d' with
        | list es =>
          cases r3' with
          | lst h1 h2 =>
            cases r4 with
            | lst h3 h4 => exact ⟨_, _, _, _, rfl, .inl ⟨h1.seq, h3.seq, g3.give s4 (src_zipL h1 h2 h3 h4)⟩⟩
        | _ => exact g3.elim
      | tuple ds =>
        cases d' with
        | tuple es =>
          cases r3' with
          | tup h1 h2 =>
            cases r4 with
            | tup h3 h4 => exact ⟨_, _, _, _, rfl, .inr ⟨h1, h3, g3.give s4 (src_zipT h1 h2 h3 h4)⟩⟩
        | _ => exact g3.elim
      | _ => cases d' <;> exact g3.elim
    · rw [e'] at g2; exact g2.elim
  · rw [e] at g2; exact g2.elim

/-! ### the comprehension's own slots -/
theorem wipe_out {σ : L2.St} : ∀ {vs : List Nat} {j : Nat}, j ∉ vs → (wipe σ vs)[j]? = σ[j]?
  | [], _, _ => rfl
  | v :: vs, j, h => by
    simp only [List.mem_cons, not_or] at h
    unfold wipe
    rw [List.getElem?_set_ne (Ne.symm h.1)]
    exact wipe_out h.2
theorem wipeE_len {ρ : Env} : ∀ vs : List Nat, (wipeE ρ vs).length = ρ.length
  | [] => rfl
  | v :: vs => by unfold wipeE; rw [List.length_set, wipeE_len vs]
theorem wipeE_out {ρ : Env} : ∀ {vs : List Nat} {j : Nat}, j ∉ vs → (wipeE ρ vs)[j]? = ρ[j]?
  | [], _, _ => rfl
  | v :: vs, j, h => by
    simp only [List.mem_cons, not_or] at h
    unfold wipeE
    rw [List.getElem?_set_ne (Ne.symm h.1)]
    exact wipeE_out h.2
theorem wipeE_in {ρ : Env} : ∀ {vs : List Nat} {j : Nat} {x : Bool × PyData}, j ∈ vs → (wipeE ρ vs)[j]? ≠ some (some x)
  | v :: vs, j, x, h => by
    unfold wipeE
    by_cases e : v = j
    · subst e
      by_cases hl : v < (wipeE ρ vs).length
      · rw [List.getElem?_set_self hl]; intro z; cases z
      · rw [List.getElem?_eq_none (by simpa using hl)]; intro z; cases z
    · rw [List.getElem?_set_ne e]
      exact wipeE_in ((List.mem_cons.mp h).resolve_left (Ne.symm e))
theorem backE_len {ρ0 ρ : Env} : ∀ vs : List Nat, (backE ρ0 ρ vs).length = ρ.length
  | [] => rfl
  | v :: vs => by unfold backE; rw [List.length_set, backE_len vs]
theorem backE_out {ρ0 ρ : Env} : ∀ {vs : List Nat} {j : Nat}, j ∉ vs → (backE ρ0 ρ vs)[j]? = ρ[j]?
  | [], _, _ => rfl
  | v :: vs, j, h => by
    simp only [List.mem_cons, not_or] at h
    unfold backE
    rw [List.getElem?_set_ne (Ne.symm h.1)]
    exact backE_out h.2
theorem backE_in {ρ0 ρ : Env} (hl : ρ.length = ρ0.length) : ∀ {vs : List Nat} {j : Nat}, j ∈ vs → (backE ρ0 ρ vs)[j]? = ρ0[j]?
  | v :: vs, j, h => by
    unfold backE
    by_cases e : v = j
    · subst e
      by_cases hv : v < ρ0.length
      · rw [List.getElem?_set_self (by rw [backE_len, hl]; exact hv), List.getElem?_eq_getElem hv]; rfl
      · rw [List.getElem?_eq_none (by rw [List.length_set, backE_len, hl]; omega), List.getElem?_eq_none (by omega)]
    · rw [List.getElem?_set_ne e]
      exact backE_in hl ((List.mem_cons.mp h).resolve_left (Ne.symm e))
theorem SR.wiped {vs : List Nat} (s : SR K B σ H ρ) : SR K B (wipe σ vs) H (wipeE ρ vs) ∧ ∀ a, OwnAt (wipe σ vs) (wipeE ρ vs) a → OwnAt σ ρ a := by
  have os : ∀ a, OwnAt (wipe σ vs) (wipeE ρ vs) a → OwnAt σ ρ a := fun a ⟨j, c, e1, e2⟩ => by
    by_cases h : j ∈ vs
    · exact absurd e1 (wipeE_in h)
    · rw [wipeE_out h] at e1; rw [wipe_out h] at e2; exact ⟨j, c, e1, e2⟩
  have fr : ∀ a, Free B σ ρ a → Free B (wipe σ vs) (wipeE ρ vs) a := fun a f => ⟨f.1, fun z => f.2 (os a z)⟩
  refine ⟨⟨by rw [wipe_length, wipeE_len]; exact s.len, s.bt, fun j c e1 => ?_, fun j c e1 => ?_, fun j k a c c' e1 e2 e3 e4 => ?_⟩, os⟩
  · by_cases h : j ∈ vs
    · exact absurd e1 (wipeE_in h)
    · rw [wipeE_out h] at e1; rw [wipe_out h]
      obtain ⟨w, q, r⟩ := s.plain j c e1
      exact ⟨w, q, r.mono fr⟩
  · by_cases h : j ∈ vs
    · exact absurd e1 (wipeE_in h)
    · rw [wipeE_out h] at e1; rw [wipe_out h]
      obtain ⟨a, q, nb, r⟩ := s.own j c e1
      exact ⟨a, q, nb, r.mono fr⟩
  · by_cases h : j ∈ vs
    · exact absurd e1 (wipeE_in h)
    · by_cases h' : k ∈ vs
      · exact absurd e2 (wipeE_in h')
      · rw [wipeE_out h] at e1; rw [wipe_out h] at e3; rw [wipeE_out h'] at e2; rw [wipe_out h'] at e4
        exact s.inj j k a _ _ e1 e2 e3 e4
end
end PD
set_option maxRecDepth 100000
set_option autoImplicit false
/-! PD11: comprehensions. -/
namespace PD
variable [WW]
open PySem PySem.Spec PyProof.Rows L2
section
variable {K : PySem.W.Frag} {C : Nat → Addr} {W : WX} {B : Addr → Prop} {σ : L2.St} {H : Hp} {ρ : Env} {Q : VK}
theorem compL_cases {lk own : List Nat} {ρ0 : Env} {t : Tg} {c : Env → Rs Bool} {e : Env → Rs Rv} : ∀ (ds acc : List PyData) (ρ : Env), (∃ ys ρ', compL lk own ρ0 t c e ds acc ρ = .ok ys ρ') ∨ compL lk own ρ0 t c e ds acc ρ = .no
  | [], acc, ρ => .inl ⟨acc, ρ, rfl⟩
  | d :: ds, acc, ρ => by
    simp only [compL]
    split
    · exact .inr rfl
    · split
      · exact compL_cases ds acc _
      · split
        · split
          · split
            · exact compL_cases ds _ _
            · exact .inr rfl
          · exact .inr rfl
        · exact .inr rfl
      · exact .inr rfl
def W0 : WX := fun _ _ _ _ => False
/-- a comprehension's loop, from any list -/
theorem lc_from {K : PySem.W.Frag} {J : It} {n : Nat} {G : Hp → Prop} {Y : Nat → Hp → V → Hp → Prop} (w : Walk J n G Y) {g : TG} {tt : TT} {te : TE} {vs : List Nat} {σ : L2.St} {H1 : Hp} {D : Addr} {Qd : Hp → Prop} (Pv : Nat → Hp → Prop) (h0 : Pv 0 H1) (hG : ∀ i H, i ≤ n → Pv i H → G H)
    (hs : ∀ i x H H', i < n → Pv i H → Y i H x H' → g x (wipe σ vs) H' fun σ2 H2 => wipe σ2 vs = wipe σ vs ∧ tt σ2 H2 fun b H3 =>
      if b = true then te σ2 H3 fun y H4 => ∃ acc, H4 D = some (.lst acc) ∧ acc.length < sizeLine ∧ Pv (i + 1) (upd H4 D (.lst (acc ++ [y]))) else Pv (i + 1) H3) (hd : ∀ H, Pv n H → Qd H) :
    ∃ W : Nat → Nat → Hp → Prop, (∃ m, W 0 m H1) ∧ ∀ i m H, W i m H →
      (J.stop i H ∧ Qd H) ∨ (J.go i H ∧ ∃ Nx : Hp → Prop, (∀ H', Nx H' → ∃ m', m' < m ∧ W (i + 1) m' H') ∧ ∀ x H', J.yld i H x H' → g x (wipe σ vs) H' fun σ2 H2 => wipe σ2 vs = wipe σ vs ∧ tt σ2 H2 fun b H3 =>
        if b = true then te σ2 H3 fun y H4 => ∃ acc, H4 D = some (.lst acc) ∧ acc.length < sizeLine ∧ Nx (upd H4 D (.lst (acc ++ [y]))) else Nx H3) := by
  refine ⟨fun i m H => m = n - i ∧ i ≤ n ∧ Pv i H, ⟨n, by simp, Nat.zero_le _, h0⟩, ?_⟩
  rintro i m H ⟨em, hi, p⟩
  subst em
  have q := hG i H hi p
  by_cases hlt : i < n
  · exact .inr ⟨w.goes i H hlt q, Pv (i + 1), fun H' p' => ⟨n - (i + 1), by omega, rfl, hlt, p'⟩, fun x H' y => hs i x H H' hlt p (w.yields i H x H' hlt q y)⟩
  · have e : i = n := by omega
    subst e
    exact .inl ⟨w.stops H q, hd H p⟩
abbrev OwnD (σ : L2.St) (ρ : Env) (D : Addr) : Addr → Prop := fun a => OwnAt σ ρ a ∨ a = D
/-- two clauses: the outer loop, what a turn does left open -/
theorem lc2_from {J : It} {n : Nat} {G : Hp → Prop} {Y : Nat → Hp → V → Hp → Prop} (w : Walk J n G Y) {H1 : Hp} {Qd : Hp → Prop} {F : V → Hp → (Hp → Prop) → Prop} (Pv : Nat → Hp → Prop) (h0 : Pv 0 H1) (hG : ∀ i H, i ≤ n → Pv i H → G H)
    (hs : ∀ i x H H', i < n → Pv i H → Y i H x H' → F x H' (Pv (i + 1))) (hd : ∀ H, Pv n H → Qd H) :
    ∃ W : Nat → Nat → Hp → Prop, (∃ m, W 0 m H1) ∧ ∀ i m H, W i m H →
      (J.stop i H ∧ Qd H) ∨ (J.go i H ∧ ∃ Nx : Hp → Prop, (∀ H', Nx H' → ∃ m', m' < m ∧ W (i + 1) m' H') ∧ ∀ x H', J.yld i H x H' → F x H' Nx) := by
  refine ⟨fun i m H => m = n - i ∧ i ≤ n ∧ Pv i H, ⟨n, by simp, Nat.zero_le _, h0⟩, ?_⟩
  rintro i m H ⟨em, hi, p⟩
  subst em
  have q := hG i H hi p
  by_cases hlt : i < n
  · exact .inr ⟨w.goes i H hlt q, Pv (i + 1), fun H' p' => ⟨n - (i + 1), by omega, rfl, hlt, p'⟩, fun x H' y => hs i x H H' hlt p (w.yields i H x H' hlt q y)⟩
  · have e : i = n := by omega
    subst e
    exact .inl ⟨w.stops H q, hd H p⟩
/-- the slots wiped again -/
theorem wipe_same {own : List Nat} {σ σa : L2.St} (hl : σa.length = σ.length) (sgo : ∀ j, j ∉ own → σa[j]? = σ[j]?) : wipe σa own = wipe σ own := by
  refine List.ext_getElem? fun j => ?_
  by_cases hj : j ∈ own
  · have h1 : ∀ (τ : L2.St), τ.length = σ.length → (wipe τ own)[j]? = if j < σ.length then some none else none := by
      intro τ hl
      have gen : ∀ (vs : List Nat), j ∈ vs → (wipe τ vs)[j]? = if j < σ.length then some none else none := by
        intro vs
        induction vs with
        | nil => intro h; cases h
        | cons v vs ih =>
          intro h
          unfold wipe
          by_cases e : v = j
          · subst e
            split
            · rw [List.getElem?_set_self (by rw [wipe_length, hl]; assumption)]
            · rw [List.getElem?_eq_none (by rw [List.length_set, wipe_length, hl]; omega)]
          · rw [List.getElem?_set_ne e]
            exact ih ((List.mem_cons.mp h).resolve_left (Ne.symm e))
      exact gen own hj
    rw [h1 σa hl, h1 σ rfl]
  · rw [wipe_out hj, wipe_out hj, sgo j hj]
/-- from a turn's end back to the outer slots -/
theorem comp_back {own : List Nat} {σa : L2.St} {ρ1 ρc ρa : Env} {Hc H2 : Hp} {D : Addr} (npl : ∀ j ∈ own, ∀ z, ρc[j]? ≠ some (some (true, z))) (fc : ∀ j ∈ own, ρc[j]? = ρ1[j]?) (lc : ρc.length = ρ1.length) (sc : SR K (Bl B D) σ Hc ρc)
    (grow : ∀ a o, Hc a = some o → H2 a = some o) (sl : σa.length = σ.length) (sgo : ∀ j, j ∉ own → σa[j]? = σ[j]?) (oA : ∀ a, OwnAt σa ρa a → OwnAt σ ρc a) (mr : ∀ j, j ∉ own → ρa[j]? = ρc[j]?) (xc : Ext ρ1 ρc)
    {ρ4 : Env} {H4 : Hp} (s4 : SR K (Bl B D) σa H4 ρ4) (k4 : Keep (OwnD σa ρa D) H2 H4) (o4 : OSub σa ρ4 ρa) (x4 : Ext ρa ρ4) :
    SR K (Bl B D) σ H4 (backE ρ1 ρ4 own) ∧ OSub σ (backE ρ1 ρ4 own) ρc ∧ Ext ρ1 (backE ρ1 ρ4 own) ∧ Keep (OwnD σ ρc D) Hc H4 ∧
      (backE ρ1 ρ4 own).length = ρ1.length ∧ (∀ j ∈ own, (backE ρ1 ρ4 own)[j]? = ρ1[j]?) ∧ (∀ a, OwnAt σ (backE ρ1 ρ4 own) a → OwnAt σa ρ4 a) := by
  have l4 : ρ4.length = ρ1.length := by rw [← s4.len, sl, sc.len, lc]
  have toA : ∀ a, OwnAt σ (backE ρ1 ρ4 own) a → OwnAt σa ρ4 a := fun a ⟨j, z, e1, e2⟩ => by
    by_cases hj : j ∈ own
    · rw [backE_in l4 hj, ← fc j hj] at e1
      exact absurd e1 (npl j hj z)
    · rw [backE_out hj] at e1
      exact ⟨j, z, e1, by rw [sgo j hj]; exact e2⟩
  have os : OSub σ (backE ρ1 ρ4 own) ρc := fun a z => oA a (o4 a (toA a z))
  have kk : Keep (OwnD σ ρc D) Hc H4 := (Keep.ex grow).trans (k4.mono fun a z => z.imp (oA a) id) fun a u => .inl u
  have fr4 : ∀ a, Free (Bl B D) σa ρ4 a → Free (Bl B D) σ (backE ρ1 ρ4 own) a := fun a f => ⟨f.1, fun z => f.2 (toA a z)⟩
  have frc : ∀ a, Free (Bl B D) σ ρc a → (∃ o, Hc a = some o) → Free (Bl B D) σ (backE ρ1 ρ4 own) a ∧ ¬ OwnD σ ρc D a := fun a f _ => ⟨⟨f.1, fun z => f.2 (os a z)⟩, fun z => z.elim f.2 fun z => f.1 (.inr z)⟩
  refine ⟨⟨by rw [backE_len, l4, ← lc]; exact sc.len, s4.bt, fun j z e1 => ?_, fun j z e1 => ?_, fun j k a z z' e1 e2 e3 e4 => ?_⟩, os, fun j m z e1 => ?_, kk, by rw [backE_len, l4], fun j hj => backE_in l4 hj, toA⟩
  · by_cases hj : j ∈ own
    · rw [backE_in l4 hj, ← fc j hj] at e1
      obtain ⟨w, q, r⟩ := sc.plain j z e1
      exact ⟨w, q, r.to kk frc⟩
    · rw [backE_out hj] at e1
      obtain ⟨w, q, r⟩ := s4.plain j z e1
      rw [sgo j hj] at q
      exact ⟨w, q, r.mono fr4⟩
  · by_cases hj : j ∈ own
    · rw [backE_in l4 hj, ← fc j hj] at e1
      exact absurd e1 (npl j hj z)
    · rw [backE_out hj] at e1
      obtain ⟨a, q, nb, r⟩ := s4.own j z e1
      rw [sgo j hj] at q
      exact ⟨a, q, nb, r.mono fr4⟩
  · by_cases hj : j ∈ own
    · rw [backE_in l4 hj, ← fc j hj] at e1
      exact absurd e1 (npl j hj z)
    · by_cases hk : k ∈ own
      · rw [backE_in l4 hk, ← fc k hk] at e2
        exact absurd e2 (npl k hk z')
      · rw [backE_out hj] at e1
        rw [backE_out hk] at e2
        rw [← sgo j hj] at e3
        rw [← sgo k hk] at e4
        exact s4.inj j k a _ _ e1 e2 e3 e4
  · by_cases hj : j ∈ own
    · exact ⟨m, z, by rw [backE_in l4 hj]; exact e1⟩
    · obtain ⟨m1, z1, q1⟩ := xc j m z e1
      obtain ⟨m2, z2, q3⟩ := x4 j m1 z1 (by rw [mr j hj]; exact q1)
      exact ⟨m2, z2, by rw [backE_out hj]; exact q3⟩
theorem plain_own {own : List Nat} {ρ1 ρc : Env} (h : own.all (plainAt ρ1) = true) (fc : ∀ j ∈ own, ρc[j]? = ρ1[j]?) : ∀ j ∈ own, ∀ z, ρc[j]? ≠ some (some (true, z)) := fun j hj z q => by
  rw [fc j hj] at q
  have := List.all_eq_true.mp h j hj
  simp [plainAt, q] at this
/-- one clause's loop, its list at D -/
theorem comp_core {lk own : List Nat} {g : TG} {tt : TT} {te : TE} {t : Tg} {c : Env → Rs Bool} {e : Env → Rs Rv} (hg : GD K lk g t) (ht : TD K C W0 tt c) (he : ED K C W0 te e) (hown : ∀ i ∈ tgS t, i ∈ own)
    {H1 H0 : Hp} {S0 : Addr → Prop} {ρ1 ρ2 : Env} {D : Addr} {vs0 : List V} {acc0 ys ds : List PyData} {J : It} {Qd : Hp → Prop} (s1 : SR K (Bl B D) σ H1 ρ1) (hD1 : H1 D = some (.lst vs0)) (racc0 : Rps K (Free (Bl B D) σ ρ1) H1 vs0 acc0) (src : Src K S0 H0 J ds)
    (lt : ∀ {Hc : Hp} {ρc : Env}, Keep (OwnD σ ρ1 D) H1 Hc → OSub σ ρc ρ1 → Lt S0 H0 (Free (Bl B D) σ ρc) Hc) (hpl : own.all (plainAt ρ1) = true) (er : compL lk own ρ1 t c e ds acc0 ρ1 = .ok ys ρ2)
    (hQ : ∀ Hc vs', Hc D = some (.lst vs') → Rps K (Free (Bl B D) σ ρ2) Hc vs' ys → SR K (Bl B D) σ Hc ρ2 → Keep (OwnD σ ρ1 D) H1 Hc → OSub σ ρ2 ρ1 → Ext ρ1 ρ2 → ρ2.length = ρ1.length → (∀ j ∈ own, ρ2[j]? = ρ1[j]?) → Qd Hc) :
    ∃ W : Nat → Nat → Hp → Prop, (∃ m, W 0 m H1) ∧ ∀ i m H, W i m H →
      (J.stop i H ∧ Qd H) ∨ (J.go i H ∧ ∃ Nx : Hp → Prop, (∀ H', Nx H' → ∃ m', m' < m ∧ W (i + 1) m' H') ∧ ∀ x H', J.yld i H x H' → g x (wipe σ own) H' fun σ2 H2 => wipe σ2 own = wipe σ own ∧ tt σ2 H2 fun b H3 =>
        if b = true then te σ2 H3 fun y H4 => ∃ acc, H4 D = some (.lst acc) ∧ acc.length < sizeLine ∧ Nx (upd H4 D (.lst (acc ++ [y]))) else Nx H3) := by
  obtain ⟨G, Y, wk, hG, hY⟩ := src.ex
  -- the state between two turns
  let Pv : Nat → Hp → Prop := fun i Hc => ∃ (ρc : Env) (acc : List PyData) (vs : List V), Hc D = some (.lst vs) ∧ Rps K (Free (Bl B D) σ ρc) Hc vs acc ∧ SR K (Bl B D) σ Hc ρc ∧ Keep (OwnD σ ρ1 D) H1 Hc ∧ OSub σ ρc ρ1 ∧ Ext ρ1 ρc ∧
    ρc.length = ρ1.length ∧ (∀ j ∈ own, ρc[j]? = ρ1[j]?) ∧ compL lk own ρ1 t c e (ds.drop i) acc ρc = .ok ys ρ2
  refine lc_from (K := K) wk Pv ?_ ?_ ?_ ?_
  · exact ⟨ρ1, acc0, vs0, hD1, racc0, s1, Keep.refl _ _, OSub.refl _ _, Ext.refl _, rfl, fun _ _ => rfl, er⟩
  · intro i Hc _ ⟨ρc, acc, vs, _, _, _, k, o, _⟩
    exact hG _ _ (lt k o)
  · intro i x Hc H2 hi ⟨ρc, acc, vs, hDc, racc, sc, kc, oc, xc, lc, fc, ec⟩ y
    obtain ⟨grow, d, hd, rd⟩ := hY _ _ i x H2 hi (lt kc oc) y
    have ed : ds.drop i = d :: ds.drop (i + 1) := by
      obtain ⟨h1, h2⟩ := List.getElem?_eq_some_iff.mp hd
      rw [← h2, List.drop_eq_getElem_cons h1]
    rw [ed] at ec
    simp only [compL] at ec
    have npl := plain_own hpl fc
    have s2 : SR K (Bl B D) σ H2 ρc := sc.grow grow fun a b => .inl b
    obtain ⟨sw, ow⟩ := s2.wiped (vs := own)
    have rdw : Rp K (Free (Bl B D) (wipe σ own) (wipeE ρc own)) H2 x d := rd.mono fun a f => ⟨f.1, fun z => f.2 (ow a z)⟩
    have ktr : ∀ {Ha Hb : Hp}, Keep (OwnD σ ρ1 D) H1 Ha → Keep (OwnD σ ρc D) Ha Hb → Keep (OwnD σ ρ1 D) H1 Hb := fun {Ha Hb} k k' => k.trans k' fun a z => .inl (z.imp (oc a) id)
    cases ea : asgT lk t d (wipeE ρc own) with
    | none => rw [ea] at ec; cases ec
    | some ρa =>
      rw [ea] at ec
      dsimp only at ec
      refine hg (Bl B D) (wipe σ own) H2 (wipeE ρc own) ρa x d _ sw rdw ea fun σa sa oa ma _ => ?_
      have sgo : ∀ j, j ∉ own → σa[j]? = σ[j]? := fun j hj => (ma.s j fun z => hj (hown j z)).trans (wipe_out hj)
      have sl : σa.length = σ.length := by rw [ma.ls, wipe_length]
      refine ⟨wipe_same sl sgo, ?_⟩
      have oA : ∀ a, OwnAt σa ρa a → OwnAt σ ρc a := fun a z => ow a (oa a z)
      have mr : ∀ j, j ∉ own → ρa[j]? = ρc[j]? := fun j hj => by rw [ma.r j fun y => hj (hown j y), wipeE_out hj]
      have nDa : ¬ OwnAt σa ρa D := fun z => sa.ownFree z (.inr rfl)
      cases ecb : c ρa with
      | no => rw [ecb] at ec; cases ec
      | exc => rw [ecb] at ec; cases ec
      | ok b ρb =>
        rw [ecb] at ec
        refine ht (Bl B D) σa H2 ρa _ sa ?_
        rw [ecb]
        intro H3 k3 o3 x3 s3
        cases b with
        | false =>
          rw [if_neg (by simp)]
          obtain ⟨s5, o5, x5, k5, l5, f5, _⟩ := comp_back npl fc lc sc grow sl sgo oA mr xc s3 (k3.mono fun a z => .inl z) o3 x3
          have kD : H3 D = some (.lst vs) := k3.k D _ (grow _ _ hDc) nDa
          exact ⟨_, acc, vs, kD, Rps.to k5 (fun a f _ => ⟨⟨f.1, fun z => f.2 (o5 a z)⟩, fun z => z.elim f.2 fun z => f.1 (.inr z)⟩) racc, s5, ktr kc k5, oc.trans o5, x5, l5, f5, ec⟩
        | true =>
          rw [if_pos rfl]
          dsimp only at ec
          cases ee : e ρb with
          | no => rw [ee] at ec; cases ec
          | exc => rw [ee] at ec; cases ec
          | ok r ρ3 =>
            rw [ee] at ec
            dsimp only at ec
            refine he (Bl B D) σa H3 ρb _ s3 ?_
            rw [ee]
            intro yv H4 k4 o4 x4 _ r4
            rcases keepV_cases (lk ++ own) r ρ3 with ⟨yd, ρ4, ek⟩ | ek
            · rw [ek] at ec
              dsimp only at ec
              split at ec
              · rename_i hl
                obtain ⟨s6, r6, o6, x6⟩ := keepV_ok r4.sr r4.op ek
                have k34 := k3.then o3 k4
                obtain ⟨s5, o5, x5, k5, l5, f5, t5⟩ := comp_back npl fc lc sc grow sl sgo oA mr xc s6 (k34.mono fun a z => .inl z) ((o3.trans o4).trans o6) ((x3.trans x4).trans x6)
                have kD : H4 D = some (.lst vs) := k34.k D _ (grow _ _ hDc) nDa
                have kU : Keep (fun a => a = D) H4 (upd H4 D (.lst (vs ++ [yv]))) := by
                  refine ⟨fun a o q n => by rw [upd_ne n]; exact q, fun a o q im => ?_, fun a o q => ?_⟩
                  · by_cases h : a = D
                    · subst h; rw [kD] at q; cases q; exact im.elim
                    · rw [upd_ne h]; exact q
                  · by_cases h : a = D
                    · subst h; exact ⟨_, upd_same⟩
                    · exact ⟨o, by rw [upd_ne h]; exact q⟩
                have frU : ∀ a, Free (Bl B D) σ (backE ρ1 ρ4 own) a → (∃ o, H4 a = some o) → Free (Bl B D) σ (backE ρ1 ρ4 own) a ∧ ¬ a = D := fun a f _ => ⟨f, fun z => f.1 (.inr z)⟩
                have racc5 : Rps K (Free (Bl B D) σ (backE ρ1 ρ4 own)) H4 vs acc := Rps.to k5 (fun a f _ => ⟨⟨f.1, fun z => f.2 (o5 a z)⟩, fun z => z.elim f.2 fun z => f.1 (.inr z)⟩) racc
                refine ⟨vs, kD, Nat.lt_of_lt_of_le (Nat.lt_succ_self _) (by rw [racc.length]; exact len_line hl), _, acc ++ [yd], vs ++ [yv], upd_same, ?_, ?_, ?_, oc.trans o5, x5, l5, f5, ec⟩
                · exact Rps.to kU frU (Rps.append racc5 (.cons (r6.mono fun a f => ⟨f.1, fun z => f.2 (t5 a z)⟩) .nil))
                · refine ⟨s5.len, fun a b => ?_, fun j z e1 => ?_, fun j z e1 => ?_, s5.inj⟩
                  · obtain ⟨o, q⟩ := s5.bt a b; exact kU.t a o q
                  · obtain ⟨w, q, r⟩ := s5.plain j z e1; exact ⟨w, q, r.to kU frU⟩
                  · obtain ⟨a, q, nb, r⟩ := s5.own j z e1; exact ⟨a, q, nb, r.to kU frU fun z => nb (.inr z)⟩
                · exact (ktr kc k5).trans kU fun a u => .inl (.inr u)
              · cases ec
            · rw [ek] at ec; cases ec
  · intro Hc ⟨ρc, acc, vs, hDc, racc, sc, kc, oc, xc, lc, fc, ec⟩
    rw [List.drop_length] at ec
    simp only [compL, Rs.ok.injEq] at ec
    obtain ⟨rfl, rfl⟩ := ec
    exact hQ Hc vs hDc racc sc kc oc xc lc fc
theorem keepD {ρ1 : Env} {H H' : Hp} {D : Addr} (hD : H D = none) {o : HO} (k : Keep (OwnD σ ρ1 D) (upd H D o) H') : Keep (OwnAt σ ρ1) H H' := (Keep.new hD).trans k fun a z => z.imp id fun z => by rw [z]; exact hD
theorem ltD {ρ1 ρc : Env} {H Hc : Hp} {D : Addr} (hD : H D = none) {o : HO} (k : Keep (OwnD σ ρ1 D) (upd H D o) Hc) (os : OSub σ ρc ρ1) : Lt (Free B σ ρ1) H (Free (Bl B D) σ ρc) Hc :=
  ⟨OwnAt σ ρ1, keepD hD k, fun a f ⟨u, q⟩ => ⟨⟨fun b => b.elim f.1 fun e => (by subst e; rw [hD] at q; cases q), fun z => f.2 (os a z)⟩, f.2⟩⟩
theorem ed_comp {lk own : List Nat} {wi : TI} {g : TG} {tt : TT} {te : TE} {t : Tg} {fs : Env → Rs (List PyData)} {c : Env → Rs Bool} {e : Env → Rs Rv} (hs : SD K C W wi fs) (hg : GD K lk g t) (ht : TD K C W0 tt c) (he : ED K C W0 te e)
    (hown : ∀ i ∈ tgS t, i ∈ own) : ED K C W (tLc wi g tt te own) fun ρ => (fs ρ).bind fun ds ρ1 => if own.all (plainAt ρ1) then (compL lk own ρ1 t c e ds [] ρ1).bind fun ys ρ2 => .ok (.own (.list ys)) ρ2 else .no := by
  intro B σ H ρ Q s hgd
  dsimp only at hgd
  refine hs B σ H ρ _ s ?_
  cases ef : fs ρ with
  | no => rw [ef] at hgd; exact hgd
  | exc c d ρ' => rw [ef] at hgd; exact hgd
  | ok ds ρ1 =>
    rw [ef, Rs.bind_ok] at hgd
    intro J H1 k1 o1 x1 s1 src
    split at hgd
    · rename_i hpl
      rcases compL_cases (lk := lk) (own := own) (ρ0 := ρ1) (t := t) (c := c) (e := e) ds [] ρ1 with ⟨ys, ρ2, er⟩ | er
      · rw [er, Rs.bind_ok] at hgd
        intro D hD
        have nBD : ¬ B D := fun b => by obtain ⟨o, q⟩ := s1.bt D b; rw [hD] at q; cases q
        refine comp_core (D := D) hg ht he hown (s1.block hD) upd_same .nil src (fun k os => ltD hD k os) hpl er fun Hc vs' hDc racc sc kc oc xc lc fc => ?_
        exact hgd (.ref D) Hc (k1.then o1 (keepD hD kc)) (o1.trans oc) (x1.trans xc) (fun a e => by cases e; exact k1.back hD) ⟨D, rfl, nBD, sc, .lst hDc racc⟩
      · rw [er] at hgd; exact hgd.elim
    · exact hgd.elim
theorem comp2L_cases {lk own : List Nat} {ρ0 : Env} {t : Tg} {c : Env → Rs Bool} {f : List PyData → Env → Rs (List PyData)} : ∀ (ds acc : List PyData) (ρ : Env), (∃ ys ρ', comp2L lk own ρ0 t c f ds acc ρ = .ok ys ρ') ∨ comp2L lk own ρ0 t c f ds acc ρ = .no
  | [], acc, ρ => .inl ⟨acc, ρ, rfl⟩
  | d :: ds, acc, ρ => by
    simp only [comp2L]
    split
    · exact .inr rfl
    · split
      · exact comp2L_cases ds acc _
      · split
        · exact comp2L_cases ds _ _
        · exact .inr rfl
      · exact .inr rfl
theorem ed_comp2 {lk own vs1 : List Nat} {wi wi1 : TI} {g g1 : TG} {tt tt1 : TT} {te : TE} {t t1 : Tg} {fs fs1 : Env → Rs (List PyData)} {c c1 : Env → Rs Bool} {e : Env → Rs Rv} (hs : SD K C W wi fs) (hg : GD K lk g t) (ht : TD K C W0 tt c) (hs1 : SD K C W0 wi1 fs1) (hg1 : GD K lk g1 t1) (ht1 : TD K C W0 tt1 c1) (he : ED K C W0 te e)
    (hown : ∀ i ∈ tgS t, i ∈ own) (hown1 : ∀ i ∈ tgS t1, i ∈ vs1) : ED K C W (tLc2 wi g tt wi1 g1 tt1 te own vs1) fun ρ => (fs ρ).bind fun ds ρ1 => if own.all (plainAt ρ1) then
      (comp2L lk own ρ1 t c (fun acc ρ => match fs1 ρ with
        | .ok ds1 ρ3 => if vs1.all (plainAt ρ3) then compL lk vs1 ρ3 t1 c1 e ds1 acc ρ3 else .no
        | _ => .no) ds [] ρ1).bind fun ys ρ2 => .ok (.own (.list ys)) ρ2 else .no := by
  intro B σ H ρ Q s hgd
  dsimp only at hgd
  refine hs B σ H ρ _ s ?_
  cases ef : fs ρ with
  | no => rw [ef] at hgd; exact hgd
  | exc c d ρ' => rw [ef] at hgd; exact hgd
  | ok ds ρ1 =>
    rw [ef, Rs.bind_ok] at hgd
    intro J H1 k1 o1 x1 s1 src
    split at hgd
    · rename_i hpl
      rcases comp2L_cases (lk := lk) (own := own) (ρ0 := ρ1) (t := t) (c := c) ds [] ρ1 with ⟨ys, ρ2, er⟩ | er
      · rw [er, Rs.bind_ok] at hgd
        intro D hD
        have nBD : ¬ B D := fun b => by obtain ⟨o, q⟩ := s1.bt D b; rw [hD] at q; cases q
        obtain ⟨G, Y, wk, hG, hY⟩ := src.ex
        let Pv : Nat → Hp → Prop := fun i Hc => ∃ (ρc : Env) (acc : List PyData) (vs : List V), Hc D = some (.lst vs) ∧ Rps K (Free (Bl B D) σ ρc) Hc vs acc ∧ SR K (Bl B D) σ Hc ρc ∧ Keep (OwnD σ ρ1 D) (upd H1 D (.lst [])) Hc ∧ OSub σ ρc ρ1 ∧ Ext ρ1 ρc ∧
          ρc.length = ρ1.length ∧ (∀ j ∈ own, ρc[j]? = ρ1[j]?) ∧ comp2L lk own ρ1 t c (fun acc ρ => match fs1 ρ with
            | .ok ds1 ρ3 => if vs1.all (plainAt ρ3) then compL lk vs1 ρ3 t1 c1 e ds1 acc ρ3 else .no
            | _ => .no) (ds.drop i) acc ρc = .ok ys ρ2
        refine lc2_from wk Pv ?_ ?_ ?_ ?_
        · exact ⟨ρ1, [], [], upd_same, .nil, s1.block hD, Keep.refl _ _, OSub.refl _ _, Ext.refl _, rfl, fun _ _ => rfl, er⟩
        · intro i Hc _ ⟨ρc, acc, vs, _, _, _, k, o, _⟩
          exact hG _ _ (ltD hD k o)
        · intro i x Hc H2 hi ⟨ρc, acc, vs, hDc, racc, sc, kc, oc, xc, lc, fc, ec⟩ y
          obtain ⟨grow, d, hd, rd⟩ := hY _ _ i x H2 hi (ltD hD kc oc) y
          have ed : ds.drop i = d :: ds.drop (i + 1) := by
            obtain ⟨h1, h2⟩ := List.getElem?_eq_some_iff.mp hd
            rw [← h2, List.drop_eq_getElem_cons h1]
          rw [ed] at ec
          simp only [comp2L] at ec
          have npl := plain_own hpl fc
          have s2 : SR K (Bl B D) σ H2 ρc := sc.grow grow fun a b => .inl b
          obtain ⟨sw, ow⟩ := s2.wiped (vs := own)
          have rdw : Rp K (Free (Bl B D) (wipe σ own) (wipeE ρc own)) H2 x d := rd.mono fun a f => ⟨f.1, fun z => f.2 (ow a z)⟩
          have ktr : ∀ {Ha Hb : Hp}, Keep (OwnD σ ρ1 D) (upd H1 D (.lst [])) Ha → Keep (OwnD σ ρc D) Ha Hb → Keep (OwnD σ ρ1 D) (upd H1 D (.lst [])) Hb := fun {Ha Hb} k k' => k.trans k' fun a z => .inl (z.imp (oc a) id)
          cases ea : asgT lk t d (wipeE ρc own) with
          | none => rw [ea] at ec; cases ec
          | some ρa =>
            rw [ea] at ec
            dsimp only at ec
            refine hg (Bl B D) (wipe σ own) H2 (wipeE ρc own) ρa x d _ sw rdw ea fun σa sa oa ma _ => ?_
            have sgo : ∀ j, j ∉ own → σa[j]? = σ[j]? := fun j hj => (ma.s j fun z => hj (hown j z)).trans (wipe_out hj)
            have sl : σa.length = σ.length := by rw [ma.ls, wipe_length]
            refine ⟨wipe_same sl sgo, ?_⟩
            have oA : ∀ a, OwnAt σa ρa a → OwnAt σ ρc a := fun a z => ow a (oa a z)
            have mr : ∀ j, j ∉ own → ρa[j]? = ρc[j]? := fun j hj => by rw [ma.r j fun y => hj (hown j y), wipeE_out hj]
            have nDa : ¬ OwnAt σa ρa D := fun z => sa.ownFree z (.inr rfl)
            cases ecb : c ρa with
            | no => rw [ecb] at ec; cases ec
            | exc => rw [ecb] at ec; cases ec
            | ok b ρb =>
              rw [ecb] at ec
              refine ht (Bl B D) σa H2 ρa _ sa ?_
              rw [ecb]
              intro H3 k3 o3 x3 s3
              cases b with
              | false =>
                rw [if_neg (by simp)]
                obtain ⟨s5, o5, x5, k5, l5, f5, _⟩ := comp_back npl fc lc sc grow sl sgo oA mr xc s3 (k3.mono fun a z => .inl z) o3 x3
                have kD : H3 D = some (.lst vs) := k3.k D _ (grow _ _ hDc) nDa
                exact ⟨_, acc, vs, kD, Rps.to k5 (fun a f _ => ⟨⟨f.1, fun z => f.2 (o5 a z)⟩, fun z => z.elim f.2 fun z => f.1 (.inr z)⟩) racc, s5, ktr kc k5, oc.trans o5, x5, l5, f5, ec⟩
              | true =>
                rw [if_pos rfl]
                dsimp only at ec
                refine hs1 (Bl B D) σa H3 ρb _ s3 ?_
                cases ef1 : fs1 ρb with
                | no => rw [ef1] at ec; cases ec
                | exc => rw [ef1] at ec; cases ec
                | ok ds1 ρ3 =>
                  rw [ef1] at ec
                  dsimp only at ec
                  intro J1 H4 k4 o4 x4 s4 src1
                  split at ec
                  · rename_i acc' ρ4 em
                    split at em
                    · rename_i hpl1
                      have k34 := k3.then o3 k4
                      have kD : H4 D = some (.lst vs) := k34.k D _ (grow _ _ hDc) nDa
                      have racc4 : Rps K (Free (Bl B D) σa ρ3) H4 vs acc := Rps.to ((Keep.ex grow).trans (k34.mono oA) fun a u => .inl u) (fun a f _ => ⟨⟨f.1, fun z => f.2 (oA a (o3 a (o4 a z)))⟩, f.2⟩) racc
                      refine comp_core (D := D) hg1 ht1 he hown1 s4 kD racc4 src1 (fun k os => ⟨_, k, fun a f _ => ⟨⟨f.1, fun z => f.2 (os a z)⟩, fun z => z.elim f.2 fun z => f.1 (.inr z)⟩⟩) hpl1 em fun Hc' vs' hDc' racc' sc' kc' oc' xc' lc' fc' => ?_
                      have kk : Keep (OwnD σa ρa D) H2 Hc' := (k34.mono fun a z => .inl z).trans kc' fun a z => .inl (z.imp (fun z => o3 a (o4 a z)) id)
                      obtain ⟨s5, o5, x5, k5, l5, f5, t5⟩ := comp_back npl fc lc sc grow sl sgo oA mr xc sc' kk ((o3.trans o4).trans oc') ((x3.trans x4).trans xc')
                      exact ⟨_, acc', vs', hDc', racc'.mono fun a f => ⟨f.1, fun z => f.2 (t5 a z)⟩, s5, ktr kc k5, oc.trans o5, x5, l5, f5, ec⟩
                    · cases em
                  · cases ec
        · intro Hc ⟨ρc, acc, vs, hDc, racc, sc, kc, oc, xc, lc, fc, ec⟩
          rw [List.drop_length] at ec
          simp only [comp2L, Rs.ok.injEq] at ec
          obtain ⟨rfl, rfl⟩ := ec
          exact hgd (.ref D) Hc (k1.then o1 (keepD hD kc)) (o1.trans oc) (x1.trans xc) (fun a e => by cases e; exact k1.back hD) ⟨D, rfl, nBD, sc, .lst hDc racc⟩
      · rw [er] at hgd; exact hgd.elim
    · exact hgd.elim
end
end PD
set_option maxRecDepth 100000
set_option autoImplicit false
/-! PD12: whether an expression is what a piece of code says; then it has a reading by that code. -/
namespace PD
variable [WW]
open PySem PySem.Spec PyProof.Rows L2

/-! ### what the text's global names are -/
inductive GK | fn (k : Nat) | cst (d : PyData) | bfn (id : String) | cdt (kvs : List (Str × Str))
abbrev GT := List (Str × GK)
/-- calls with keywords: def, how many by place, the keywords, the order -/
abbrev KwT := List (Nat × Nat × List Str × List Nat)
structure Inf where
  N : List Str
  names : List (Str × NameKind)
structure Cfg where
  T : Prog
  G : GT
  KW : KwT
  BL : List Str
  /-- the classes of exceptions; of those ahead of lo nothing is known -/
  CL : List Str := []
  lo : Nat := 0
mutual
def pdEq : PyData → PyData → Bool
  | .none, .none => true
  | .bool a, .bool b => a == b
  | .int a, .int b => a == b
  | .str a, .str b => a == b
  | .tuple a, .tuple b => pdEqs a b
  | .list a, .list b => pdEqs a b
  | _, _ => false
def pdEqs : List PyData → List PyData → Bool
  | [], [] => true
  | a :: r, b :: q => pdEq a b && pdEqs r q
  | _, _ => false
end
mutual
theorem pdEq_eq : ∀ {a b : PyData}, pdEq a b = true → a = b
  | .none, b, h => by cases b <;> simp [pdEq] at h ⊢
  | .bool _, b, h => by cases b <;> simp [pdEq] at h ⊢; exact h
  | .int _, b, h => by cases b <;> simp [pdEq] at h ⊢; exact h
  | .str _, b, h => by cases b <;> simp [pdEq] at h ⊢; exact h
  | .tuple _, b, h => by cases b <;> simp [pdEq] at h ⊢; exact pdEqs_eq h
  | .list _, b, h => by cases b <;> simp [pdEq] at h ⊢; exact pdEqs_eq h
  | .dict _, b, h => by cases b <;> simp [pdEq] at h
theorem pdEqs_eq : ∀ {a b : List PyData}, pdEqs a b = true → a = b
  | [], b, h => by cases b <;> simp [pdEqs] at h ⊢
  | a :: r, b, h => by
    cases b with
    | nil => simp [pdEqs] at h
    | cons c q =>
      simp only [pdEqs, Bool.and_eq_true] at h
      rw [pdEq_eq h.1, pdEqs_eq h.2]
end
/-- the order of a call of np by place and nk by keyword -/
def gP {α : Type} (np nk : Nat) (perm : List Nat) (us ws : List α) : List α := if us.length = np ∧ ws.length = nk then permG perm us ws else []
theorem gP_eq {α : Type} {np nk : Nat} {perm : List Nat} {us ws : List α} (h : us.length = np) (h' : ws.length = nk) : gP np nk perm us ws = permG perm us ws := if_pos ⟨h, h'⟩
def lenT (n : Nat) (t : TA) : TA := fun σ H Q => t σ H fun vs H1 => vs.length = n ∧ Q vs H1
/-- __init__ of the classes: the value is kept -/
def spI (K : PySem.W.Frag) : Sp := fun vs H Q _ => ∃ (a : Addr) (v : V) (C : Addr), vs = [.ref a, v] ∧ OexC K C ∧ PySem.W.findIn K (.ref C) "value" = some none ∧ H a = some (exo a C none) ∧
  ∀ d, H d = none → d ≠ a → Q .non (upd (upd H d (exd d [(("value" : Str), v)])) a (exo a C (some d)))
/-- what is known of a class of exceptions -/
structure ClsOk (P : Program) (w : World) (K : PySem.W.Frag) (mg : Str → Option Value) (base : Heap) (C : Addr) (x : Str) : Prop where
  m : mg x = some (.ref C)
  t : OexC K C
  xf : XfC K C
  nv : PySem.W.findIn K (.ref C) "value" = some none
  made : ∃ (fI : Addr) (fd : FuncData) (ps : List Str), PySem.W.findIn K (.ref C) "__init__" = some (some (.ref fI)) ∧ PySem.W.typeIn K (.ref fI) = some (.type "function") ∧ Binds K fd ps [] ∧ FnOk P w K mg base (L2.CX P w) 1 fI fd ps (spI K)
/-- what is known of the module -/
structure Gok (P : Program) (w : World) (K : PySem.W.Frag) (mg : Str → Option Value) (base : Heap) (F : Cfg) (C : Nat → Addr) (n : Nat) : Prop where
  fn : ∀ x k, F.G.lookup x = some (.fn k) → ∃ (f : Addr) (fd : FuncData) (ps : List Str), mg x = some (.ref f) ∧ PySem.W.keepIn K (.ref f) = true ∧ Binds K fd ps [] ∧ FnOk P w K mg base (L2.CX P w) (n + 2) f fd ps (spF K C F.T n k) ∧
    ∀ np ks perm, (k, np, ks, perm) ∈ F.KW → KBinds K fd ps ks (gP np ks.length perm) (gP np ks.length perm)
  cst : ∀ x d, F.G.lookup x = some (.cst d) → ∃ u v, mg x = some u ∧ RelV v u ∧ ∀ S H, Rp K S H v d
  bfn : ∀ x id, F.G.lookup x = some (.bfn id) → mg x = some (.builtin id)
  blt : ∀ x, F.G.lookup x = none → x ∈ F.BL → mg x = none
  cdt : ∀ x kvs, F.G.lookup x = some (.cdt kvs) → ∃ p, mg x = some (.ref p) ∧ ∀ k v, (k, v) ∈ kvs → KDct K w p k (.str v)
  cls : ∀ x c, F.CL[c]? = some x → F.lo ≤ c → ClsOk P w K mg base (C c) x
  exm : ∀ c h, F.lo ≤ c → c < F.CL.length → F.lo ≤ h → h < F.CL.length → PySem.W.exmOne K (.ref (C c)) (.ref (C h)) = some (subc c h)
structure XOk (F : Cfg) (C : Nat → Addr) (n : Nat) (X : Cx) (I : Inf) (W : WX) : Prop where
  hN : X.N = I.N
  nd : I.N.Nodup
  kind : X.env.scope.kind = .function
  nm : ∀ x k, I.names.lookup x = some k → ∃ k', X.env.scope.names.lookup x = some k' ∧ (k' = k ∨ (k = .free ∧ k' = .cell))
  fnc : ∀ x, I.names.lookup x = some .cell → X.fn x = true
  calm : X.calm = true
  room : Room (n + 2) X.A
  tk : Takes X W
  own : PassesOwn (model X.prog X.w) X.A X.env X.xe
  g : Gok X.prog X.w X.K X.mg X.base F C n
  w : X.w = WW.w

/-! ### calls -/
section
variable {X : Cx} {k : Nat} {f : Addr} {fd : FuncData} {ps ks : List Str} {sp : Sp} {W : WX} {x : Str} {p pos : Pos} {es : List Expr} {kws : List Keyword} {t tk : TA} {perm : List Nat}
theorem run_fnKW {np nk : Nat} {pins : List (Addr × Obj)} {σ : L2.St} {H : Hp} {s : Shared} {Q : VK} {us ws : List Value} {vs zs : List V} (Fk : FnOk X.prog X.w X.K X.mg X.base (L2.CX X.prog X.w) k f fd ps sp) (hr : Room k X.A) (hb : KBinds X.K fd ps ks (gP np nk perm) (gP np nk perm)) (hx : Takes X W)
    (I : Inv X pins σ H s) (r : Vals vs us) (rz : Vals zs ws) (h : sp (gP np nk perm vs zs) H Q (WE W σ)) : wpAny (model X.prog X.w) X.A (call (.ref f) us (ks.zip ws)) (EP X pins σ Q) X.xe s := by
  have r2 := hb.rel r rz
  have hl : (gP np nk perm us ws).length = ps.length := by rw [← r2.length]; exact Fk.len _ _ _ _ h
  refine wpAny_call (codeAny_mono (Fk.run X.A X.stack s H ⟨us, ks.zip ws⟩ (gP np nk perm us ws) (gP np nk perm vs zs) Q (WE W σ) hr I.env0 (hb.to s us ws I.kIn hl) r2 h) fun r s' hq => ?_)
  cases r with
  | error e => exact passAt hx σ pins H s e s' I hq
  | ok fl =>
    cases fl with
    | ret u => exact I.after hq
    | next => exact False.elim hq
    | brk => exact False.elim hq
    | cont => exact False.elim hq
theorem permG_app {α : Type} (perm : List Nat) (us ws : List α) : permG perm (us ++ ws) [] = permG perm us ws := by
  cases perm <;> simp [permG]
def notStar : Expr → Bool
  | .Starred .. => false
  | _ => true
theorem star_cons {env : PySem.Env} {e : Expr} {es : List Expr} (h : notStar e = true) : starEach (e :: es) env = (false, eval e env) :: starEach es env := by
  cases e <;> first | rfl | (simp [notStar] at h)
theorem star_any {env : PySem.Env} {pos : Pos} : ∀ {es : List Expr}, es.all notStar = true → (backTo pos (starEach es env)).any (·.1) = false
  | [], _ => rfl
  | e :: es, h => by
    rw [List.all_cons, Bool.and_eq_true] at h
    rw [star_cons h.1]
    show (false || (backTo pos (starEach es env)).any (·.1)) = false
    rw [star_any h.2]
    rfl
theorem pa_cons' {e : Expr} {te : TE} (ha : PE X e te) (hr : PA X es t) (h : notStar e = true) : PA X (e :: es) (tCons te t) := pa_cons ha hr (star_cons h)
theorem kw_all {env : PySem.Env} {pos : Pos} : ∀ {kws : List Keyword}, kws.all (·.arg.isSome) = true → (backToKw pos (keywordEach kws env)).all (·.1.isSome) = true ∧ (backToKw pos (keywordEach kws env)).any (·.1.isNone) = false ∧ (backToKw pos (keywordEach kws env)).filterMap (·.1) = kws.filterMap (·.arg)
  | [], _ => ⟨rfl, rfl, rfl⟩
  | ⟨a, v, q⟩ :: r, h => by
    rw [List.all_cons, Bool.and_eq_true] at h
    obtain ⟨i1, i2, i3⟩ := kw_all (env := env) (pos := pos) h.2
    cases a with
    | none => simp at h
    | some a =>
      refine ⟨?_, ?_, ?_⟩
      · show (true && (backToKw pos (keywordEach r env)).all (·.1.isSome)) = true
        rw [i1]; rfl
      · show (false || (backToKw pos (keywordEach r env)).any (·.1.isNone)) = false
        rw [i2]; rfl
      · show a :: (backToKw pos (keywordEach r env)).filterMap (·.1) = a :: r.filterMap (·.arg)
        rw [i3]
/-- f(e, ..), f() -/
theorem pe_pos {e : Expr} (Fk : FnOk X.prog X.w X.K X.mg X.base (L2.CX X.prog X.w) k f fd ps sp) (hr : Room k X.A) (hg : Gl X x) (hm : X.mg x = some (.ref f)) (hk : PySem.W.keepIn X.K (.ref f) = true) (hb : Binds X.K fd ps []) (hx : Takes X W)
    (hdb : (x == ("__debug__" : Str)) = false) (ha : PA X (e :: es) t) (hs : (e :: es).all notStar = true) : PE X (.Call (.Name x p) (e :: es) [] pos) (fun σ H Q => t σ H fun vs H1 => sp vs H1 Q (WE W σ)) := by
  rw [List.all_cons, Bool.and_eq_true] at hs
  have := pe_callSD (pos := pos) (p := p) (dvs := []) (ds := []) (E := WE W) Fk hr hg hm hk hb .nil (fun σ => passAt hx σ) ha hdb (star_cons hs.1) (star_any hs.2)
  refine ⟨fun pins s σ H Q I h => this.run pins s σ H Q I ?_⟩
  unfold tCallSD
  simpa using h
theorem pe_pos0 (Fk : FnOk X.prog X.w X.K X.mg X.base (L2.CX X.prog X.w) k f fd ps sp) (hr : Room k X.A) (hg : Gl X x) (hm : X.mg x = some (.ref f)) (hk : PySem.W.keepIn X.K (.ref f) = true) (hb : Binds X.K fd ps []) (hx : Takes X W)
    (hdb : (x == ("__debug__" : Str)) = false) : PE X (.Call (.Name x p) [] [] pos) (fun σ H Q => sp [] H Q (WE W σ)) := by
  refine ⟨fun pins s σ H Q I h => ?_⟩
  refine wpAny_Call_Name_kw (ld_glob I hg hm ?_ hdb)
  exact PySem.W.callWith_K0 I.kIn hk (run_fnSD (us := []) (vs := []) (dvs := []) (ds := []) (E := WE W) Fk hr hb .nil (passAt hx σ) I .nil h)
theorem pe_kw {np nk : Nat} (Fk : FnOk X.prog X.w X.K X.mg X.base (L2.CX X.prog X.w) k f fd ps sp) (hr : Room k X.A) (hg : Gl X x) (hm : X.mg x = some (.ref f)) (hk : PySem.W.keepIn X.K (.ref f) = true) (hb : KBinds X.K fd ps (kws.filterMap (·.arg)) (gP np nk perm) (gP np nk perm)) (hx : Takes X W)
    (hdb : (x == ("__debug__" : Str)) = false) {e : Expr} (ha : PA X (e :: es) t) (hs : (e :: es).all notStar = true) (hkw : PK X kws tk) (hks : kws.all (·.arg.isSome) = true) :
    PE X (.Call (.Name x p) (e :: es) kws pos) (fun σ H Q => lenT np t σ H fun vs H1 => lenT nk tk σ H1 fun zs H2 => sp (permG perm (vs ++ zs) []) H2 Q (WE W σ)) := by
  refine ⟨fun pins s σ H Q I h => ?_⟩
  obtain ⟨h1, h2, h3⟩ := kw_all (env := X.env) (pos := pos) hks
  refine wpAny_Call_Name_kw (ld_glob I hg hm ?_ hdb)
  have hs' := hs
  rw [List.all_cons, Bool.and_eq_true] at hs'
  refine PySem.W.callWith_KW (h₀ := X.base) I.ok.mod.kin hk h1 (thn (ha.run pos pins s σ H _ I h) fun us s1 ⟨vs, H1, I1, r, lv, q⟩ => ?_) (by rw [star_any hs, h2]; rfl) (star_cons hs'.1)
  refine thn (hkw.run pos pins s1 σ H1 _ I1 q) fun ws s2 ⟨zs, H2, I2, rz, lz, q2⟩ => ⟨I2.kIn, ?_⟩
  rw [h3]
  dsimp only at q2
  rw [permG_app, ← gP_eq lv lz] at q2
  exact run_fnKW Fk hr hb hx I2 r rz q2
theorem pe_kw0 {nk : Nat} (Fk : FnOk X.prog X.w X.K X.mg X.base (L2.CX X.prog X.w) k f fd ps sp) (hr : Room k X.A) (hg : Gl X x) (hm : X.mg x = some (.ref f)) (hk : PySem.W.keepIn X.K (.ref f) = true) (hb : KBinds X.K fd ps (kws.filterMap (·.arg)) (gP 0 nk perm) (gP 0 nk perm)) (hx : Takes X W)
    (hdb : (x == ("__debug__" : Str)) = false) (hkw : PK X kws tk) (hks : kws.all (·.arg.isSome) = true) :
    PE X (.Call (.Name x p) [] kws pos) (fun σ H Q => lenT nk tk σ H fun zs H2 => sp (permG perm ([] ++ zs) []) H2 Q (WE W σ)) := by
  refine ⟨fun pins s σ H Q I h => ?_⟩
  obtain ⟨h1, h2, h3⟩ := kw_all (env := X.env) (pos := pos) hks
  refine wpAny_Call_Name_kw (ld_glob I hg hm ?_ hdb)
  refine PySem.W.callWith_KW0 (h₀ := X.base) I.ok.mod.kin hk h1 (thn (hkw.run pos pins s σ H _ I h) fun ws s2 ⟨zs, H2, I2, rz, lz, q2⟩ => ⟨I2.kIn, ?_⟩) (by rw [h2]; rfl)
  rw [h3]
  dsimp only at q2
  rw [permG_app, ← gP_eq (np := 0) rfl lz] at q2
  exact run_fnKW Fk hr hb hx I2 .nil rz q2
end

/-! ### small looks -/
def varB (I : Inf) (i : Nat) (x : Str) : Bool := decide (I.N[i]? = some x) && (match I.names.lookup x with
  | some .local => true
  | some .cell => true
  | some .free => true
  | _ => false) && !(x == ("__debug__" : Str)) && !(x == ("__classdict__" : Str))
def glB (I : Inf) (x : Str) : Bool := decide (I.names.lookup x = some .globalImplicit) && !(x == ("__debug__" : Str)) && !(x == ("__name__" : Str))
def bltB (F : Cfg) (I : Inf) (x : Str) : Bool := glB I x && (match F.G.lookup x with | none => true | _ => false) && decide (x ∈ F.BL)
section
variable {F : Cfg} {C : Nat → Addr} {n : Nat} {X : Cx} {I : Inf} {W : WX} {x : Str}
theorem XOk.vis (O : XOk F C n X I W) {i : Nat} (h : varB I i x = true) : X.N[i]? = some x ∧ Vis X.env.scope x ∧ (x == ("__debug__" : Str)) = false ∧ (x == ("__classdict__" : Str)) = false := by
  simp only [varB, Bool.and_eq_true, decide_eq_true_eq, Bool.not_eq_true'] at h
  obtain ⟨⟨⟨h1, h2⟩, h3⟩, h4⟩ := h
  refine ⟨by rw [O.hN]; exact h1, ?_, h3, h4⟩
  split at h2
  · rename_i e
    obtain ⟨k', q, z⟩ := O.nm x _ e
    rcases z with z | ⟨z, _⟩
    · subst z; exact .inl q
    · cases z
  · rename_i e
    obtain ⟨k', q, z⟩ := O.nm x _ e
    rcases z with z | ⟨z, _⟩
    · subst z; exact .inr (.inl q)
    · cases z
  · rename_i e
    obtain ⟨k', q, z⟩ := O.nm x _ e
    rcases z with z | ⟨_, z⟩
    · subst z; exact .inr (.inr q)
    · subst z; exact .inr (.inl q)
  · cases h2
theorem XOk.gl (O : XOk F C n X I W) (h : glB I x = true) : Gl X x ∧ (x == ("__debug__" : Str)) = false ∧ x ≠ "__name__" := by
  simp only [glB, Bool.and_eq_true, decide_eq_true_eq, Bool.not_eq_true'] at h
  obtain ⟨⟨h1, h2⟩, h3⟩ := h
  obtain ⟨k', q, z⟩ := O.nm x _ h1
  rcases z with z | ⟨z, _⟩
  · subst z
    exact ⟨q, h2, fun e => by rw [e] at h3; simp at h3⟩
  · cases z
theorem XOk.blt (O : XOk F C n X I W) (h : bltB F I x = true) : Gl X x ∧ X.mg x = none ∧ (x == ("__debug__" : Str)) = false ∧ x ≠ "__name__" := by
  simp only [bltB, Bool.and_eq_true, decide_eq_true_eq] at h
  obtain ⟨⟨h1, h2⟩, h3⟩ := h
  obtain ⟨g1, g2, g3⟩ := O.gl h1
  refine ⟨g1, O.g.blt x ?_ h3, g2, g3⟩
  split at h2
  · assumption
  · cases h2
/-- a block's context -/
theorem XOk.blk (O : XOk F C n X I W) (s : Shared) (H : Hp) (scope : Scope) (Ca : Addr) (cl : List (Str × Addr)) (fp : List Addr) (hk : scope.kind = .function) :
    XOk F C n (X.blk s H scope (compEnvC scope cl Ca X.env) fp) ⟨I.N, scope.names⟩ W0 := by
  refine ⟨O.hN, O.nd, hk, fun x k e => ?_, fun x e => ?_, O.calm, O.room, ?_, PassesOwn.never, O.g, O.w⟩
  · show ∃ k', (relabel scope X.env).names.lookup x = some k' ∧ _
    unfold relabel
    have gen : ∀ (names : List (Str × NameKind)), names.lookup x = some k → ∃ k', (names.map fun (n, k) => if (k == NameKind.free && X.env.scope.kind == .function && X.env.kindOf n == some .cell) then (n, NameKind.cell) else (n, k)).lookup x = some k' ∧ (k' = k ∨ (k = .free ∧ k' = .cell)) := by
      intro names
      induction names with
      | nil => intro h; cases h
      | cons p r ih =>
        obtain ⟨m, km⟩ := p
        intro h
        rw [List.lookup_cons] at h
        rw [List.map_cons]
        dsimp only
        split at h
        · rename_i hb
          simp only [Option.some.injEq] at h
          subst h
          split
          · rename_i hc
            rw [List.lookup_cons, hb]
            refine ⟨.cell, rfl, ?_⟩
            by_cases hf : km = .free
            · exact .inr ⟨hf, rfl⟩
            · simp [hf] at hc
          · rw [List.lookup_cons, hb]
            exact ⟨km, rfl, .inl rfl⟩
        · rename_i hb
          split
          · rw [List.lookup_cons, hb]; exact ih h
          · rw [List.lookup_cons, hb]; exact ih h
    exact gen scope.names e
  · show (scope.names.lookup x == some .cell) = true
    have e' : scope.names.lookup x = some .cell := e
    rw [e']; rfl
  · exact fun u s' h => by
      obtain ⟨_, _, _, _, _, _, _, _, _, _, _, _, _, _, _, _, z⟩ := h
      exact z.elim
end
def litB : PyData → Expr → Bool
  | .int i, .Constant (.int j) _ _ => i == j
  | .str s, .Constant (.str t) _ _ => s == t
  | .bool b, .Constant (.bool c) _ _ => b == c
  | .none, .Constant .none _ _ => true
  | _, _ => false
theorem litB_ok {X : Cx} {K : PySem.W.Frag} {C : Nat → Addr} {W : WX} {d : PyData} {e : Expr} (h : litB d e = true) : ∃ t, PE X e t ∧ ED K C W t fun ρ => .ok (.val d) ρ := by
  unfold litB at h
  split at h
  · have : _ = _ := beq_iff_eq.mp h
    subst this
    exact ⟨_, pe_int, ed_lit fun S H => .int _⟩
  · have : _ = _ := beq_iff_eq.mp h
    subst this
    exact ⟨_, pe_str, ed_lit fun S H => .str _⟩
  · have : _ = _ := beq_iff_eq.mp h
    subst this
    exact ⟨_, pe_bl, ed_lit fun S H => .bl _⟩
  · exact ⟨_, pe_non, ed_lit fun S H => .non⟩
  · cases h
/-- not a test of its own form -/
def plainT : Expr → Bool
  | .UnaryOp .Not _ _ => false
  | .BoolOp .. => false
  | .IfExp .. => false
  | .Compare .. => false
  | _ => true
theorem plainT_ok {e : Expr} {env : PySem.Env} (h : plainT e = true) : ∀ whole, isTrue e env whole = (do let v ← whole; standAt e.pos; holding [v] (truthy v)) := by
  intro whole
  cases e <;> first | rfl | (simp [plainT] at h; done) | (rename_i op x p; cases op <;> first | rfl | (simp [plainT] at h))
/-! the targets -/
mutual
def chkT (I : Inf) (lk : List Nat) : Tg → Expr → Bool
  | .nm i, e => match e with
    | .Name x _ => decide (I.N[i]? = some x) && (match I.names.lookup x with
      | some .local => true
      | some .cell => true
      | _ => false)
    | _ => false
  | .tp ts, e => match e with
    | .Tuple es _ _ => chkTs I lk ts es
    | _ => false
def chkTs (I : Inf) (lk : List Nat) : List Tg → List Expr → Bool
  | [], es => match es with
    | [] => true
    | _ => false
  | t :: ts, es => match es with
    | e :: es => notStar e && chkT I lk t e && chkTs I lk ts es
    | _ => false
end
theorem asg_cons {env : PySem.Env} {e : Expr} {es : List Expr} (h : notStar e = true) : assignEach (e :: es) env = (false, assign e env) :: assignEach es env := by
  cases e <;> first | rfl | (simp [notStar] at h)
section
variable {F : Cfg} {C : Nat → Addr} {n : Nat} {X : Cx} {I : Inf} {W : WX} {lk lk' : List Nat}
mutual
theorem chkT_ok (O : XOk F C n X I W) : ∀ {t : Tg} {e : Expr}, chkT I lk t e = true → ∃ g, PG X e g ∧ GD X.K lk' g t
  | .nm i, e, h => by
    simp only [chkT] at h
    split at h
    · rename_i x p
      simp only [Bool.and_eq_true, decide_eq_true_eq] at h
      refine ⟨_, pg_name (i := i) (by rw [O.hN]; exact O.nd) (by rw [O.hN]; exact h.1) ?_ ?_, gd_nm i⟩
      · have h2 := h.2
        split at h2
        · rename_i e
          obtain ⟨k', q, z⟩ := O.nm x _ e
          rcases z with z | ⟨z, _⟩
          · subst z; exact .inl q
          · cases z
        · rename_i e
          obtain ⟨k', q, z⟩ := O.nm x _ e
          rcases z with z | ⟨z, _⟩
          · subst z; exact .inr q
          · cases z
        · cases h2
      · have h2 := h.2
        split at h2
        · rename_i e
          obtain ⟨k', q, z⟩ := O.nm x _ e
          rcases z with z | ⟨z, _⟩
          · subst z; exact .inr q
          · cases z
        · rename_i e
          exact .inl (O.fnc x e)
        · cases h2
    · cases h
  | .tp ts, e, h => by
    simp only [chkT] at h
    split at h
    · rename_i es x1 p
      obtain ⟨g, h1, h2, hl⟩ := chkTs_ok O h
      exact ⟨_, pg_tup O.calm h1 hl.1 hl.2, gd_tup h2⟩
    · cases h
theorem chkTs_ok (O : XOk F C n X I W) : ∀ {ts : List Tg} {es : List Expr}, chkTs I lk ts es = true → ∃ g, PGs X es g ∧ GsD X.K lk' g ts ∧ (assignEach es X.env).length = ts.length ∧ (assignEach es X.env).findIdx? (·.1) = none
  | [], es, h => by
    simp only [chkTs] at h
    split at h
    · exact ⟨_, pgs_nil, gd_nil, rfl, rfl⟩
    · cases h
  | t :: ts, es, h => by
    simp only [chkTs] at h
    split at h
    · rename_i e es
      simp only [Bool.and_eq_true] at h
      obtain ⟨g, h1, h2⟩ := chkT_ok O h.1.2
      obtain ⟨gs, h3, h4, h5, h6⟩ := chkTs_ok O h.2
      have hs := asg_cons (env := X.env) (es := es) h.1.1
      refine ⟨_, pgs_cons h1 h3 (by rw [hs]; rfl), gd_cons h2 h4, ?_, ?_⟩
      · rw [hs]; simp [h5]
      · rw [hs, List.findIdx?_cons]
        simp [h6]
    · cases h
end
end
end PD
set_option maxRecDepth 100000
set_option autoImplicit false
/-! PDX: own lists and dicts changed; methods that read; pop. -/
namespace PD
variable [WW]
open PySem PySem.Spec PyProof.Rows L2
section
variable {K : PySem.W.Frag} {C : Nat → Addr} {W : WX} {B B' : Addr → Prop} {lk : List Nat} {σ σ1 σ2 σ' : L2.St} {H H0 H1 H2 H' : Hp} {ρ ρ0 ρ1 ρ2 ρ' : Env} {v : V} {d : PyData} {a : Addr}
/-! ### from state to state -/
structure Tr (K : PySem.W.Frag) (B : Addr → Prop) (lk : List Nat) (σ : L2.St) (H : Hp) (ρ : Env) (σ' : L2.St) (H' : Hp) (ρ' : Env) : Prop where
  sr : SR K B σ' H' ρ'
  kp : Keep (OwnAt σ ρ) H H'
  ow : ∀ a, OwnAt σ' ρ' a → OwnAt σ ρ a ∨ H a = none
  ln : σ'.length = σ.length
  lk : ∀ i ∈ lk, σ'[i]? = σ[i]?
theorem Tr.refl (s : SR K B σ H ρ) : Tr K B lk σ H ρ σ H ρ := ⟨s, Keep.refl _ _, fun _ h => .inl h, rfl, fun _ _ => rfl⟩
theorem Tr.trans (a : Tr K B lk σ H ρ σ1 H1 ρ1) (b : Tr K B' lk σ1 H1 ρ1 σ2 H2 ρ2) : Tr K B' lk σ H ρ σ2 H2 ρ2 :=
  ⟨b.sr, a.kp.trans b.kp a.ow, fun x h => (b.ow x h).elim (a.ow x) fun n => .inr (a.kp.back n), b.ln.trans a.ln, fun i h => (b.lk i h).trans (a.lk i h)⟩
theorem Tr.ofE (k : Keep (OwnAt σ ρ) H H') (o : OSub σ ρ' ρ) (s : SR K B σ H' ρ') : Tr K B lk σ H ρ σ H' ρ' := ⟨s, k, fun a h => .inl (o a h), rfl, fun _ _ => rfl⟩
/-! ### an own list is changed -/
theorem SR.chg {i : Nat} {ds ds' : List PyData} {xs xs' : List V} (s : SR K B σ H ρ) (e : ρ[i]? = some (some (true, .list ds))) (ea : σ[i]? = some (some (V.ref a))) (eH : H a = some (.lst xs)) (r : Rps K (Free B σ ρ) H xs' ds') :
    Tr K B lk σ H ρ σ (upd H a (.lst xs')) (ρ.set i (some (true, .list ds'))) := by
  have hi : i < ρ.length := (List.getElem?_eq_some_iff.mp e).1
  have oi : OwnAt σ ρ a := ⟨i, _, e, ea⟩
  have ow : ∀ x, OwnAt σ (ρ.set i (some (true, .list ds'))) x → OwnAt σ ρ x := fun x ⟨j, c, e1, e2⟩ => by
    by_cases h : i = j
    · subst h; exact ⟨i, _, e, e2⟩
    · rw [List.getElem?_set_ne h] at e1; exact ⟨j, c, e1, e2⟩
  have wo : ∀ x, OwnAt σ ρ x → OwnAt σ (ρ.set i (some (true, .list ds'))) x := fun x ⟨j, c, e1, e2⟩ => by
    by_cases h : i = j
    · subst h; exact ⟨i, _, List.getElem?_set_self hi, e2⟩
    · exact ⟨j, c, by rw [List.getElem?_set_ne h]; exact e1, e2⟩
  have kU : Keep (fun x => x = a) H (upd H a (.lst xs')) := by
    refine ⟨fun x o q n => by rw [upd_ne n]; exact q, fun x o q im => ?_, fun x o q => ?_⟩
    · by_cases h : x = a
      · subst h; rw [eH] at q; cases q; exact im.elim
      · rw [upd_ne h]; exact q
    · by_cases h : x = a
      · subst h; exact ⟨_, upd_same⟩
      · exact ⟨o, by rw [upd_ne h]; exact q⟩
  have fr : ∀ x, Free B σ ρ x → (∃ o, H x = some o) → Free B σ (ρ.set i (some (true, .list ds'))) x ∧ ¬ x = a := fun x f _ => ⟨⟨f.1, fun z => f.2 (ow x z)⟩, fun z => f.2 (z ▸ oi)⟩
  refine ⟨⟨by rw [List.length_set]; exact s.len, fun x b => ?_, fun j z e1 => ?_, fun j z e1 => ?_, fun j k x z z' e1 e2 e3 e4 => ?_⟩, kU.mono fun x h => h ▸ oi, fun x h => .inl (ow x h), rfl, fun _ _ => rfl⟩
  · obtain ⟨o, q⟩ := s.bt x b; exact kU.t x o q
  · by_cases h : i = j
    · subst h; rw [List.getElem?_set_self hi] at e1; cases e1
    · rw [List.getElem?_set_ne h] at e1
      obtain ⟨w, q, r⟩ := s.plain j z e1
      exact ⟨w, q, r.to kU fr⟩
  · by_cases h : i = j
    · subst h
      rw [List.getElem?_set_self hi] at e1
      cases e1
      exact ⟨a, ea, s.ownFree oi, .lst upd_same (r.to kU fr)⟩
    · rw [List.getElem?_set_ne h] at e1
      obtain ⟨b, q, nb, r⟩ := s.own j z e1
      refine ⟨b, q, nb, r.to kU fr fun z => ?_⟩
      subst z
      exact h (s.inj i j _ _ _ e e1 ea q)
  · have gen : ∀ {j : Nat} {z : PyData}, (ρ.set i (some (true, .list ds')))[j]? = some (some (true, z)) → ∃ y, ρ[j]? = some (some (true, y)) := fun {j z} q => by
      by_cases h : i = j
      · subst h; exact ⟨_, e⟩
      · rw [List.getElem?_set_ne h] at q; exact ⟨_, q⟩
    obtain ⟨y, q1⟩ := gen e1
    obtain ⟨y', q2⟩ := gen e2
    exact s.inj j k x _ _ q1 q2 e3 e4
theorem chgL_inv {i : Nat} {f : List PyData → Option (List PyData)} (e : chgL i f ρ = some ρ') : ∃ ds ds', ρ[i]? = some (some (true, .list ds)) ∧ f ds = some ds' ∧ lenOk ds'.length = true ∧ ρ' = ρ.set i (some (true, .list ds')) := by
  unfold chgL at e
  split at e
  · rename_i ds e1
    split at e
    · rename_i ds' e2
      split at e
      · simp only [Option.some.injEq] at e
        exact ⟨ds, ds', e1, e2, by assumption, e.symm⟩
      · cases e
    · cases e
  · cases e
theorem chgL_ok {i : Nat} {f : List PyData → Option (List PyData)} (s : SR K B σ H ρ) (e : chgL i f ρ = some ρ') : ∃ a xs ds ds', σ[i]? = some (some (V.ref a)) ∧ H a = some (.lst xs) ∧ Rps K (Free B σ ρ) H xs ds ∧ f ds = some ds' ∧ lenOk ds'.length = true ∧
    ∀ xs', Rps K (Free B σ ρ) H xs' ds' → Tr K B lk σ H ρ σ (upd H a (.lst xs')) ρ' := by
  obtain ⟨ds, ds', e1, e2, e3, rfl⟩ := chgL_inv e
  obtain ⟨a, q, nb, r⟩ := s.own i _ e1
  cases r with
  | lst eH r => exact ⟨a, _, ds, ds', q, eH, r, e2, e3, fun xs' r' => s.chg e1 q eH r'⟩
theorem ORp.list {S : Addr → Prop} {ds : List PyData} (h : ORp K S H a (.list ds)) : ∃ xs, H a = some (.lst xs) ∧ Rps K S H xs ds := by
  cases h with
  | lst e r => exact ⟨_, e, r⟩
theorem oLst_ok {i : Nat} (s : SR K B σ H ρ) (h : oLst ρ i = true) : ∃ a xs, σ[i]? = some (some (V.ref a)) ∧ H a = some (.lst xs) := by
  unfold oLst at h
  split at h
  · rename_i ds e
    obtain ⟨a, q, nb, r⟩ := s.own i _ e
    obtain ⟨xs, e2, _⟩ := r.list
    exact ⟨a, xs, q, e2⟩
  · cases h
theorem SR.chgD {i : Nat} {ds ds' : List (PyData × PyData)} {o0 o1 : HO} {ks' : List (PyData × V)} (s : SR K B σ H ρ) (e : ρ[i]? = some (some (true, .dict ds))) (ea : σ[i]? = some (some (V.ref a))) (eH : H a = some o0) (im : ¬ Imm o0) (new : ∀ {U : Addr → Prop}, Keep U H (upd H a o1) → DicAt K (upd H a o1) a ks') (ek : ks'.map (·.1) = ds'.map (·.1)) (r : Rps K (Free B σ ρ) H (ks'.map (·.2)) (ds'.map (·.2))) :
    Tr K B lk σ H ρ σ (upd H a o1) (ρ.set i (some (true, .dict ds'))) := by
  have hi : i < ρ.length := (List.getElem?_eq_some_iff.mp e).1
  have oi : OwnAt σ ρ a := ⟨i, _, e, ea⟩
  have ow : ∀ x, OwnAt σ (ρ.set i (some (true, .dict ds'))) x → OwnAt σ ρ x := fun x ⟨j, c, e1, e2⟩ => by
    by_cases h : i = j
    · subst h; exact ⟨i, _, e, e2⟩
    · rw [List.getElem?_set_ne h] at e1; exact ⟨j, c, e1, e2⟩
  have wo : ∀ x, OwnAt σ ρ x → OwnAt σ (ρ.set i (some (true, .dict ds'))) x := fun x ⟨j, c, e1, e2⟩ => by
    by_cases h : i = j
    · subst h; exact ⟨i, _, List.getElem?_set_self hi, e2⟩
    · exact ⟨j, c, by rw [List.getElem?_set_ne h]; exact e1, e2⟩
  have kU : Keep (fun x => x = a) H (upd H a o1) := by
    refine ⟨fun x o q n => by rw [upd_ne n]; exact q, fun x o q im' => ?_, fun x o q => ?_⟩
    · by_cases h : x = a
      · subst h; rw [eH] at q; cases q; exact absurd im' im
      · rw [upd_ne h]; exact q
    · by_cases h : x = a
      · subst h; exact ⟨_, upd_same⟩
      · exact ⟨o, by rw [upd_ne h]; exact q⟩
  have fr : ∀ x, Free B σ ρ x → (∃ o, H x = some o) → Free B σ (ρ.set i (some (true, .dict ds'))) x ∧ ¬ x = a := fun x f _ => ⟨⟨f.1, fun z => f.2 (ow x z)⟩, fun z => f.2 (z ▸ oi)⟩
  refine ⟨⟨by rw [List.length_set]; exact s.len, fun x b => ?_, fun j z e1 => ?_, fun j z e1 => ?_, fun j k x z z' e1 e2 e3 e4 => ?_⟩, kU.mono fun x h => h ▸ oi, fun x h => .inl (ow x h), rfl, fun _ _ => rfl⟩
  · obtain ⟨o, q⟩ := s.bt x b; exact kU.t x o q
  · by_cases h : i = j
    · subst h; rw [List.getElem?_set_self hi] at e1; cases e1
    · rw [List.getElem?_set_ne h] at e1
      obtain ⟨w, q, r⟩ := s.plain j z e1
      exact ⟨w, q, r.to kU fr⟩
  · by_cases h : i = j
    · subst h
      rw [List.getElem?_set_self hi] at e1
      cases e1
      exact ⟨a, ea, s.ownFree oi, .dic (new kU) ek (r.to kU fr)⟩
    · rw [List.getElem?_set_ne h] at e1
      obtain ⟨b, q, nb, r⟩ := s.own j z e1
      refine ⟨b, q, nb, r.to kU fr fun z => ?_⟩
      subst z
      exact h (s.inj i j _ _ _ e e1 ea q)
  · have gen : ∀ {j : Nat} {z : PyData}, (ρ.set i (some (true, .dict ds')))[j]? = some (some (true, z)) → ∃ y, ρ[j]? = some (some (true, y)) := fun {j z} q => by
      by_cases h : i = j
      · subst h; exact ⟨_, e⟩
      · rw [List.getElem?_set_ne h] at q; exact ⟨_, q⟩
    obtain ⟨y, q1⟩ := gen e1
    obtain ⟨y', q2⟩ := gen e2
    exact s.inj j k x _ _ q1 q2 e3 e4

theorem oMut_ok {i : Nat} (s : SR K B σ H ρ) (h : oMut ρ i = true) : ∃ a, σ[i]? = some (some (V.ref a)) := by
  unfold oMut at h
  split at h
  · rename_i ds e
    obtain ⟨a, q, nb, r⟩ := s.own i _ e
    exact ⟨a, q⟩
  · rename_i ds e
    obtain ⟨a, q, nb, r⟩ := s.own i _ e
    exact ⟨a, q⟩
  · cases h
/-- xs[j] = v by values -/
theorem setO_ok {i : Nat} {j : PyData} {y : V} (s : SR K B σ H ρ) (rj : Rp K (Free B σ ρ) H y j) (rd : Rp K (Free B σ ρ) H v d) (e : setO i j d ρ = some ρ') (ea : σ[i]? = some (some (V.ref a))) {Q : Hp → Prop}
    (q : ∀ H', Tr K B lk σ H ρ σ H' ρ' → Q H') : (rSetL (.ref a) y v H Q ∨ rDSet (.ref a) y v H Q) ∨ rNSet K (.ref a) y v H Q := by
  unfold setO at e
  split at e
  · rename_i ds e1
    obtain ⟨a', q1, nb, r⟩ := s.own i _ e1
    rw [ea] at q1
    cases q1
    obtain ⟨xs, eH, r⟩ := r.list
    split at e
    · rename_i ds' e2
      split at e
      · rename_i hl
        simp only [Option.some.injEq] at e
        subst e
        unfold setD at e2
        split at e2
        · rename_i kk
          obtain ⟨n, hn, e5⟩ := Option.map_eq_some_iff.mp e2
          subst e5
          cases rj
          exact .inl (.inl ⟨a, xs, kk, n, rfl, rfl, eH, by rw [r.length]; exact hn, q _ (s.chg e1 ea eH (Rps.set rd n r))⟩)
        · cases e2
      · cases e
    · cases e
  · rename_i ds e1
    obtain ⟨a', q1, nb, r⟩ := s.own i _ e1
    rw [ea] at q1
    cases q1
    split at e
    · rename_i hk
      simp only [Bool.and_eq_true] at hk
      obtain ⟨k1, k3⟩ := hk
      simp only [Option.some.injEq] at e
      subst e
      cases r with
      | @dic ks0 _ hd ek r =>
        have l : ks0.length = ds.length := by simpa using congrArg List.length ek
        rcases fitD_or k1 with k1 | k1
        · obtain ⟨kvs, hkk, rfl⟩ := hd.k ek k1.1
          obtain ⟨key, rfl⟩ := kOk_key k1.2
          have hy : y = kV key := by
            cases key with
            | inl z => cases rj; rfl
            | inr z => cases rj; rfl
          subst hy
          obtain ⟨p1, p2⟩ := put_ok key rd ek r
          rw [List.length_map] at l
          have hl : kvs.length < sizeLine := Nat.lt_of_lt_of_le (by rw [l]; exact Nat.lt_succ_self _) (len_line k3)
          exact .inl (.inr ⟨a, _, rfl, .k hkk hl, q _ (s.chgD e1 ea hkk (fun z => z) (fun _ => .inl ⟨_, upd_same, rfl⟩) p1 p2)⟩)
        · obtain ⟨xs, hn, pr⟩ := hd.t ek k1.1
          obtain ⟨b, rfl, hkk⟩ := rj.tkey k1.2
          have lx : xs.length = ds.length := by rw [← Paired.length pr]; exact l
          have hl : xs.length < sizeLine := Nat.lt_of_lt_of_le (by rw [lx]; exact Nat.lt_succ_self _) (len_line k3)
          refine .inr ⟨a, b, xs, j, rfl, hn, rfl, k1.2, hkk, hl, fun u ru => ?_⟩
          obtain ⟨ks', p0, p1, p2⟩ := put_t k1.2 hkk rd ru pr ek r
          have hxl : (xsPut xs j b u).length ≤ sizeLine := Nat.le_trans (xsPut_len xs j b u) hl
          rcases hn with ⟨_, eH⟩ | ⟨_, _, eH, _⟩
          · exact q _ (s.chgD e1 ea eH (fun z => z) (fun kU => .inr ⟨_, upd_same, xsPut_ne xs j b u, hxl, XR.keep kU p0⟩) p1 p2)
          · exact q _ (s.chgD e1 ea eH (fun z => z) (fun kU => .inr ⟨_, upd_same, xsPut_ne xs j b u, hxl, XR.keep kU p0⟩) p1 p2)
    · cases e
  · cases e
end
section
variable {K : PySem.W.Frag} {C : Nat → Addr} {W : WX} {B : Addr → Prop} {lk : List Nat} {σ : L2.St} {H H' : Hp} {ρ ρ' : Env} {v : V} {d : PyData} {a : Addr} {Q : VK}
/-- xs.index(x) -/
theorem ed_index {ta tb : TE} {fa fb : Env → Rs Rv} (ha : ED K C W ta fa) (hb : ED K C W tb fb) : ED K C W (tBM K "list" (rIndexD K) ta (tCons tb tNil)) fun ρ => (fa ρ).bind fun x ρ1 => match dat ρ1 x with
    | some (.list _) => (fb ρ1).bind fun y ρ2 => match dat ρ2 x, dat ρ2 y with
      | some d, some e => liftR (indexD d e) ρ2
      | _, _ => .no
    | _ => .no := by
  intro B σ H ρ Q s hg
  refine ha.bindE s hg fun x ρ1 v H1 k1 o1 x1 f1 r1 g1 => ?_
  split at g1
  · rename_i ds0 e0
    obtain ⟨a, xs, rfl, h1, p1⟩ := (r1.op.rv r1.sr e0).list
    refine ⟨.inl ⟨rfl, xs, h1⟩, ?_⟩
    refine hb.bindE r1.sr g1 fun y ρ2 u H2 k2 o2 x2 f2 r2 g2 => ?_
    have p1 := r1.op.stay k2 o2 x2
    cases e1 : dat ρ2 x with
    | none => simp only [e1] at g2; exact g2.elim
    | some d =>
      cases e2 : dat ρ2 y with
      | none => simp only [e1, e2] at g2; exact g2.elim
      | some e =>
        simp only [e1, e2] at g2
        obtain ⟨r, hr, g⟩ := g2.lift
        cases d <;> simp only [indexD, reduceCtorEq] at hr
        rename_i ds
        split at hr
        · rename_i hk
          rw [Bool.and_eq_true] at hk
          obtain ⟨j, hj, rfl⟩ := Option.map_eq_some_iff.mp hr
          have q1 := (p1.rv r2.sr e1).dp hk.2
          have q2 := (r2.op.rv r2.sr e2).dp hk.1
          unfold findD at hj
          obtain ⟨hj1, hj2, hj3⟩ := List.findIdx?_eq_some_iff_getElem.mp hj
          refine ⟨a, u, e, ds, j, ds[j], rfl, rfl, q1, q2, hk.2, hk.1, List.getElem?_eq_getElem hj1, hj2, fun m z' hm hz => ?_, g.int r2.sr⟩
          obtain ⟨hl, rfl⟩ := List.getElem?_eq_some_iff.mp hz
          have := hj3 m hm
          simpa using this
        · cases hr
  · exact g1.elim
/-- i.bit_length() -/
theorem ed_bitl {ta : TE} {fa : Env → Rs Rv} (ha : ED K C W ta fa) : ED K C W (tBits ta) fun ρ => (fa ρ).bind fun x ρ1 => match dat ρ1 x with
    | some d => liftR (bitlD d) ρ1
    | _ => .no := by
  intro B σ H ρ Q s hg
  refine ha.bindE s hg fun x ρ1 v H1 k1 o1 x1 f1 r1 g1 => ?_
  split at g1
  · rename_i d e
    obtain ⟨r, hr, g⟩ := g1.lift
    cases d <;> simp only [bitlD, Option.some.injEq, reduceCtorEq] at hr
    subst hr
    refine ⟨_, (r1.op.rv r1.sr e).int, ?_⟩
    rename_i i
    have : Builtin.Int.intBits i = blen i := by
      unfold Builtin.Int.intBits blen
      by_cases h : i = 0 <;> simp [h]
    rw [this]
    exact g.int r1.sr
  · exact g1.elim
/-- x is True, x is not False -/
def rIsB (n : Bool) : R2 := fun x y H Q => ∃ b c, x = .bl b ∧ y = .bl c ∧ Q (.bl (if n = true then !decide (b = c) else decide (b = c))) H
theorem op_isB {X : Cx} (n : Bool) : OpR X (compareOp (if n = true then .IsNot else .Is)) (rIsB n) := by
  intro pins s σ H x y v u Q I rx ry h
  obtain ⟨b, c, rfl, rfl, q⟩ := h
  cases rx
  cases ry
  cases n with
  | false =>
    show wpAny _ _ ((isSame (Value.bool b) (Value.bool c)) >>= fun z => pure (Value.bool z)) _ _ s
    refine wpAny_bind (wpAny_isSame_plain rfl (wpAny_pure ⟨.bl _, H, I, rfl, ?_⟩))
    cases b <;> cases c <;> exact q
  | true =>
    show wpAny _ _ ((isSame (Value.bool b) (Value.bool c)) >>= fun z => pure (Value.bool (!z))) _ _ s
    refine wpAny_bind (wpAny_isSame_plain rfl (wpAny_pure ⟨.bl _, H, I, rfl, ?_⟩))
    cases b <;> cases c <;> exact q
theorem ed_isB {ta : TE} {fa : Env → Rs Rv} (ha : ED K C W ta fa) (n c : Bool) : ED K C W (tOp (rIsB n) ta (tC (.bl c))) fun ρ => (fa ρ).bind fun x ρ1 => match dat ρ1 x with
    | some d => liftR (isBD n c d) ρ1
    | _ => .no := by
  intro B σ H ρ Q s hg
  refine ha.bindE s hg fun x ρ1 v H1 k1 o1 x1 f1 r1 g1 => ?_
  split at g1
  · rename_i d e
    obtain ⟨r, hr, g⟩ := g1.lift
    cases d <;> simp only [isBD, Option.some.injEq, reduceCtorEq] at hr
    subst hr
    exact ⟨_, c, (r1.op.rv r1.sr e).bool, rfl, g.bool r1.sr⟩
  · exact g1.elim
/-- xs.pop(k) -/
theorem ed_popI {te : TE} {f : Env → Rs Rv} {i : Nat} (h : ED K C W te f) : ED K C W (tBM K "list" rPopAt (tVar i) (tCons te tNil)) fun ρ => if oLst ρ i = true then (f ρ).bind fun y ρ1 => match y with
    | .val (.int k) => match popD i k ρ1 with
      | some (d, ρ2) => .ok (.val d) ρ2
      | none => .no
    | _ => .no else .no := by
  intro B σ H ρ Q s hg
  dsimp only at hg
  split at hg
  · rename_i hl
    obtain ⟨a, xs, e2, e3⟩ := oLst_ok s hl
    refine ⟨_, e2, .inl ⟨rfl, _, SqL.of e3⟩, ?_⟩
    refine h.bindE s hg fun r ρ1 v H1 k o x fr r' g => ?_
    split at g
    · rename_i kk
      have hv : v = .int kk := (r'.op.rv r'.sr rfl).int
      subst hv
      split at g
      · rename_i d ρ2 ep
        unfold popD at ep
        split at ep
        · rename_i ds e1
          split at ep
          · rename_i n
            split at ep
            · rename_i hn
              obtain ⟨c, hc, ec⟩ := Option.map_eq_some_iff.mp ep
              simp only [Prod.mk.injEq] at ec
              obtain ⟨rfl, rfl⟩ := ec
              obtain ⟨a', q1, nb, ro⟩ := r'.sr.own i _ e1
              rw [e2] at q1
              cases q1
              obtain ⟨ys, eH, rr⟩ := ro.list
              obtain ⟨w, hw, rw'⟩ := rr.get hc
              have hlt : n < ys.length := (List.getElem?_eq_some_iff.mp hw).1
              have T := r'.sr.chg (lk := []) e1 e2 eH (Rps.erase n rr)
              have hseq : seqIndex? (Int.ofNat n) ys.length = some n := by
                have := seqIndex_of (k := (n : Int)) (n := ys.length) (by omega) (by omega)
                simpa using this
              refine ⟨a, ys, Int.ofNat n, n, w, rfl, rfl, eH, by simp, by simp; omega, hseq, hw, ?_⟩
              have os : OSub σ (ρ1.set i (some (true, .list (ds.eraseIdx n)))) ρ1 := fun x z => (T.ow x z).elim id fun z' => by
                obtain ⟨j, c', z1, z2⟩ := z
                by_cases hij : i = j
                · subst hij; exact ⟨i, _, e1, z2⟩
                · rw [List.getElem?_set_ne hij] at z1; exact ⟨j, c', z1, z2⟩
              have ex : Ext ρ1 (ρ1.set i (some (true, .list (ds.eraseIdx n)))) := fun j m z q => by
                by_cases hij : i = j
                · subst hij; exact ⟨_, _, List.getElem?_set_self (List.getElem?_eq_some_iff.mp q).1⟩
                · exact ⟨m, z, by rw [List.getElem?_set_ne hij]; exact q⟩
              exact g _ _ T.kp os ex trivial ⟨T.sr, rw'.stay T.kp os⟩
            · cases ep
          · cases ep
        · cases ep
      · exact g.elim
    · exact g.elim
  · exact hg.elim
end
end PD
set_option maxRecDepth 100000
set_option autoImplicit false
/-! PDS: a tuple turned about; sorted(set(xs)) of a list of integers. -/
namespace PD
open PySem PySem.Spec PyProof.Rows L2
section
variable {prog : Program} {w : World} {A : Around} {E : Value → Shared → Prop} {s : Shared}
/-! ### t[::-1] -/
theorem back_adj (n : Nat) : Builtin.Slice.sliceAdjust none none (-1) (n : Int) = ((n : Int) - 1, -1) := by
  unfold Builtin.Slice.sliceAdjust; simp
theorem back_places (n : Nat) : Builtin.Slice.slicePlaces ((n : Int) - 1) (-1) (-1) = n := by
  unfold Builtin.Slice.slicePlaces
  simp only [show ¬ ((-1 : Int) > 0) by omega, if_false]
  split
  · rw [show (- -1 : Int) = 1 by rfl, Int.ediv_one]; omega
  · omega
theorem back_pick (xs : Array Value) : ((List.range xs.size).filterMap fun (k : Nat) => xs[(((xs.size : Int) - 1) + (k : Int) * (-1)).toNat]?).toArray = xs.toList.reverse.toArray := by
  have e : (fun (k : Nat) => xs[(((xs.size : Int) - 1) + (k : Int) * (-1)).toNat]?) = (fun j => xs[j]?) ∘ fun k => xs.size - 1 - k := by
    funext k
    show xs[_]? = xs[_]?
    rw [show (((xs.size : Int) - 1) + (k : Int) * (-1)).toNat = xs.size - 1 - k by omega]
  rw [e, ← List.filterMap_map, PySem.W.krv_range, List.filterMap_reverse, PySem.W.krv_all]
theorem back_applied {a : Addr} {v1 v2 v3 : Value} {n : Nat} {Q : Int × Int × Nat → Shared → Prop} (hs : s.heap.IsSliceOf a v1 v2 v3) (i1 : IsPart v1 none) (i2 : IsPart v2 none) (i3 : IsPart v3 (some (-1))) (h : Q ((n : Int) - 1, -1, n) s) :
    wpAny (model prog w) A (Builtin.Slice.sliceApplied (.ref a) (pure (n : Int))) Q E s := by
  obtain ⟨o, h1, h2, h3⟩ := id hs
  unfold Builtin.Slice.sliceApplied Builtin.Slice.sliceFields
  refine wpAny_bind (wpAny_bind (wpAny_field h1 h3 (x := v1) rfl (wpAny_bind (wpAny_field h1 h3 (x := v2) rfl (wpAny_bind (wpAny_field h1 h3 (x := v3) rfl (wpAny_pure ?_)))))))
  refine wpAny_bind (HT.slicePart_ i3 ?_)
  show wpAny _ _ (if ((-1 : Int) == 0) = true then _ else _) _ _ s
  rw [if_neg (by decide)]
  refine wpAny_bind (HT.slicePart_ i1 (wpAny_bind (HT.slicePart_ i2 (wpAny_bind (wpAny_pure ?_)))))
  show wpAny _ _ (match Builtin.Slice.sliceAdjust none none (-1) (n : Int) with | (x, y) => pure (x, (-1 : Int), Builtin.Slice.slicePlaces x y (-1))) _ _ s
  rw [back_adj]
  show wpAny _ _ (pure ((n : Int) - 1, (-1 : Int), Builtin.Slice.slicePlaces ((n : Int) - 1) (-1) (-1))) _ _ s
  rw [back_places]
  exact wpAny_pure h
theorem back_tuple {t a : Addr} {its : Array Value} {v1 v2 v3 : Value} {Q : Value → Shared → Prop} (ht : IsTup s.heap t its) (hs : s.heap.IsSliceOf a v1 v2 v3) (i1 : IsPart v1 none) (i2 : IsPart v2 none) (i3 : IsPart v3 (some (-1))) (hz : its.size ≤ sizeLine)
    (h : Q (.ref s.heap.objs.size) { s with heap := s.heap.push { cls := .type "tuple", data := .seq its.toList.reverse.toArray } }) : wpAny (model prog w) A (getItem (.ref t) (.ref a)) Q E s := by
  have room : sizeOk (.seq its.toList.reverse.toArray) := by
    show its.toList.reverse.toArray.size ≤ sizeLine
    simpa using hz
  obtain ⟨o, h1, h2, h3⟩ := id hs
  have ty : s.TypeIs (.ref a) "slice" := ⟨o, h1, h2⟩
  unfold getItem
  try with_reducible apply wpAny_holding
  first | apply wpAny_bind; apply wpAny_pure | skip
  apply wpAny_bind
  refine wpAny_sequenceKey ht.typeIs (by decide) (wpAny_bind ?_)
  refine wpAny_callSpecial?_slot (name := Str.ofString "__getitem__") ht.typeIs PyProof.Rows.slot_tuple_getitem (wpAny_call_entry PyProof.Rows.slot_tuple_getitem ht.typeIs PyProof.Rows.entry_tuple_getitem ?_ (PyProof.Rows.args_tuple_getitem _ _))
  show wpAny _ _ (Builtin.Tuple.tupleItemsOf (.ref t) >>= _) _ _ s
  refine wpAny_bind (tupleItemsOf_ ht (wpAny_bind (wpAny_typeOf ty ?_)))
  rw [if_pos (by decide)]
  refine wpAny_bind (back_applied hs i1 i2 i3 ?_)
  show wpAny _ _ (if (((its.size : Int) - 1) == 0 && (-1 : Int) == 1 && its.size == its.size) = true then _ else _) _ _ s
  rw [if_neg (by simp), back_pick]
  exact wpAny_bind (m := Builtin.Tuple.tupleExact _) (wpAny_newObj_type (wpAny_pure ⟨_, rfl, wpAny_pure h⟩) room)
end
section
variable {X : Cx}
/-- xs[::-1], t[::-1] -/
def tRev2 (K : PySem.W.Frag) (te : TE) : TE := fun σ H Q => te σ H fun x H1 => ∃ a xs, x = V.ref a ∧ ((SqL K H1 a xs ∧ ∀ p, H1 p = none → Q (.ref p) (upd H1 p (.lst xs.reverse))) ∨ (SqT K H1 a xs ∧ ∀ p, H1 p = none → Q (.ref p) (upd H1 p (.tup xs.reverse))))
theorem pe_rev2 {e : Expr} {te : TE} {k : Nat} {p1 p2 p3 pos : Pos} (he : PE X e te) : PE X (.Subscript e (.Slice none none (some (.UnaryOp .USub (.Constant (.int 1) k p1) p2)) p3) pos) (tRev2 X.K te) := by
  constructor
  intro pins s σ H Q I h
  apply Subscript_
  refine thn (he.run pins s σ H _ I h) ?_
  rintro v s1 ⟨x, H1, I1, r1, a, xs, rfl, hx⟩
  cases r1
  have st : PO X (some (.UnaryOp .USub (.Constant (.int 1) k p1) p2)) (tPart (tUn (rU fun j => .int (-j)) (tC (.int 1)))) := po_some (pe_un un_neg pe_int)
  apply wpAny_Slice
  refine thn (po_none.run pins s1 σ H1 (fun o H' => o = none ∧ H' = H1) I1 ⟨rfl, rfl⟩) ?_
  rintro v1 s2 ⟨_, _, I2, i1, rfl, rfl⟩
  refine thn (po_none.run pins s2 σ _ (fun o H' => o = none ∧ H' = _) I2 ⟨rfl, rfl⟩) ?_
  rintro v2 s3 ⟨_, _, I3, i2, rfl, rfl⟩
  refine thn (st.run pins s3 σ _ (fun o H' => o = some (-1) ∧ H' = _) I3 ⟨1, rfl, -1, rfl, rfl, rfl⟩) ?_
  rintro v3 s4 ⟨_, H4, I4, i3, rfl, rfl⟩
  have J : Inv X pins σ H4 { s4 with heap := s4.heap.push { cls := .type "slice", data := .fields #[v1, v2, v3] } } := I4.kept (t' := s4.toks) fun b o z => Heap.get?_push_of_some _ z
  show wpAny (model X.prog X.w) X.A (subscriptTail e (.Slice none none (some (.UnaryOp .USub (.Constant (.int 1) k p1) p2)) p3) (.ref a) (.ref s4.heap.objs.size)) (EP X pins σ Q) X.xe { s4 with heap := s4.heap.push { cls := .type "slice", data := .fields #[v1, v2, v3] } }
  rcases hx with ⟨hx, q⟩ | ⟨hx, q⟩
  · obtain ⟨its, r, ht, hz⟩ := J.list hx
    have hl := r.length
    refine tail_any (ops := [.ref a, .ref s4.heap.objs.size]) ht.isList.typeIs PySem.slot_list_getitem.lookup (wpAny_getItem_list_slice ht.isList (Heap.IsSliceOf.new _ v1 v2 v3) i1 i2 i3 (by decide) ?_ (by rw [List.size_toArray]; omega)) (by with_unfolding_all rfl)
    rw [PySem.W.krv_pick]
    exact ⟨.ref _, _, J.laid (t' := s4.toks) (o := .lst xs.reverse) (fun b o z => Heap.get?_push_of_some _ z) (Nat.le_refl _) ⟨by rw [List.length_reverse]; exact hz, _, 0, r.reverse, Heap.get?_push_size _ rfl⟩, rfl, q _ (J.hok.fresh (Nat.le_refl _))⟩
  · obtain ⟨its, r, ht, hz⟩ := J.tuple hx
    have hl := r.length
    refine tail_any (ops := [.ref a, .ref s4.heap.objs.size]) ht.typeIs PyProof.Rows.slot_tuple_getitem.lookup (back_tuple ht (Heap.IsSliceOf.new _ v1 v2 v3) i1 i2 i3 (by rw [List.size_toArray]; omega) ?_) (by with_unfolding_all rfl)
    exact ⟨.ref _, _, J.laid (t' := s4.toks) (o := .tup xs.reverse) (fun b o z => Heap.get?_push_of_some _ z) (Nat.le_refl _) ⟨by rw [List.length_reverse]; exact hz, _, r.reverse, IsTup.new _ _⟩, rfl, q _ (J.hok.fresh (Nat.le_refl _))⟩
end
end PD
set_option maxRecDepth 100000
set_option maxHeartbeats 4000000
set_option autoImplicit false
/-! PDT: sorted(set(xs)) of a list of integers. -/
namespace PD
open PySem PySem.Spec PyProof.Rows L2
/-- a set just made -/
abbrev nset (w : World) : Obj := { cls := .type "set", dict := none, data := .set #[] 0 (.fresh 0 0 (!w.params.followText "set-order")) }
section
variable {P : Program} {w : World} {A : Around} {E : Value → Shared → Prop} {s : Shared}
theorem set_of_list {l : Addr} {its : Array Value} (ns : List Int) {Q : Value → Shared → Prop} (hh : A.handled = none) (hl : s.heap.IsList l its) (hi : IntsAre its.toList ns) (hb : ns.length + 1 < scanBound)
    (h : ∀ (h' : Heap) (tk c : Nat), SetR w h' s.heap.objs.size (fun j => decide (j ∈ ns)) c → c ≤ ns.length → (∀ b o, s.heap.get? b = some o → h'.get? b = some o) → Q (.ref s.heap.objs.size) { s with heap := h', toks := tk }) :
    wpAny (model P w) A (call (.type "set") [.ref l]) Q E s := by
  have zn : its.size = ns.length := by have z := IntsAre.length hi; rw [Array.length_toList] at z; exact z
  obtain ⟨c0, tl0, m0⟩ := F.called_set.mro
  have m1 := F.called_set.made; have m2 := F.called_set.sub; have m3 := F.called_set.notType; have m4 := F.called_set.canCreate; have m5 := F.typeCall_set_1 (.ref l)
  apply wpAny_call; apply codeAny_of_tree
  show wpAny _ _ (callAny (.type "set") _) _ _ _
  refine wpAny_pure ⟨Code.quiet_builtin _ (by decide +kernel), codeAny_builtin F.entry_type_call ?_⟩; rw [Around.under_plain (weight_type_call_type "set" [.ref l] []) rfl]
  repeat (any_goals (first | assumption | wp_step))
  refine codeAny_mono (code_set_led1 (.ref l) (E := E) (Q₁ := fun v s1 => v = .ref s.heap.objs.size ∧ s1 = { s with heap := s.heap.push (nset w) }) ⟨rfl, rfl⟩) ?_
  rintro r s1 hr
  rcases r with _ | fl
  · exact hr
  rcases fl with _ | v <;> try exact hr.elim
  obtain ⟨rfl, rfl⟩ := hr
  have gS : (s.heap.push (nset w)).get? s.heap.objs.size = some (nset w) := Heap.get?_push_size _ rfl
  have tS : Shared.TypeIs { s with heap := s.heap.push (nset w) } (.ref s.heap.objs.size) "set" := ⟨_, gS, rfl⟩
  have m6 := F.called_set.init.lookup; have m7 := F.called_set.init.bind (.ref s.heap.objs.size)
  repeat (any_goals (first | assumption | wp_step))
  refine codeAny_mono (codeAny_call_builtin (R := wants (fun v s2 => v = .none ∧ ∃ h' tk c, s2 = { s with heap := h', toks := tk } ∧ SetR w h' s.heap.objs.size (fun j => decide (j ∈ ns)) c ∧ c ≤ ns.length ∧ ∀ b o, s.heap.get? b = some o → h'.get? b = some o) E) F.called_set.init.plain F.entry_set_init (check_set_init_1 tS ?_)) ?_
  · obtain ⟨⟨oc, od, oa, os⟩, g1, g2, n1, g3⟩ := hl
    simp only at g2 g3; subst g2; subst g3
    have gl : (s.heap.push (nset w)).get? l = some { cls := .type "list", dict := od, data := .seq its n1, slots := os } := Heap.get?_push_of_some _ g1
    have tl : Shared.TypeIs { s with heap := s.heap.push (nset w) } (.ref l) "list" := ⟨_, gl, rfl⟩
    have il : (s.heap.push (nset w)).IsList l its := ⟨_, gl, rfl, n1, rfl⟩
    have u1 := F.sub_list_set; have u2 := F.sub_list_frozenset
    have u3 : (Value.type "list" == Value.type "dict") = false := by decide
    unfold Builtin.«set.__init__» noKeywords Builtin.Frozenset.updateFrom
    generalize hPI : pyIter = PI
    wp_walk
    subst hPI
    have la := Heap.lt_size g1
    have zS : (s.heap.push (nset w)).objs.size = s.heap.objs.size + 1 := Heap.size_push ..
    refine wpAny_pyIter_list il (wpAny_bind (wpAny_runValue ?_))
    have vals : ∀ (j : Nat) (v : Value), its[j]? = some v → ∃ k t, ns[j]? = some k ∧ v = .int k t := fun j v e => by
      have jn : j < ns.length := by rw [← zn]; exact (Array.getElem?_eq_some_iff.mp e).1
      obtain ⟨t, z⟩ := PyProof.Rows.IntsAre.int_at hi j v (by rw [Array.getElem?_toList]; exact e)
      exact ⟨ns[j], t, List.getElem?_eq_getElem jn, by rw [z, List.getD_eq_getElem?_getD, List.getElem?_eq_getElem jn] <;> rfl⟩
    refine set_update_ints ((Walks.list (by simp [hh]) (s.heap.push (nset w)).objs.size l (by rw [zS]; exact Nat.ne_of_lt (Nat.lt_succ_of_lt la)) its).toS) s.heap.objs.size (by rw [zS]; simp only [List.mem_cons, List.not_mem_nil, or_false, not_or]; exact ⟨Nat.ne_of_lt (Nat.lt_succ_self _), Nat.ne_of_gt la⟩) ns zn hb vals its.size 0 _ (by omega) (Nat.zero_le _) ⟨⟨_, Heap.get?_push_size _ rfl, rfl, rfl⟩, il.push _⟩ ⟨0, Nat.le_refl 0, setR_new_at (Heap.get?_push_of_some _ gS)⟩ ?_
    rintro ⟨h', g', d', tk', o'⟩ c' hm hc hS
    have e1 : g' = s.gens := hm.gens
    have e2 : d' = s.drawn := hm.drawn
    have e3 : o' = s.os := hm.os
    subst e1; subst e2; subst e3
    show wpAny _ _ _ _ _ _
    refine wpAny_pure ?_
    show wpAny _ _ (ret Value.none) _ _ _
    refine wpAny_pure ⟨rfl, h', tk', c', rfl, hS, by rw [← zn]; exact hc, fun b o e => ?_⟩
    have hb := Heap.lt_size e
    exact hm.heap b o (by rw [zS]; simp only [List.mem_cons, List.not_mem_nil, or_false, not_or]; exact ⟨Nat.ne_of_lt hb, Nat.ne_of_lt (Nat.lt_succ_of_lt hb)⟩) (Heap.get?_push_of_some _ (Heap.get?_push_of_some _ e))
  · rintro r2 s2 hr2
    rcases r2 with _ | fl
    · exact hr2
    rcases fl with _ | v <;> try exact hr2.elim
    obtain ⟨rfl, h', tk, c, rfl, q1, q2, q3⟩ := hr2
    repeat (any_goals (first | assumption | wp_step))
    exact h _ _ _ q1 q2 q3
end
section
variable {X : Cx}
def rSetLI (K : PySem.W.Frag) (w : World) : List V → Hp → VK → Prop := fun xs H Q => ∃ (l : Addr) (ns : List Int), xs = [V.ref l] ∧ SqL K H l (ns.map V.int) ∧ ns.length < 64 ∧ ∀ p c, H p = none → c ≤ ns.length → Q (.ref p) (upd H p (SetO w p (fun j => decide (j ∈ ns)) c))
theorem cr_setLI (hc : X.calm = true) : CallR X (.type "set") (rSetLI X.K X.w) := by
  intro pins s σ H xs us Q I r h
  obtain ⟨l, ns, rfl, hl, hn, q⟩ := h
  rw [Vals.ref1 r]
  obtain ⟨its, r1, pl, hz⟩ := I.list hl
  refine set_of_list ns (I.ok.hd hc) pl.isList (by simpa using ints_of_vals r1) (by unfold scanBound; omega) fun h' tk c S hcl hk => ?_
  exact ⟨.ref _, _, I.laid (t' := tk) (o := SetO X.w s.heap.objs.size (fun j => decide (j ∈ ns)) c) hk (Nat.le_refl _) (setO_new S), rfl, q _ c (I.hok.fresh (Nat.le_refl _)) hcl⟩
end
section
variable [WW] {X : Cx}
/-- len(set(xs)), xs a list of integers -/
def tLenS (K : PySem.W.Frag) (ta : TE) : TE := fun σ H Q => ta σ H fun x H1 => ∃ (l : Addr) (ns : List Int), x = .ref l ∧ SqL K H1 l (ns.map V.int) ∧ ns.length < 1000 ∧ Q (.int ((PyProof.Rows.firstMet (fun i => ns.getD i 0) ns.length).length : Nat)) H1
theorem pe_lenS {a : Expr} {ta : TE} {p p2 q pos : Pos} (hg : Gl X "len") (hm : X.mg "len" = none) (kg : Gl X "set") (km : X.mg "set" = none) (ha : PE X a ta) (hc : X.calm = true) (na : notStar a = true) :
    PE X (.Call (.Name "len" p) [.Call (.Name "set" p2) [a] [] q] [] pos) (tLenS X.K ta) := by
  have st : starEach [a] X.env = (false, eval a X.env) :: starEach [] X.env := star_cons na
  refine ⟨fun pins s σ H Q I hyp => Call_ (ld_blt I hg hm boot_len (PyProof.Rows.callWith_builtin1 (PyProof.Rows.args_cons (Call_ (ld_blt I kg km PyProof.Rows.boot_set ?_)) rfl) rfl rfl))⟩
  refine PyProof.Rows.callWith_type1 (PyProof.Rows.args_cons (thn (ha.run pins s σ H _ I hyp) fun v s1 hh => PyProof.Rows.args_nil ?_) st) st rfl
  obtain ⟨x, H1, I1, r1, l, ns, rfl, hq, hl, fin⟩ := hh
  cases r1
  obtain ⟨its, r, pl, hz⟩ := I1.list hq
  have sz : its.toArray.size = ns.length := by rw [List.size_toArray, ← r.length, List.length_map]
  refine call_set_list (ns := ns) (I1.ok.hd hc) pl.isList (by simpa using ints_of_vals r) (by rw [sz]; unfold scanBound; omega) fun h' tk made kept => PyProof.Rows.args_nil ?_
  rw [sz] at made
  obtain ⟨o, es, ep, t, ho, hex, hd, _, _, _, hf, hn⟩ := made
  have I2 : Inv X pins σ H1 { s1 with heap := h', toks := tk } := I1.kept fun b o e => kept b o (Heap.lt_size e) e
  have le : (PyProof.Rows.firstMet (fun i => ns.getD i 0) ns.length).length ≤ ns.length := PyProof.Rows.firstMet_length_le _ _
  exact call_len_set ho hex hd hf (by rw [hn] <;> omega) ⟨.int _, H1, I2.tok _, ⟨_, by rw [hn]⟩, fin⟩
end
/-! ### ascending, each once -/
theorem mem_insD {j k : Int} : ∀ {xs : List Int}, j ∈ insD k xs ↔ j = k ∨ j ∈ xs
  | [] => by simp [insD]
  | x :: xs => by
    have ih := mem_insD (j := j) (k := k) (xs := xs)
    unfold insD
    split
    · simp
    · split
      · rename_i h; subst h; simp
      · simp only [List.mem_cons, ih]
        constructor
        · rintro (h | h | h)
          · exact .inr (.inl h)
          · exact .inl h
          · exact .inr (.inr h)
        · rintro (h | h | h)
          · exact .inr (.inl h)
          · exact .inl h
          · exact .inr (.inr h)
theorem up_insD {k : Int} : ∀ {xs : List Int}, xs.Pairwise (· < ·) → (insD k xs).Pairwise (· < ·)
  | [], _ => by simp [insD]
  | x :: xs, h => by
    obtain ⟨h1, h2⟩ := List.pairwise_cons.mp h
    unfold insD
    split
    · rename_i g
      exact List.pairwise_cons.mpr ⟨fun y hy => (List.mem_cons.mp hy).elim (fun e => by omega) fun e => by have := h1 y e; omega, h⟩
    · split
      · exact h
      · exact List.pairwise_cons.mpr ⟨fun y hy => (mem_insD.mp hy).elim (fun e => by omega) (h1 y), up_insD h2⟩
theorem mem_sdl {j : Int} : ∀ {xs : List Int}, j ∈ sdl xs ↔ j ∈ xs
  | [] => by simp [sdl]
  | x :: xs => by rw [sdl, mem_insD, mem_sdl (xs := xs), List.mem_cons]
theorem up_sdl : ∀ (xs : List Int), (sdl xs).Pairwise (· < ·)
  | [] => by simp [sdl]
  | x :: xs => up_insD (up_sdl xs)
theorem up_one : ∀ {xs ys : List Int}, xs.Pairwise (· < ·) → ys.Pairwise (· < ·) → (∀ k, k ∈ xs ↔ k ∈ ys) → xs = ys
  | [], [], _, _, _ => rfl
  | [], y :: ys, _, _, h => by have := (h y).mpr (by simp); simp at this
  | x :: xs, [], _, _, h => by have := (h x).mp (by simp); simp at this
  | x :: xs, y :: ys, a, b, h => by
    obtain ⟨a1, a2⟩ := List.pairwise_cons.mp a
    obtain ⟨b1, b2⟩ := List.pairwise_cons.mp b
    have e : x = y := by
      rcases List.mem_cons.mp ((h x).mp (by simp)) with e | e
      · exact e
      · rcases List.mem_cons.mp ((h y).mpr (by simp)) with e2 | e2
        · exact e2.symm
        · have := a1 y e2; have := b1 x e; omega
    subst e
    rw [up_one a2 b2 fun k => ⟨fun hk => ?_, fun hk => ?_⟩]
    · rcases List.mem_cons.mp ((h k).mp (by simp [hk])) with e | e
      · have := a1 k hk; omega
      · exact e
    · rcases List.mem_cons.mp ((h k).mpr (by simp [hk])) with e | e
      · have := b1 k hk; omega
      · exact e
section
variable [WW] {K : PySem.W.Frag} {C : Nat → Addr} {W : WX}
theorem ed_rev {ta : TE} {fa : Env → Rs Rv} (ha : ED K C W ta fa) : ED K C W (tRev2 K ta) fun ρ => (fa ρ).bind fun x ρ1 => match dat ρ1 x with
    | some d => liftR (revD d) ρ1
    | _ => .no := by
  intro B σ H ρ Q s hg
  refine ha.bindE s hg fun x ρ1 v H1 k1 o1 x1 f1 r1 g1 => ?_
  split at g1
  · rename_i d e
    obtain ⟨r, hr, g⟩ := g1.lift
    cases d <;> simp only [revD, Option.some.injEq, reduceCtorEq] at hr
    · subst hr
      obtain ⟨a, xs, rfl, h1, p1⟩ := (r1.op.rv r1.sr e).list
      exact ⟨a, xs, rfl, .inl ⟨h1, fun p hp => g.newL r1.sr p1.reverse hp⟩⟩
    · subst hr
      obtain ⟨a, xs, rfl, h1, p1⟩ := (r1.op.rv r1.sr e).tuple
      exact ⟨a, xs, rfl, .inr ⟨h1, fun p hp => g.newT r1.sr p1.reverse hp⟩⟩
  · exact g1.elim
theorem ed_sset {w : World} {ta : TE} {fa : Env → Rs Rv} (ha : ED K C W ta fa) : ED K C W (tCB (rSortedSet w) (tCons (tCB (rSetLI K w) (tCons ta tNil)) tNil)) fun ρ => (fa ρ).bind fun x ρ1 => match dat ρ1 x with
    | some d => liftR (ssetD d) ρ1
    | _ => .no := by
  intro B σ H ρ Q s hg
  refine ha.bindE s hg fun x ρ1 v H1 k1 o1 x1 f1 r1 g1 => ?_
  split at g1
  · rename_i d e
    obtain ⟨r, hr, g⟩ := g1.lift
    cases d <;> simp only [ssetD, reduceCtorEq] at hr
    rename_i ds
    split at hr
    · rename_i hl
      obtain ⟨ns, h1, rfl⟩ := Option.map_eq_some_iff.mp hr
      obtain ⟨a, ys, rfl, h, p⟩ := (r1.op.rv r1.sr e).list
      have zl : ys.length = ds.length := p.length
      obtain ⟨rfl, _⟩ := intsOf_rps h1 p
      have hn : ns.length < 64 := by rw [List.length_map] at zl; omega
      refine ⟨a, ns, rfl, h, hn, fun q c hq hc => ⟨q, _, c, rfl, upd_same, by omega, fun ns' p' up mem hlen hp => ?_⟩⟩
      have z : ns' = sdl ns := up_one up (up_sdl ns) fun k => by rw [mem k, mem_sdl]; simp
      subst z
      exact (g.step (Keep.new hq) (OSub.refl _ _) (Ext.refl _)).newL (r1.sr.new hq) (rps_ints _) hp
    · cases hr
  · exact g1.elim
theorem ed_lset {ta : TE} {fa : Env → Rs Rv} (ha : ED K C W ta fa) : ED K C W (tLenS K ta) fun ρ => (fa ρ).bind fun x ρ1 => match dat ρ1 x with
    | some d => liftR (lsetD d) ρ1
    | _ => .no := by
  intro B σ H ρ Q s hg
  refine ha.bindE s hg fun x ρ1 v H1 k1 o1 x1 f1 r1 g1 => ?_
  split at g1
  · rename_i d e
    obtain ⟨r, hr, g⟩ := g1.lift
    cases d <;> simp only [lsetD, reduceCtorEq] at hr
    rename_i ds
    split at hr
    · rename_i hl
      obtain ⟨ns, h1, rfl⟩ := Option.map_eq_some_iff.mp hr
      obtain ⟨a, ys, rfl, h, p⟩ := (r1.op.rv r1.sr e).list
      have zl : ys.length = ds.length := p.length
      obtain ⟨rfl, _⟩ := intsOf_rps h1 p
      exact ⟨a, ns, rfl, h, by rw [List.length_map] at zl; omega, g _ _ (Keep.refl _ _) (OSub.refl _ _) (Ext.refl _) trivial ⟨r1.sr, .int _⟩⟩
    · cases hr
  · exact g1.elim
end
end PD
set_option maxRecDepth 100000
set_option maxHeartbeats 4000000
set_option autoImplicit false
/-! PDV: texts: sep.join(list), displayed dicts of texts, constant dicts of texts. -/
namespace PD
variable [WW]
open PySem PySem.Spec PyProof.Rows L2
section
variable {K : PySem.W.Frag} {C : Nat → Addr} {W : WX} {S : Addr → Prop} {H : Hp}
theorem strsOf_rps : ∀ {ds : List PyData} {vs : List V} {ys : List Str}, strsOf ds = some ys → Rps K S H vs ds → vs = ys.map V.str
  | [], _, ys, h, r => by
    simp only [strsOf, Option.some.injEq] at h
    subst h
    cases r
    rfl
  | d :: ds, _, ys, h, r => by
    cases d with
    | str x =>
      simp only [strsOf] at h
      obtain ⟨zs, h1, rfl⟩ := Option.map_eq_some_iff.mp h
      cases r with
      | cons r1 r2 =>
        cases r1
        rw [strsOf_rps h1 r2]
        rfl
    | _ => simp [strsOf] at h
def tJoin (K : PySem.W.Frag) (s : Str) (te : TE) : TE := tM1 (fun x xs H Q => ∃ a p, ∃ ys : List Str, x = .str a ∧ xs = [.ref p] ∧ (SqL K H p (ys.map V.str) ∨ SqT K H p (ys.map V.str)) ∧
      (ys.map (·.length)).sum + ys.length * a.length ≤ 16777216 ∧ Q (.str (Txt.join a ys)) H) (tC (.str s)) te
theorem ed_join {s : Str} {te : TE} {f : Env → Rs Rv} (h : ED K C W te f) : ED K C W (tJoin K s te) fun ρ => (f ρ).bind fun x ρ1 => match dat ρ1 x with
    | some d => liftR (joinD s d) ρ1
    | _ => .no := by
  intro B σ H ρ Q sr hg
  refine ⟨⟨s, rfl⟩, ?_⟩
  refine h.bindE sr hg fun x ρ1 v H1 k1 o1 x1 f1 r1 g1 => ?_
  split at g1
  · rename_i d e
    obtain ⟨r, hr, g⟩ := g1.lift
    cases d <;> simp only [joinD, reduceCtorEq] at hr
    rename_i ds
    obtain ⟨ys, h1, h2⟩ := Option.bind_eq_some_iff.mp hr
    split at h2
    · rename_i hz
      simp only [Option.some.injEq] at h2
      subst h2
      obtain ⟨a, xs, rfl, hq, p⟩ := (r1.op.rv r1.sr e).list
      have := strsOf_rps h1 p
      subst this
      exact ⟨s, a, ys, rfl, rfl, .inl hq, by omega, g.give r1.sr (.str _)⟩
    · cases h2
  · exact g1.elim
/-! ### a displayed dict -/
def dspT (kvs : List (Str × Str)) : List (TE × TE) := kvs.map fun p => (tC (.str p.1), tC (.str p.2))
def chkDsp : List (Str × Str) → List (Option Expr) → List Expr → Bool
  | [], ks, vs => ks.isEmpty && vs.isEmpty
  | (a, b) :: r, ks, vs => match ks, vs with
    | some (.Constant (.str x) _ _) :: ks, .Constant (.str y) _ _ :: vs => x == a && y == b && chkDsp r ks vs
    | _, _ => false
theorem dsp_pps {X : Cx} {pos : Pos} : ∀ {kvs : List (Str × Str)} {ks : List (Option Expr)} {vs : List Expr}, chkDsp kvs ks vs = true → PPs X pos ks vs (dspT kvs) ∧ ks.all (·.isSome) = true ∧ ks.length = vs.length ∧ ks.length = kvs.length
  | [], ks, vs, h => by
    simp only [chkDsp, Bool.and_eq_true, List.isEmpty_iff] at h
    obtain ⟨rfl, rfl⟩ := h
    exact ⟨pps_nil, rfl, rfl, rfl⟩
  | (a, b) :: r, ks, vs, h => by
    simp only [chkDsp] at h
    split at h
    · simp only [Bool.and_eq_true, beq_iff_eq] at h
      obtain ⟨⟨rfl, rfl⟩, h⟩ := h
      obtain ⟨i1, i2, i3, i4⟩ := dsp_pps (X := X) (pos := pos) h
      exact ⟨pps_cons pe_str pe_str i1, by simp [i2], by simp [i3], by simp [i4]⟩
    · cases h
theorem merge_nodup : ∀ {more acc : List (Key × V)}, ((acc ++ more).map (·.1)).Nodup → mergeK acc more = acc ++ more
  | [], acc, _ => by simp [mergeK]
  | p :: more, acc, h => by
    have hp : putK acc p.1 p.2 = acc ++ [p] := by
      unfold putK
      rw [if_neg]
      intro z
      obtain ⟨q, hq, e⟩ := List.any_eq_true.mp z
      rw [List.map_append, List.map_cons] at h
      exact (List.nodup_append.mp h).2.2 q.1 (List.mem_map_of_mem hq) p.1 List.mem_cons_self (of_decide_eq_true e)
    have e : mergeK acc (p :: more) = mergeK (acc ++ [p]) more := by
      show mergeK (putK acc p.1 p.2) more = _
      rw [hp]
    rw [e, merge_nodup (by simpa using h)]
    simp
theorem dsp_pairs {σ : L2.St} : ∀ {kvs : List (Str × Str)} {H : Hp} {Q : List (V × V) → Hp → Prop}, Q (kvs.map fun p => (V.str p.1, V.str p.2)) H → tPairs (dspT kvs) σ H Q
  | [], _, _, q => q
  | p :: kvs, _, _, q => dsp_pairs (kvs := kvs) q
theorem strs_rps : ∀ l : List (Str × Str), Rps K S H (l.map fun p => V.str p.2) (l.map fun p => PyData.str p.2)
  | [] => .nil
  | _ :: l => .cons (.str _) (strs_rps l)
theorem ed_dsp {kvs : List (Str × Str)} (hl : kvs.length ≤ 15) : ED K C W (tDisp (dspT kvs)) fun ρ => if (kvs.map (·.1)).Nodup then .ok (.own (.dict (kvs.map fun p => (.str p.1, .str p.2)))) ρ else .no := by
  intro B σ H ρ Q s g p hp
  split at g
  · rename_i nd
    refine dsp_pairs ⟨upd_same, kvs.map fun p : Str × Str => (((.inr p.1 : Key), V.str p.2) : Key × V), by rw [List.map_map]; rfl, by rw [List.length_map]; exact hl, ?_⟩
    have nd2 : List.Nodup ((([] : List (Key × V)) ++ kvs.map fun p : Str × Str => (((.inr p.1 : Key), V.str p.2) : Key × V)).map (fun x => x.1)) := by
      rw [List.nil_append, List.map_map]
      have : (kvs.map ((fun x : Key × V => x.1) ∘ fun p : Str × Str => (((.inr p.1 : Key), V.str p.2) : Key × V))) = (kvs.map (·.1)).map fun x => (.inr x : Key) := by rw [List.map_map]; rfl
      rw [this]
      exact List.Pairwise.map _ (fun a b h e => h (Sum.inr.inj e)) nd
    rw [merge_nodup nd2, List.nil_append]
    have nb : ¬ B p := fun b => by obtain ⟨o, q⟩ := s.bt p b; rw [hp] at q; cases q
    have uu : ∀ o, upd (upd H p (.dK [])) p o = upd H p o := fun o => by
      funext b
      by_cases h : b = p
      · subst h; rw [upd_same, upd_same]
      · rw [upd_ne h, upd_ne h, upd_ne h]
    rw [uu]
    refine g _ _ (Keep.new hp) (OSub.refl _ _) (Ext.refl _) (fun a e => by cases e; exact hp) ⟨p, rfl, nb, s.block hp, .dic (ks := kvs.map fun p : Str × Str => ((PyData.str p.1, V.str p.2) : PyData × V)) (.inl ⟨_, upd_same, by rw [List.map_map]; rfl⟩) (by rw [List.map_map, List.map_map]; rfl) ?_⟩
    rw [List.map_map, List.map_map]
    exact strs_rps kvs
  · exact g.elim
/-! ### a constant dict -/
theorem ed_cdx {w : World} {kvs : List (Str × Str)} {a : Addr} {te ta : TE} {f : Env → Rs Rv} (hk : ∀ k v, (k, v) ∈ kvs → KDct K w a k (.str v)) (ht : ∀ {σ H} {Q : VK}, Q (.ref a) H → ta σ H Q) (h : ED K C W te f) : ED K C W (tOp (rIxD K w) ta te) fun ρ => (f ρ).bind fun x ρ1 => match dat ρ1 x with
    | some d => liftR (cdxD kvs d) ρ1
    | _ => .no := by
  intro B σ H ρ Q s hg
  refine ht ?_
  refine h.bindE s hg fun x ρ1 v H1 k1 o1 x1 f1 r1 g1 => ?_
  split at g1
  · rename_i d e
    obtain ⟨r, hr, g⟩ := g1.lift
    cases d <;> simp only [cdxD, reduceCtorEq] at hr
    rename_i z
    obtain ⟨u, h1, rfl⟩ := Option.map_eq_some_iff.mp hr
    obtain ⟨q, h2, rfl⟩ := Option.map_eq_some_iff.mp h1
    have hm := List.mem_of_find?_eq_some h2
    have he : q.1 = z := by simpa using List.find?_some h2
    obtain ⟨q1, q2⟩ := q
    cases he
    exact ⟨a, q1, .str q2, rfl, (r1.op.rv r1.sr e).str, hk _ _ hm, g.give r1.sr (.str _)⟩
  · exact g1.elim
end
end PD
set_option maxRecDepth 100000
set_option autoImplicit false
set_option maxHeartbeats 0
/-! PD13: an expression that is what a piece of code says has a reading by that code. -/
namespace PD
variable [WW]
open PySem PySem.Spec PyProof.Rows L2
theorem PE.mono {X : Cx} {e : Expr} {t t' : TE} (h : PE X e t) (m : ∀ σ H Q, t' σ H Q → t σ H Q) : PE X e t' := ⟨fun pins s σ H Q I hw => h.run pins s σ H Q I (m _ _ _ hw)⟩
/-! ### small looks -/
def notSet : Expr → Bool
  | .Set .. => false
  | _ => true
def notIf : Expr → Bool
  | .IfExp .. => false
  | _ => true
def isBool : Expr → Bool
  | .BoolOp .. => true
  | _ => false
def notSlice : Expr → Bool
  | .Slice .. => false
  | _ => true
theorem nomarkS {op : CmpOp} {e : Expr} (h : notSet e = true) : behindInMarks op e = false := by
  cases e <;> first | rfl | (simp [notSet] at h)
theorem lastS {op op' : CmpOp} {b c : Expr} (h : notSet c = true) : lastMarks [op, op'] [b, c] = false := by
  show behindInMarks op' c = false
  exact nomarkS h
theorem foldS {e : Expr} {env : PySem.Env} (h : notSet e = true) : ∀ x, foldedSetIterable e env x = pure x := by
  intro x
  cases e <;> first | rfl | (simp [notSet] at h)
theorem plainIxS {e : Expr} (h : notSlice e = true) : PlainIx e := by
  intro o i
  cases e <;> first | rfl | (simp [notSlice] at h)
def tyStr (t : String) : Str := Str.ofString t
theorem ty_boot {t : String} (h : okTys.contains t = true) : bootBuiltins (tyStr t) = some (.type t) := by
  have : t ∈ okTys := by simpa using h
  simp only [okTys, List.mem_cons, List.not_mem_nil, or_false] at this
  rcases this with e | e | e | e | e | e <;> subst e <;> rfl
def bi2 : Bi → Bool
  | .gcd => false
  | .comb => false
  | .fact => false
  | _ => true
/-- a module's functions -/
def biFn : Bi → Option String
  | .gcd => some "math.gcd"
  | .comb => some "math.comb"
  | .fact => some "math.factorial"
  | _ => none
theorem biFn_ok {b : Bi} {id : String} (h : biFn b = some id) : biVal b = .builtin id := by
  cases b <;> simp only [biFn, Option.some.injEq, reduceCtorEq] at h <;> subst h <;> rfl
def nameE : Expr → Bool
  | .Name .. => true
  | .Call (.Name _ _) (_ :: _) _ _ => true
  | _ => false
theorem base_of {o : Expr} {n : Str} {env : PySem.Env} {s : Sem Value} (h : nameE o = true) : attributeBase o n env s = s := by
  unfold nameE at h
  split at h
  · rfl
  · rfl
  · cases h
theorem bi_boot {b : Bi} (h : bi2 b = true) : bootBuiltins (tyStr (biName b)) = some (biVal b) ∧ ((∃ id, biVal b = .builtin id) ∨ ∃ T, biVal b = .type T) := by
  cases b <;> first | (exact ⟨rfl, .inl ⟨_, rfl⟩⟩) | (exact ⟨rfl, .inr ⟨_, rfl⟩⟩) | (simp [bi2] at h)
def chkTys (F : Cfg) (I : Inf) : List String → List Expr → Bool
  | [], es => es.isEmpty
  | t :: ts, es => match es with
    | .Name x _ :: es => okTys.contains t && decide (x = tyStr t) && bltB F I x && chkTys F I ts es
    | _ => false
def chkIsi (F : Cfg) (I : Inf) (ts : List String) (e : Expr) : Bool := match e with
  | .Name x p => decide (ts.length = 1) && chkTys F I ts [.Name x p]
  | .Tuple es _ _ => decide (2 ≤ ts.length) && chkTys F I ts es
  | _ => false
/-- a block's check, the def's names given -/
def blkB (I : Inf) (scope : Scope) (own : List (Str × Nat)) : Bool :=
  (match scope.kind with | .function => true | _ => false) && (scope.names.all fun y => decide (scope.names.lookup y.1 = some y.2)) && (own.all fun p => decide (I.N[p.2]? = some p.1)) &&
    (scope.names.all fun y => match y.2 with
      | .free => (match I.names.lookup y.1 with | some .cell => true | some .free => true | _ => false)
      | .local => decide (y.1 ∈ own.map (·.1)) || decide (y.1 ∉ I.N)
      | .cell => decide (y.1 ∈ own.map (·.1)) || decide (y.1 ∉ I.N)
      | _ => true)
theorem blkB_ok {F : Cfg} {C : Nat → Addr} {n : Nat} {X : Cx} {I : Inf} {W : WX} (O : XOk F C n X I W) {scope : Scope} {own : List (Str × Nat)} (h : blkB I scope own = true) : BlkOk X.N X.env.scope scope own := by
  simp only [blkB, Bool.and_eq_true] at h
  obtain ⟨⟨⟨h1, h2⟩, h3⟩, h4⟩ := h
  refine ⟨?_, fun y hy => ?_, fun p hp => ?_, fun y hy e => ?_, fun y hy e => ?_⟩
  · split at h1
    · assumption
    · cases h1
  · exact of_decide_eq_true (List.all_eq_true.mp h2 y hy)
  · rw [O.hN]; exact of_decide_eq_true (List.all_eq_true.mp h3 p hp)
  · have q := List.all_eq_true.mp h4 y hy
    rw [e] at q
    dsimp only at q
    split at q
    · rename_i e2
      obtain ⟨k', z, w⟩ := O.nm _ _ e2
      rcases w with w | ⟨w, _⟩
      · subst w; exact .inl z
      · cases w
    · rename_i e2
      obtain ⟨k', z, w⟩ := O.nm _ _ e2
      rcases w with w | ⟨_, w⟩
      · subst w; exact .inr z
      · subst w; exact .inl z
    · cases q
  · have q := List.all_eq_true.mp h4 y hy
    rw [O.hN]
    rcases e with e | e <;> rw [e] at q <;> dsimp only at q <;> simp only [Bool.or_eq_true, decide_eq_true_eq] at q <;> exact q
def ownOf (N : List Str) : List Nat → List (Str × Nat)
  | [] => []
  | i :: is => (N.getD i ⟨#[]⟩, i) :: ownOf N is
theorem ownOf_snd (N : List Str) : ∀ l : List Nat, (ownOf N l).map (·.2) = l
  | [] => rfl
  | i :: is => by simp [ownOf, ownOf_snd N is]
def subN : List Nat → List Nat → Bool
  | [], _ => true
  | i :: is, l => l.contains i && subN is l
theorem subN_ok : ∀ {a l : List Nat}, subN a l = true → ∀ i ∈ a, i ∈ l
  | [], _, _, i, hi => by cases hi
  | j :: js, l, h, i, hi => by
    simp only [subN, Bool.and_eq_true] at h
    rcases List.mem_cons.mp hi with e | hi
    · subst e; simpa using h.1
    · exact subN_ok h.2 i hi
def rngOf : Sr → Bool
  | .rng1 _ => true
  | .rng2 _ _ => true
  | _ => false

/-! ### the check -/
section
variable (F : Cfg)
mutual
def chkE (I : Inf) : Ex → Expr → Bool
  | .lit d, e => litB d e
  | .glob x d, e => match e with
    | .Name y _ => glB I y && (match F.G.lookup y with
      | some (.cst c) => pdEq c d
      | _ => false)
    | _ => false
  | .var i, e => match e with
    | .Name x _ => varB I i x
    | _ => false
  | .bin o a b, e => match e with
    | .BinOp l op r _ => decide (op = opOfB o) && chkE I a l && chkE I b r
    | _ => false
  | .neg a, e => match e with
    | .UnaryOp op x _ => decide (op = .USub) && chkE I a x
    | _ => false
  | .cmp o a b, e => match e with
    | .Compare l [op] [r] _ => decide (op = opOfC o) && notSet r && chkE I a l && chkE I b r && (match o, r with
      | .isN, .Constant .none _ _ => (match b with | .lit .none => true | _ => false)
      | .notN, .Constant .none _ _ => (match b with | .lit .none => true | _ => false)
      | .isN, _ => false
      | .notN, _ => false
      | _, _ => true)
    | _ => false
  | .cmp2 o p a b c, e => match e with
    | .Compare l [op, op'] [m, r] _ => decide (op = opOfC o) && decide (op' = opOfC p) && notSet r && chkE I a l && chkE I b m && chkE I c r && decide (o ≠ .isN) && decide (o ≠ .notN) && decide (p ≠ .isN) && decide (p ≠ .notN)
    | _ => false
  | .and a b, e => match e with
    | .BoolOp .And [x, y] _ => notIf x && notIf y && chkE I a x && chkE I b y
    | .BoolOp .And (x :: y :: z :: r) p => notIf x && chkE I a x && chkE I b (.BoolOp .And (y :: z :: r) p)
    | _ => false
  | .or a b, e => match e with
    | .BoolOp .Or [x, y] _ => notIf x && notIf y && chkE I a x && chkE I b y
    | .BoolOp .Or (x :: y :: z :: r) p => notIf x && chkE I a x && chkE I b (.BoolOp .Or (y :: z :: r) p)
    | _ => false
  | .not a, e => match e with
    | .UnaryOp op x _ => decide (op = .Not) && notIf x && chkE I a x
    | _ => false
  | .ife c a b, e => match e with
    | .IfExp t x y _ => notIf t && chkE I c t && chkE I a x && chkE I b y
    | _ => false
  | .tup es, e => match e with
    | .Tuple xs _ _ => xs.all notStar && chkEs I es xs
    | _ => false
  | .lst es, e => match e with
    | .List xs _ => xs.all notStar && chkEs I es xs
    | _ => false
  | .emp, e => match e with
    | .Dict [] [] _ => true
    | _ => false
  | .idx a b, e => match e with
    | .Subscript x y _ => notSlice y && chkE I a x && chkE I b y
    | _ => false
  | .slc a l h, e => match e with
    | .Subscript x (.Slice lo hi none _) _ => chkE I a x && (match lo with
      | none => isSkip l
      | some z => !isSkip l && chkE I l z) && (match hi with
      | none => isSkip h
      | some z => !isSkip h && chkE I h z)
    | _ => false
  | .call f perm es ks, e => match e with
    | .Call (.Name x _) xs kws _ => glB I x && (match F.G.lookup x with
      | some (.fn g) => g == f
      | _ => false) && xs.all notStar && chkEs I es xs && chkKs I ks kws && kws.all (·.arg.isSome) && (match kws with
      | [] => perm.isEmpty
      | _ => decide ((f, xs.length, kws.filterMap (·.arg), perm) ∈ F.KW))
    | _ => false
  | .callP f es, e => match e with
    | .Call (.Name x _) xs [] _ => glB I x && (match F.G.lookup x with
      | some (.fn g) => g == f
      | _ => false) && xs.all notStar && chkEs I es xs
    | _ => false
  | .bi b es, e => match e with
    | .Call (.Name x _) (y :: ys) [] _ => (y :: ys).all notStar && chkEs I es (y :: ys) && (match biFn b with
      | some id' => glB I x && (match F.G.lookup x with
        | some (.bfn id) => decide (id = id')
        | _ => false)
      | none => bi2 b && decide (x = tyStr (biName b)) && bltB F I x)
    | _ => false
  | .isi a ts, e => match e with
    | .Call (.Name x _) [y, z] [] _ => notStar y && notStar z && bltB F I x && decide (x = tyStr "isinstance") && chkE I a y && chkIsi F I ts z && ts.all (okTys.contains ·) && decide (ts.length ≤ 1000)
    | _ => false
  | .comp2 own vs1 e0 t s c t1 s1 c1, e => match e with
    | .ListComp elt [⟨tg, iter, ifs, 0⟩, ⟨tg1, iter1, ifs1, 0⟩] scope _ => notSet iter && notSet iter1 && blkB I scope (ownOf I.N own) && subN (tgS t) own && subN (tgS t1) vs1 && subN vs1 own && chkT ⟨I.N, scope.names⟩ [] t tg && chkT ⟨I.N, scope.names⟩ [] t1 tg1 && chkS I s tg iter && chkS ⟨I.N, scope.names⟩ s1 tg1 iter1 && chkE ⟨I.N, scope.names⟩ e0 elt && (match ifs with
      | [] => isSkip c
      | [x] => !isSkip c && notIf x && chkE ⟨I.N, scope.names⟩ c x
      | _ => false) && (match ifs1 with
      | [] => isSkip c1
      | [x] => !isSkip c1 && notIf x && chkE ⟨I.N, scope.names⟩ c1 x
      | _ => false)
    | _ => false
  | .col t (.rng1 a), e => match e with
    | .Call (.Name x _) [.Call (.Name z zp) [u] [] rp] [] _ => bltB F I x && bltB F I z && decide (x = tyStr (if t = true then "tuple" else "list")) && decide (z = tyStr "range") && notStar u && chkE I a u
    | _ => false
  | .col t (.rng2 a b), e => match e with
    | .Call (.Name x _) [.Call (.Name z zp) [u, v] [] rp] [] _ => bltB F I x && bltB F I z && decide (x = tyStr (if t = true then "tuple" else "list")) && decide (z = tyStr "range") && notStar u && notStar v && chkE I a u && chkE I b v
    | _ => false
  | .comp own e0 t s c, e => match e with
    | .ListComp elt [⟨tg, iter, ifs, 0⟩] scope _ => notSet iter && blkB I scope (ownOf I.N own) && subN (tgS t) own && chkT ⟨I.N, scope.names⟩ [] t tg && chkS I s tg iter && chkE ⟨I.N, scope.names⟩ e0 elt && (match ifs with
      | [] => isSkip c
      | [x] => !isSkip c && notIf x && chkE ⟨I.N, scope.names⟩ c x
      | _ => false)
    | _ => false
  | .index a b, e => match e with
    | .Call (.Attribute o m apos) [y] [] cpos => nameE o && decide (m = ("index" : Str)) && (apos.endLine == cpos.line) && notStar y && chkE I a o && chkE I b y
    | _ => false
  | .bitl a, e => match e with
    | .Call (.Attribute o m apos) [] [] cpos => nameE o && decide (m = ("bit_length" : Str)) && (apos.endLine == cpos.line) && chkE I a o
    | _ => false
  | .isB n a c, e => match e with
    | .Compare l [op] [.Constant (.bool d) _ _] _ => decide (op = if n = true then .IsNot else .Is) && decide (c = d) && chkE I a l
    | _ => false
  | .rev a, e => match e with
    | .Subscript x (.Slice none none (some (.UnaryOp .USub (.Constant (.int 1) _ _) _)) _) _ => chkE I a x
    | _ => false
  | .sset a, e => match e with
    | .Call (.Name f _) [.Call (.Name g _) [x] [] _] [] _ => decide (f = ("sorted" : Str)) && decide (g = ("set" : Str)) && bltB F I f && bltB F I g && notStar x && chkE I a x
    | _ => false
  | .join s a, e => match e with
    | .Call (.Attribute (.Constant (.str x) _ _) m apos) [y] [] cpos => x == s && decide (m = ("join" : Str)) && (apos.endLine == cpos.line) && notStar y && chkE I a y
    | _ => false
  | .dsp kvs, e => match e with
    | .Dict ks vs _ => chkDsp kvs ks vs && !kvs.isEmpty && decide (kvs.length ≤ 15)
    | _ => false
  | .cdx x kvs a, e => match e with
    | .Subscript (.Name y _) z _ => notSlice z && glB I y && (match F.G.lookup y with
      | some (.cdt c) => decide (c = kvs)
      | _ => false) && chkE I a z
    | _ => false
  | .lset a, e => match e with
    | .Call (.Name f _) [.Call (.Name g _) [x] [] _] [] _ => decide (f = ("len" : Str)) && decide (g = ("set" : Str)) && bltB F I f && bltB F I g && notStar x && chkE I a x
    | _ => false
  | .popI i b, e => match e with
    | .Call (.Attribute (.Name x _) m apos) [y] [] cpos => varB I i x && decide (m = ("pop" : Str)) && (apos.endLine == cpos.line) && notStar y && chkE I b y
    | _ => false
  | _, _ => false
def chkEs (I : Inf) : Exs → List Expr → Bool
  | .nil, es => es.isEmpty
  | .cons e es, xs => match xs with
    | x :: xs => chkE I e x && chkEs I es xs
    | _ => false
def chkKs (I : Inf) : Exs → List Keyword → Bool
  | .nil, es => es.isEmpty
  | .cons e es, xs => match xs with
    | ⟨_, x, _⟩ :: xs => chkE I e x && chkKs I es xs
    | _ => false
def chkS (I : Inf) : Sr → Expr → Expr → Bool
  | .seq e, _, i => chkE I e i
  | .rng1 a, _, i => match i with
    | .Call (.Name x _) [y] [] _ => bltB F I x && decide (x = tyStr "range") && notStar y && chkE I a y
    | _ => false
  | .rng2 a b, _, i => match i with
    | .Call (.Name x _) [y, z] [] _ => bltB F I x && decide (x = tyStr "range") && notStar y && notStar z && chkE I a y && chkE I b z
    | _ => false
  | .rng3 a b c, _, i => match i with
    | .Call (.Name x _) [y, z, w] [] _ => bltB F I x && decide (x = tyStr "range") && notStar y && notStar z && notStar w && chkE I a y && chkE I b z && chkE I c w
    | _ => false
  | .enum a, tg, i => match i with
    | .Call (.Name x _) [y] [] _ => bltB F I x && decide (x = tyStr "enumerate") && notStar y && chkE I a y && (match tg with
      | .Tuple .. => true
      | _ => false)
    | _ => false
  | .zip a b, tg, i => match i with
    | .Call (.Name x _) [y, z] [] _ => bltB F I x && decide (x = tyStr "zip") && notStar y && notStar z && chkE I a y && chkE I b z && (match tg with
      | .Tuple .. => true
      | _ => false)
    | _ => false
  | .items _, _, _ => false
end
end

/-! ### what it gives -/
/-! lengths -/
def exsN : Exs → Nat
  | .nil => 0
  | .cons _ es => exsN es + 1
theorem evEs_len {io : Nat → List Bool} {cf : Nat → List PyData → FR} {lk : List Nat} : ∀ {es : Exs} {ρ ρ' : Env} {rs : List Rv}, evEs io cf lk es ρ = .ok rs ρ' → rs.length = exsN es
  | .nil, ρ, ρ', rs, h => by
    simp only [evEs, Rs.ok.injEq] at h
    rw [← h.1]; rfl
  | .cons e es, ρ, ρ', rs, h => by
    simp only [evEs] at h
    cases e1 : evE io cf lk e ρ with
    | no => rw [e1] at h; cases h
    | exc => rw [e1] at h; cases h
    | ok r ρ1 =>
      rw [e1, Rs.bind_ok] at h
      cases e2 : evEs io cf lk es ρ1 with
      | no => rw [e2] at h; cases h
      | exc => rw [e2] at h; cases h
      | ok rs2 ρ2 =>
        rw [e2, Rs.bind_ok] at h
        simp only [Rs.ok.injEq] at h
        rw [← h.1, List.length_cons, evEs_len e2]
        rfl
theorem ad_len {K : PySem.W.Frag} {C : Nat → Addr} {W : WX} {t : TA} {f : Env → Rs (List Rv)} {a : Nat} (h : AD K C W t f) (hl : ∀ ρ rs ρ', f ρ = .ok rs ρ' → rs.length = a) : AD K C W (lenT a t) f := by
  intro B σ H ρ Q s g
  refine h B σ H ρ _ s ?_
  cases e : f ρ with
  | ok rs ρ' =>
    rw [e] at g
    exact fun vs H' Bs k o x fr L => ⟨L.len.trans (hl _ _ _ e), g vs H' Bs k o x fr L⟩
  | exc c d ρ' => rw [e] at g; exact g
  | no => rw [e] at g; exact g
theorem chkEs_len {F : Cfg} {I : Inf} : ∀ {k : Exs} {es : List Expr}, chkEs F I k es = true → exsN k = es.length
  | .nil, es, h => by
    simp only [chkEs, List.isEmpty_iff] at h
    subst h; rfl
  | .cons a as, es, h => by
    simp only [chkEs] at h
    split at h
    · simp only [Bool.and_eq_true] at h
      rw [List.length_cons, ← chkEs_len h.2]; rfl
    · cases h
theorem chkKs_len {F : Cfg} {I : Inf} : ∀ {k : Exs} {es : List Keyword}, chkKs F I k es = true → exsN k = es.length
  | .nil, es, h => by
    simp only [chkKs, List.isEmpty_iff] at h
    subst h; rfl
  | .cons a as, es, h => by
    simp only [chkKs] at h
    split at h
    · simp only [Bool.and_eq_true] at h
      rw [List.length_cons, ← chkKs_len h.2]; rfl
    · cases h
theorem kwN : ∀ {kws : List Keyword}, kws.all (·.arg.isSome) = true → (kws.filterMap (·.arg)).length = kws.length
  | [], _ => rfl
  | ⟨a, v, q⟩ :: r, h => by
    rw [List.all_cons, Bool.and_eq_true] at h
    cases a with
    | none => simp at h
    | some a => rw [List.filterMap_cons]; simp only [List.length_cons, kwN h.2]
theorem bm_few {env : PySem.Env} {y : Expr} {cpos : Pos} (h : notStar y = true) : ((backTo cpos (starEach [y] env)).all (fun x => !x.1) && (backToKw cpos (keywordEach [] env)).all (fun x => x.1.isSome)
      && decide ([y].length + ([] : List Keyword).length + (if ([] : List Keyword).isEmpty then 0 else 1) < 30)) = true := by
  rw [star_cons h]; rfl
theorem bm_few2 {env : PySem.Env} {y z : Expr} {cpos : Pos} (h : notStar y = true) (h2 : notStar z = true) : ((backTo cpos (starEach [y, z] env)).all (fun x => !x.1) && (backToKw cpos (keywordEach [] env)).all (fun x => x.1.isSome)
      && decide ([y, z].length + ([] : List Keyword).length + (if ([] : List Keyword).isEmpty then 0 else 1) < 30)) = true := by
  rw [star_cons h, star_cons h2]; rfl
structure HoldsE (F : Cfg) (C : Nat → Addr) (n : Nat) (X : Cx) (W : WX) (lk : List Nat) (e : Expr) (k : Ex) : Prop where
  ex : ∃ t, PE X e t ∧ ED X.K C W t (evE F.T.io (run F.T n) lk k)
  tt : notIf e = true → ∃ t, PT X e t ∧ TD X.K C W t (asB (evE F.T.io (run F.T n) lk k))
  wd : isBool e = true → ∃ t, PW X e t ∧ TD X.K C W t (asB (evE F.T.io (run F.T n) lk k))
section
variable {F : Cfg} {C : Nat → Addr} {n : Nat} {X : Cx} {I : Inf} {W : WX} {lk : List Nat}
theorem HoldsE.val {e : Expr} {k : Ex} (p : plainT e = true) (h : ∃ t, PE X e t ∧ ED X.K C W t (evE F.T.io (run F.T n) lk k)) : HoldsE F C n X W lk e k := by
  refine ⟨h, fun _ => ?_, fun b => ?_⟩
  · obtain ⟨t, h1, h2⟩ := h
    exact ⟨_, pt_val h1 (plainT_ok p), td_val h2⟩
  · cases e <;> simp [isBool] at b
    simp [plainT] at p
/-- a test's clause -/
theorem pts_yes : ∃ t, PTs X [] t ∧ TD X.K C W t (asB fun ρ => .ok (.val (.bool true)) ρ) := ⟨_, pts_nil, fun B σ H ρ Q s g => by
  have g' : GoodT X.K C W B σ H ρ (.ok true ρ) Q := g
  exact g'.give s⟩
theorem isSkip_eq {k : Ex} (h : isSkip k = true) : k = .skip := by
  cases k <;> first | rfl | (simp [isSkip] at h)
theorem chkTys_ok (O : XOk F C n X I W) : ∀ {ts : List String} {es : List Expr}, chkTys F I ts es = true → es.all notStar = true ∧ ∃ t, PA X es t ∧ ∀ σ H Q, Q (ts.map V.ty) H → t σ H Q
  | [], es, h => by
    simp only [chkTys, List.isEmpty_iff] at h
    subst h
    exact ⟨rfl, _, pa_nil, fun _ _ _ q => q⟩
  | t :: ts, es, h => by
    simp only [chkTys] at h
    split at h
    · simp only [Bool.and_eq_true, decide_eq_true_eq] at h
      obtain ⟨⟨⟨h1, h2⟩, h3⟩, h4⟩ := h
      obtain ⟨i1, u, i2, i3⟩ := chkTys_ok O h4
      obtain ⟨g1, g2, g3, g4⟩ := O.blt h3
      subst h2
      refine ⟨by simp [notStar, i1], _, pa_cons' (pe_bltn (v := .ty t) g1 g2 (ty_boot h1) rfl g4 g3) i2 rfl, fun σ H Q q => i3 _ _ _ q⟩
    · cases h
def isiPre (ts : List String) (H : Hp) (Q : List V → Hp → Prop) : Prop := match ts with
  | [T] => Q [.ty T] H
  | _ => ∀ p, H p = none → Q [.ref p] (upd H p (.tup (ts.map V.ty)))
theorem isi_ok (O : XOk F C n X I W) {ts : List String} {z : Expr} (h : chkIsi F I ts z = true) : notStar z = true ∧ ∃ t, PA X [z] t ∧ ∀ (σ : L2.St) (H : Hp) (Q : List V → Hp → Prop), isiPre ts H Q → ts.length ≤ 1000 → t σ H Q := by
  unfold chkIsi at h
  split at h
  · simp only [Bool.and_eq_true, decide_eq_true_eq] at h
    obtain ⟨i1, t, i2, i3⟩ := chkTys_ok O h.2
    refine ⟨rfl, t, i2, fun σ H Q q _ => ?_⟩
    match ts, h.1 with
    | [T], _ => exact i3 _ _ _ q
  · simp only [Bool.and_eq_true, decide_eq_true_eq] at h
    obtain ⟨i1, t, i2, i3⟩ := chkTys_ok O h.2
    refine ⟨rfl, _, pa_cons' (pe_tup i2) pa_nil rfl, fun σ H Q q hl => ?_⟩
    refine i3 _ _ _ ⟨by rw [List.length_map]; exact Nat.le_trans hl (by decide), fun p hp => ?_⟩
    match ts, h.1 with
    | _ :: _ :: _, _ => exact q p hp
  · cases h
/-- asB of and, or -/
theorem andL {K : PySem.W.Frag} {tA tB : TT} {fa fb : Env → Rs Rv} (ha : TD K C W tA (asB fa)) (hb : TD K C W tB (asB fb)) : TD K C W (tAnd tA tB) (asB fun ρ => (fa ρ).bind fun x ρ1 => match x with
    | .val (.bool true) => fb ρ1
    | .val (.bool false) => .ok (.val (.bool false)) ρ1
    | _ => .no) := td_and ha hb
theorem ed_isi2 {K : PySem.W.Frag} {t : TE} {t2 : TA} {f : Env → Rs Rv} (h : ED K C W t f) {ts : List String} (hk : ts.all (okTys.contains ·) = true) (hl : ts.length ≤ 1000) (h2 : ∀ (σ : L2.St) (H : Hp) (Q : List V → Hp → Prop), isiPre ts H Q → ts.length ≤ 1000 → t2 σ H Q) :
    ED K C W (tCB (fun xs H Q => rIsi K xs H Q ∨ rIsiT K xs H Q) (tCons t t2)) fun ρ => (f ρ).bind fun x ρ1 => match dat ρ1 x with
    | some d => isiE d ts ρ1
    | none => .no := by
  intro B σ H ρ Q s hg
  refine h.bindE s hg fun x ρ1 v H1 k1 o1 x1 f1 r1 g1 => ?_
  refine h2 _ _ _ ?_ hl
  unfold isiPre
  split at g1
  · rename_i d e
    have rv := r1.op.rv r1.sr e
    unfold isiE at g1
    split at g1
    case isFalse => exact g1.elim
    rename_i ok
    have two : ∀ p, H1 p = none → rIsiT K [v, .ref p] (upd H1 p (.tup (ts.map V.ty))) Q := fun p hp => by
      have s2 := r1.sr.new (o := .tup (ts.map V.ty)) hp
      have k2 : Keep (OwnAt σ ρ1) H1 (upd H1 p (.tup (ts.map V.ty))) := Keep.new hp
      have rv2 : RV K B σ (upd H1 p (.tup (ts.map V.ty))) ρ1 v d := (r1.op.stay k2 (OSub.refl _ _) (Ext.refl _)).rv s2 e
      refine ⟨v, p, ts.map V.ty, .type (tyName d), ts.map Value.type, _, rfl, upd_same, ?_, rv2.ty ok, kits_ok hk, (g1.step k2 (OSub.refl _ _) (Ext.refl _)).bool s2⟩
      exact tys_cls ts
    split
    · rename_i T
      have hk1 : okTys.contains T = true := by simpa using hk
      have e2 : isiD d [T] = (T == tyName d || (T == "int" && tyName d == "bool")) := by simp [isiD]
      exact .inl ⟨v, .ty T, .type (tyName d), .type T, _, rfl, .ty T, rv.ty ok, kit_ok hk1, by rw [← e2]; exact g1.bool r1.sr⟩
    · exact fun p hp => .inr (two p hp)
  · exact g1.elim
/-! list(range(..)), tuple(range(..)) -/
theorem rg_rps {S : Addr → Prop} {K : PySem.W.Frag} {H : Hp} (a b : Int) : Rps K S H (rgV a b) (rngD a b) := by
  unfold rgV rngD
  generalize List.range (b - a).toNat = l
  induction l with
  | nil => exact .nil
  | cons x l ih => exact .cons (.int _) ih
theorem rngD_len (a b : Int) : (rngD a b).length = (b - a).toNat := by unfold rngD; rw [List.length_map, List.length_range]
def tCol (t : Bool) (te : L2.St → Hp → (Int → Int → Hp → Prop) → Prop) : TE := if t = true then tTupRg te else tLstRg te
theorem col_ok {K : PySem.W.Frag} {B : Addr → Prop} {σ : L2.St} {H : Hp} {ρ : Env} {Q : VK} {a b : Int} (t : Bool) (ha : rngOk a = true) (hb : rngOk b = true) (s : SR K B σ H ρ)
    (g : GoodE K C W B σ H ρ (if lenOk (rngD a b).length then (if t = true then .ok (.val (.tuple (rngD a b))) ρ else .ok (.own (.list (rngD a b))) ρ) else .no) Q) :
    RgOk a b ∧ ∀ q, H q = none → Q (.ref q) (upd H q (if t = true then .tup (rgV a b) else .lst (rgV a b))) := by
  simp only [rngOk_eq, Bool.and_eq_true, decide_eq_true_eq] at ha hb
  split at g
  · rename_i hl
    rw [rngD_len] at hl
    have hl2 : (b - a).toNat ≤ 1000000 := of_decide_eq_true hl
    refine ⟨⟨ha.1, ha.2, hb.1, hb.2, Nat.le_trans hl2 (by decide)⟩, fun q hq => ?_⟩
    cases t with
    | true => exact g.newT s (rg_rps a b) hq
    | false => exact g.newL s (rg_rps a b) hq
  · exact g.elim
theorem ed_col1 {K : PySem.W.Frag} {te : TE} {f : Env → Rs Rv} (t : Bool) (h : ED K C W te f) : ED K C W (tCol t (tRg1 te)) fun ρ => ((f ρ).bind fun x ρ1 => (match x with
    | .val (.int i) => if rngOk i then .ok (rngD 0 i) ρ1 else .no
    | _ => .no : Rs (List PyData))).bind fun ds ρ1 => if lenOk ds.length then (if t = true then .ok (.val (.tuple ds)) ρ1 else .ok (.own (.list ds)) ρ1) else .no := by
  intro B σ H ρ Q s hg
  have main : tRg1 te σ H fun a b H1 => RgOk a b ∧ ∀ q, H1 q = none → Q (.ref q) (upd H1 q (if t = true then .tup (rgV a b) else .lst (rgV a b))) := by
    refine h B σ H ρ _ s ?_
    dsimp only at hg
    cases e : f ρ with
    | no => rw [e] at hg; exact hg
    | exc c d ρ' => rw [e] at hg; exact hg
    | ok r ρ1 =>
      rw [e, Rs.bind_ok] at hg
      intro v H' k o x fr r'
      split at hg
      · rename_i i
        split at hg
        · rename_i hi
          rw [Rs.bind_ok] at hg
          exact ⟨i, (r'.op.rv r'.sr rfl).int, col_ok t (by decide) hi r'.sr (hg.step k o x)⟩
        · exact hg.elim
      · exact hg.elim
  cases t <;> exact main
theorem ed_col2 {K : PySem.W.Frag} {ta tb : TE} {fa fb : Env → Rs Rv} (t : Bool) (ha : ED K C W ta fa) (hb : ED K C W tb fb) : ED K C W (tCol t (tRg2 ta tb)) fun ρ => ((fa ρ).bind fun x ρ1 => (fb ρ1).bind fun y ρ2 => (match x, y with
    | .val (.int i), .val (.int j) => if rngOk i && rngOk j then .ok (rngD i j) ρ2 else .no
    | _, _ => .no : Rs (List PyData))).bind fun ds ρ1 => if lenOk ds.length then (if t = true then .ok (.val (.tuple ds)) ρ1 else .ok (.own (.list ds)) ρ1) else .no := by
  intro B σ H ρ Q s hg
  have main : tRg2 ta tb σ H fun a b H1 => RgOk a b ∧ ∀ q, H1 q = none → Q (.ref q) (upd H1 q (if t = true then .tup (rgV a b) else .lst (rgV a b))) := by
    refine ha B σ H ρ _ s ?_
    dsimp only at hg
    cases e : fa ρ with
    | no => rw [e] at hg; exact hg
    | exc c d ρ' => rw [e] at hg; exact hg
    | ok r ρ1 =>
      rw [e, Rs.bind_ok] at hg
      intro v H1 k o x fr r'
      replace hg := hg.step k o x
      refine hb B σ H1 ρ1 _ r'.sr ?_
      cases e2 : fb ρ1 with
      | no => rw [e2] at hg; exact hg
      | exc c d ρ' => rw [e2] at hg; exact hg
      | ok r2 ρ2 =>
        rw [e2, Rs.bind_ok] at hg
        intro v2 H2 k2 o2 x2 fr2 r2'
        split at hg
        · rename_i i j
          split at hg
          · rename_i hij
            rw [Bool.and_eq_true] at hij
            rw [Rs.bind_ok] at hg
            exact ⟨i, j, (r'.op.rv r'.sr rfl).int, (r2'.op.rv r2'.sr rfl).int, col_ok t hij.1 hij.2 r2'.sr (hg.step k2 o2 x2)⟩
          · exact hg.elim
        · exact hg.elim
  cases t <;> exact main
/-! readings that depend on the code alone -/
def cE (K : PySem.W.Frag) (C : Nat → Addr) (W : WX) (f : Env → Rs Rv) : TE := fun σ H Q => ∃ B ρ, SR K B σ H ρ ∧ GoodE K C W B σ H ρ (f ρ) Q
def cT (K : PySem.W.Frag) (C : Nat → Addr) (W : WX) (f : Env → Rs Bool) : TT := fun σ H Q => ∃ B ρ, SR K B σ H ρ ∧ GoodT K C W B σ H ρ (f ρ) Q
def cG (K : PySem.W.Frag) (lk : List Nat) (t : Tg) : TG := fun v σ H Q => ∃ B ρ ρ' d, SR K B σ H ρ ∧ Rp K (Free B σ ρ) H v d ∧ asgT lk t d ρ = some ρ' ∧
  (∀ σ', SR K B σ' H ρ' → (∀ a, OwnAt σ' ρ' a → OwnAt σ ρ a) → Same2 σ σ' ρ ρ' (tgS t) → (∀ i ∈ tgS t, i ∉ lk) → Q σ' H)
theorem cE_ed (K : PySem.W.Frag) (f : Env → Rs Rv) : ED K C W (cE K C W f) f := fun B _ _ ρ _ s g => ⟨B, ρ, s, g⟩
theorem cT_td (K : PySem.W.Frag) (f : Env → Rs Bool) : TD K C W (cT K C W f) f := fun B _ _ ρ _ s g => ⟨B, ρ, s, g⟩
theorem cG_gd (K : PySem.W.Frag) (lk : List Nat) (t : Tg) : GD K lk (cG K lk t) t := fun B σ H ρ ρ' v d Q s r e h => ⟨B, ρ, ρ', d, s, r, e, h⟩
def cS (K : PySem.W.Frag) (C : Nat → Addr) (W : WX) (f : Env → Rs (List PyData)) : TI := fun σ H R => ∃ B ρ, SR K B σ H ρ ∧ GoodS K C W B σ H ρ (f ρ) R
theorem cS_sd (K : PySem.W.Frag) (f : Env → Rs (List PyData)) : SD K C W (cS K C W f) f := fun B _ _ ρ _ s g => ⟨B, ρ, s, g⟩
theorem cS_pi {tg i : Expr} {f : Env → Rs (List PyData)} (h : ∃ t, PI X tg i t ∧ SD X.K C W t f) : PI X tg i (cS X.K C W f) := by
  obtain ⟨t, p, d⟩ := h
  exact ⟨fun pins s σ H R I ⟨B, ρ, sr, g⟩ => p.run pins s σ H R I (d B σ H ρ R sr g)⟩
theorem cE_pe {e : Expr} {f : Env → Rs Rv} (h : ∃ t, PE X e t ∧ ED X.K C W t f) : PE X e (cE X.K C W f) := by
  obtain ⟨t, p, d⟩ := h
  exact PE.mono p fun σ H Q ⟨B, ρ, s, g⟩ => d B σ H ρ Q s g
theorem cT_pts {e : List Expr} {f : Env → Rs Bool} (h : ∃ t, PTs X e t ∧ TD X.K C W t f) : PTs X e (cT X.K C W f) := by
  obtain ⟨t, p, d⟩ := h
  exact ⟨fun pins s σ H Q I ⟨B, ρ, sr, g⟩ => p.run pins s σ H Q I (d B σ H ρ Q sr g)⟩
theorem cG_pg {e : Expr} {lk : List Nat} {t : Tg} (h : ∃ g, PG X e g ∧ GD X.K lk g t) : PG X e (cG X.K lk t) := by
  obtain ⟨g, p, d⟩ := h
  exact ⟨fun pins s σ H v u Q I r ⟨B, ρ, ρ', d', sr, rp, e, k⟩ => p.run pins s σ H v u Q I r (d B σ H ρ ρ' v d' Q sr rp e k)⟩
mutual
theorem chkE_ok : ∀ {k : Ex} {e : Expr} {X : Cx} {I : Inf} {W : WX}, chkE F I k e = true → XOk F C n X I W → HoldsE F C n X W lk e k
  | .lit d, e, X, I, W, h, O => by
    simp only [chkE] at h
    refine .val ?_ ?_
    · unfold litB at h
      split at h <;> first | rfl | cases h
    · obtain ⟨t, h1, h2⟩ := litB_ok (X := X) (K := X.K) (C := C) (W := W) h
      exact ⟨t, h1, h2⟩
  | .glob x d, e, X, I, W, h, O => by
    simp only [chkE] at h
    split at h
    · rename_i y p
      simp only [Bool.and_eq_true] at h
      obtain ⟨g1, g2, g3⟩ := O.gl h.1
      have h2 := h.2
      split at h2
      · rename_i c e
        obtain ⟨u, v, m, r, f⟩ := O.g.cst _ _ e
        have := pdEq_eq h2
        subst this
        exact .val rfl ⟨_, pe_glob g1 m r g2, ed_lit f⟩
      · cases h2
    · cases h
  | .var i, e, X, I, W, h, O => by
    simp only [chkE] at h
    split at h
    · obtain ⟨v1, v2, v3, v4⟩ := O.vis h
      exact .val rfl ⟨_, pe_var v1 v2 v3 v4, ed_var i⟩
    · cases h
  | .bin o a b, e, X, I, W, h, O => by
    simp only [chkE] at h
    split at h
    · simp only [Bool.and_eq_true, decide_eq_true_eq] at h
      obtain ⟨⟨h0, h1⟩, h2⟩ := h
      subst h0
      obtain ⟨t1, p1, d1⟩ := (chkE_ok h1 O).ex
      obtain ⟨t2, p2, d2⟩ := (chkE_ok h2 O).ex
      exact .val rfl ⟨_, pe_op (op_ofB o) p1 p2, ed_bin d1 d2 o⟩
    · cases h
  | .neg a, e, X, I, W, h, O => by
    simp only [chkE] at h
    split at h
    · simp only [Bool.and_eq_true, decide_eq_true_eq] at h
      obtain ⟨h0, h1⟩ := h
      subst h0
      obtain ⟨t1, p1, d1⟩ := (chkE_ok h1 O).ex
      exact .val rfl ⟨_, pe_un un_neg p1, ed_neg d1⟩
    · cases h
  | .cmp o a b, e, X, I, W, h, O => by
    simp only [chkE] at h
    split at h
    · rename_i l op r p
      simp only [Bool.and_eq_true, decide_eq_true_eq] at h
      obtain ⟨⟨⟨⟨h0, h1⟩, h2⟩, h3⟩, h4⟩ := h
      subst h0
      obtain ⟨t1, p1, d1⟩ := (chkE_ok h2 O).ex
      obtain ⟨t2, p2, d2⟩ := (chkE_ok h3 O).ex
      have hu : X.A.units + 65 < cLine := by have := O.room.un; omega
      by_cases ho : o = .isN ∨ o = .notN
      · have hb : b = .lit .none ∧ ∃ j q, r = .Constant .none j q := by
          rcases ho with ho | ho <;> subst ho <;> (split at h4 <;> first | (rename_i q1 q2; cases q1; done) | (rename_i q1; cases q1; done) | skip)
          all_goals first
            | (split at h4
               · exact ⟨rfl, _, _, rfl⟩
               · cases h4)
            | (rename_i z _ _ _; exact absurd rfl z)
            | (rename_i _ z _ _; exact absurd rfl z)
            | (cases h4; done)
        obtain ⟨rfl, j, q, rfl⟩ := hb
        have dd := ed_isN (C := C) d1 o ho
        exact ⟨⟨_, pe_cmpR (op_ofC O.w hu o) p1 pe_non (nomarkS h1), dd⟩, fun _ => ⟨_, pt_cmpR (op_ofC O.w hu o) p1 pe_non (nomarkS h1), td_cmp dd⟩, fun b => by simp [isBool] at b⟩
      · have dd := ed_cmp d1 d2 o ho
        exact ⟨⟨_, pe_cmpR (op_ofC O.w hu o) p1 p2 (nomarkS h1), dd⟩, fun _ => ⟨_, pt_cmpR (op_ofC O.w hu o) p1 p2 (nomarkS h1), td_cmp dd⟩, fun b => by simp [isBool] at b⟩
    · cases h
  | .cmp2 o p a b c, e, X, I, W, h, O => by
    simp only [chkE] at h
    split at h
    · simp only [Bool.and_eq_true, decide_eq_true_eq] at h
      obtain ⟨⟨⟨⟨⟨⟨⟨⟨⟨h0, h0'⟩, h1⟩, h2⟩, h3⟩, h4⟩, n1⟩, n2⟩, n3⟩, n4⟩ := h
      subst h0; subst h0'
      obtain ⟨t1, p1, d1⟩ := (chkE_ok h2 O).ex
      obtain ⟨t2, p2, d2⟩ := (chkE_ok h3 O).ex
      obtain ⟨t3, p3, d3⟩ := (chkE_ok h4 O).ex
      have hu : X.A.units + 65 < cLine := by have := O.room.un; omega
      have dd := ed_cmp2 d1 d2 d3 o p (fun z => z.elim n1 n2) (fun z => z.elim n3 n4)
      exact ⟨⟨_, pe_chain (op_ofC O.w hu o) (op_ofC O.w hu p) p1 p2 p3 (lastS h1), dd⟩, fun _ => ⟨_, pt_chain (op_ofC O.w hu o) (op_ofC O.w hu p) p1 p2 p3 (lastS h1), td_cmp dd⟩, fun b => by simp [isBool] at b⟩
    · cases h
  | .and a b, e, X, I, W, h, O => by
    simp only [chkE] at h
    split at h
    · rename_i x y pos
      simp only [Bool.and_eq_true] at h
      obtain ⟨⟨⟨n1, n2⟩, h1⟩, h2⟩ := h
      have a1 := chkE_ok h1 O
      have b1 := chkE_ok h2 O
      obtain ⟨t1, p1, d1⟩ := a1.ex
      obtain ⟨t2, p2, d2⟩ := b1.ex
      obtain ⟨u1, q1, e1⟩ := a1.tt n1
      obtain ⟨u2, q2, e2⟩ := b1.tt n2
      have w := pw_and q1 (pw_and1 (pos := pos) q2)
      exact ⟨⟨_, pe_and p1 (pe_one p2), ed_and d1 d2⟩, fun _ => ⟨_, w.pt, td_and e1 e2⟩, fun _ => ⟨_, w, td_and e1 e2⟩⟩
    · simp only [Bool.and_eq_true] at h
      obtain ⟨⟨n1, h1⟩, h2⟩ := h
      have a1 := chkE_ok h1 O
      have b1 := chkE_ok h2 O
      obtain ⟨t1, p1, d1⟩ := a1.ex
      obtain ⟨t2, p2, d2⟩ := b1.ex
      obtain ⟨u1, q1, e1⟩ := a1.tt n1
      obtain ⟨u2, q2, e2⟩ := b1.wd rfl
      have w := pw_and q1 q2
      exact ⟨⟨_, pe_and p1 p2, ed_and d1 d2⟩, fun _ => ⟨_, w.pt, td_and e1 e2⟩, fun _ => ⟨_, w, td_and e1 e2⟩⟩
    · cases h
  | .or a b, e, X, I, W, h, O => by
    simp only [chkE] at h
    split at h
    · rename_i x y pos
      simp only [Bool.and_eq_true] at h
      obtain ⟨⟨⟨n1, n2⟩, h1⟩, h2⟩ := h
      have a1 := chkE_ok h1 O
      have b1 := chkE_ok h2 O
      obtain ⟨t1, p1, d1⟩ := a1.ex
      obtain ⟨t2, p2, d2⟩ := b1.ex
      obtain ⟨u1, q1, e1⟩ := a1.tt n1
      obtain ⟨u2, q2, e2⟩ := b1.tt n2
      have w := pw_or q1 (pw_or1 (pos := pos) q2)
      exact ⟨⟨_, pe_or p1 (pe_one p2), ed_or d1 d2⟩, fun _ => ⟨_, w.pt, td_or e1 e2⟩, fun _ => ⟨_, w, td_or e1 e2⟩⟩
    · simp only [Bool.and_eq_true] at h
      obtain ⟨⟨n1, h1⟩, h2⟩ := h
      have a1 := chkE_ok h1 O
      have b1 := chkE_ok h2 O
      obtain ⟨t1, p1, d1⟩ := a1.ex
      obtain ⟨t2, p2, d2⟩ := b1.ex
      obtain ⟨u1, q1, e1⟩ := a1.tt n1
      obtain ⟨u2, q2, e2⟩ := b1.wd rfl
      have w := pw_or q1 q2
      exact ⟨⟨_, pe_or p1 p2, ed_or d1 d2⟩, fun _ => ⟨_, w.pt, td_or e1 e2⟩, fun _ => ⟨_, w, td_or e1 e2⟩⟩
    · cases h
  | .not a, e, X, I, W, h, O => by
    simp only [chkE] at h
    split at h
    · simp only [Bool.and_eq_true, decide_eq_true_eq] at h
      obtain ⟨⟨h0, n1⟩, h1⟩ := h
      subst h0
      have a1 := chkE_ok h1 O
      obtain ⟨t1, p1, d1⟩ := a1.ex
      obtain ⟨u1, q1, e1⟩ := a1.tt n1
      exact ⟨⟨_, pe_not p1, ed_not d1⟩, fun _ => ⟨_, pt_not q1, td_not e1⟩, fun b => by simp [isBool] at b⟩
    · cases h
  | .ife c a b, e, X, I, W, h, O => by
    simp only [chkE] at h
    split at h
    · simp only [Bool.and_eq_true] at h
      obtain ⟨⟨⟨n1, h0⟩, h1⟩, h2⟩ := h
      obtain ⟨u1, q1, e1⟩ := (chkE_ok h0 O).tt n1
      obtain ⟨t1, p1, d1⟩ := (chkE_ok h1 O).ex
      obtain ⟨t2, p2, d2⟩ := (chkE_ok h2 O).ex
      exact ⟨⟨_, pe_ifExp q1 p1 p2, ed_ife e1 d1 d2⟩, fun b => by simp [notIf] at b, fun b => by simp [isBool] at b⟩
    · cases h
  | .tup es, e, X, I, W, h, O => by
    simp only [chkE] at h
    split at h
    · simp only [Bool.and_eq_true] at h
      obtain ⟨t, p, d⟩ := chkEs_ok h.2 h.1 O
      exact .val rfl ⟨_, pe_tup p, ed_tup d⟩
    · cases h
  | .lst es, e, X, I, W, h, O => by
    simp only [chkE] at h
    split at h
    · simp only [Bool.and_eq_true] at h
      obtain ⟨t, p, d⟩ := chkEs_ok h.2 h.1 O
      exact .val rfl ⟨_, pe_lst p, ed_lst d⟩
    · cases h
  | .emp, e, X, I, W, h, O => by
    simp only [chkE] at h
    split at h
    · exact .val rfl ⟨_, pe_dnewK, ed_emp⟩
    · cases h
  | .idx a b, e, X, I, W, h, O => by
    simp only [chkE] at h
    split at h
    · simp only [Bool.and_eq_true] at h
      obtain ⟨⟨h0, h1⟩, h2⟩ := h
      obtain ⟨t1, p1, d1⟩ := (chkE_ok h1 O).ex
      obtain ⟨t2, p2, d2⟩ := (chkE_ok h2 O).ex
      have hu : X.A.units + 65 < cLine := by have := O.room.un; omega
      exact .val rfl ⟨_, pe_ix (((ix_list.or ix_tup).or (ix_dict (by omega))).or (ix_n O.w (by omega))) p1 p2 (plainIxS h0), ed_idx d1 d2⟩
    · cases h
  | .slc a l g, e, X, I, W, h, O => by
    simp only [chkE] at h
    split at h
    · rename_i x lo hi p2 p
      simp only [Bool.and_eq_true] at h
      obtain ⟨⟨h1, h2⟩, h3⟩ := h
      obtain ⟨t1, p1, d1⟩ := (chkE_ok h1 O).ex
      have e1 : ∃ tl, PO X lo tl ∧ OD X.K C W tl (isSkip l) (evE F.T.io (run F.T n) lk l) := by
        cases lo with
        | none =>
          dsimp only at h2
          rw [h2]
          exact ⟨_, po_none, .none _⟩
        | some z =>
          simp only [Bool.and_eq_true, Bool.not_eq_true'] at h2
          obtain ⟨t, p, d⟩ := (chkE_ok h2.2 O).ex
          rw [h2.1]
          exact ⟨_, po_some p, .some d⟩
      have e2 : ∃ tl, PO X hi tl ∧ OD X.K C W tl (isSkip g) (evE F.T.io (run F.T n) lk g) := by
        cases hi with
        | none =>
          dsimp only at h3
          rw [h3]
          exact ⟨_, po_none, .none _⟩
        | some z =>
          simp only [Bool.and_eq_true, Bool.not_eq_true'] at h3
          obtain ⟨t, p, d⟩ := (chkE_ok h3.2 O).ex
          rw [h3.1]
          exact ⟨_, po_some p, .some d⟩
      obtain ⟨t2, p2, d2⟩ := e1
      obtain ⟨t3, p3, d3⟩ := e2
      exact .val rfl ⟨_, pe_slice (sl_list.or sl_tupA) p1 p2 p3, ed_slc d1 d2 d3⟩
    · cases h
  | .call f perm es ks, e, X, I, W, h, O => by
    simp only [chkE] at h
    split at h
    · rename_i x px xs kws pos
      simp only [Bool.and_eq_true] at h
      obtain ⟨⟨⟨⟨⟨⟨h0, h1⟩, h2⟩, h3⟩, h4⟩, h5⟩, h6⟩ := h
      obtain ⟨g1, g2, g3⟩ := O.gl h0
      split at h1
      · rename_i g eg
        have := beq_iff_eq.mp h1
        subst this
        obtain ⟨fa, fd, ps, m1, m2, m3, m4, m5⟩ := O.g.fn _ _ eg
        obtain ⟨t1, p1, d1⟩ := chkEs_ok h3 h2 O
        obtain ⟨t2, p2, d2⟩ := chkKs_ok h4 O
        have dd := ed_call (T := F.T) (n := n) (f := g) (perm := perm) d1 d2
        cases kws with
        | nil =>
          dsimp only at h6
          rw [List.isEmpty_iff] at h6
          subst h6
          have e2 : ks = .nil := by
            cases ks with
            | nil => rfl
            | cons _ _ => simp [chkKs] at h4
          subst e2
          have dd := ed_call (T := F.T) (n := n) (f := g) (perm := []) d1 (AD.nil (K := X.K) (C := C) (W := W))
          have dd' : ED X.K C W (fun σ H Q => t1 σ H fun vs H1 => spF X.K C F.T n g vs H1 Q (WE W σ)) (evE F.T.io (run F.T n) lk (.call g [] es .nil)) := by
            intro B σ H ρ Q s gd
            have q := dd B σ H ρ Q s gd
            simpa only [tNil, permG, List.append_nil] using q
          cases xs with
          | nil =>
            have e3 : es = .nil := by
              cases es with
              | nil => rfl
              | cons _ _ => simp [chkEs] at h3
            subst e3
            have dd := ed_call (T := F.T) (n := n) (f := g) (perm := []) (AD.nil (K := X.K) (C := C) (W := W)) (AD.nil (K := X.K) (C := C) (W := W))
            refine .val rfl ⟨_, pe_pos0 m4 O.room g1 m1 m2 m3 O.tk g2, fun B σ H ρ Q s gd => ?_⟩
            have q := dd B σ H ρ Q s gd
            simpa only [tNil, permG, List.append_nil] using q
          | cons y ys => exact .val rfl ⟨_, pe_pos m4 O.room g1 m1 m2 m3 O.tk g2 p1 h2, dd'⟩
        | cons kw kws =>
          dsimp only at h6
          have hb := m5 _ _ _ (of_decide_eq_true h6)
          rw [kwN h5] at hb
          have d1 := ad_len d1 fun ρ rs ρ' e => (evEs_len e).trans (chkEs_len h3)
          have d2 := ad_len d2 fun ρ rs ρ' e => (evEs_len e).trans (chkKs_len h4)
          cases xs with
          | nil =>
            have e3 : es = .nil := by
              cases es with
              | nil => rfl
              | cons _ _ => simp [chkEs] at h3
            subst e3
            have dd := ed_call (T := F.T) (n := n) (f := g) (perm := perm) (AD.nil (K := X.K) (C := C) (W := W)) d2
            exact .val rfl ⟨_, pe_kw0 m4 O.room g1 m1 m2 hb O.tk g2 p2 h5, dd⟩
          | cons y ys =>
            have dd := ed_call (T := F.T) (n := n) (f := g) (perm := perm) d1 d2
            exact .val rfl ⟨_, pe_kw m4 O.room g1 m1 m2 hb O.tk g2 p1 h2 p2 h5, dd⟩
      · cases h1
    · cases h
  | .callP f es, e, X, I, W, h, O => by
    simp only [chkE] at h
    split at h
    · rename_i x px xs pos
      simp only [Bool.and_eq_true] at h
      obtain ⟨⟨⟨h0, h1⟩, h2⟩, h3⟩ := h
      obtain ⟨g1, g2, g3⟩ := O.gl h0
      split at h1
      · rename_i g eg
        have := beq_iff_eq.mp h1
        subst this
        obtain ⟨fa, fd, ps, m1, m2, m3, m4, m5⟩ := O.g.fn _ _ eg
        obtain ⟨t1, p1, d1⟩ := chkEs_ok h3 h2 O
        cases xs with
        | nil =>
          have e3 : es = .nil := by
            cases es with
            | nil => rfl
            | cons _ _ => simp [chkEs] at h3
          subst e3
          exact .val rfl ⟨_, pe_pos0 m4 O.room g1 m1 m2 m3 O.tk g2, ed_callP (T := F.T) (n := n) (f := g) (AD.nil (K := X.K) (C := C) (W := W))⟩
        | cons y ys => exact .val rfl ⟨_, pe_pos m4 O.room g1 m1 m2 m3 O.tk g2 p1 h2, ed_callP (T := F.T) (n := n) (f := g) d1⟩
      · cases h1
    · cases h
  | .bi b es, e, X, I, W, h, O => by
    simp only [chkE] at h
    split at h
    · rename_i x px y ys pos
      simp only [Bool.and_eq_true] at h
      obtain ⟨⟨h1, h2⟩, h3⟩ := h
      obtain ⟨t1, p1, d1⟩ := chkEs_ok h2 h1 O
      have hs := h1
      rw [List.all_cons, Bool.and_eq_true] at hs
      split at h3
      · rename_i id' e'
        simp only [Bool.and_eq_true] at h3
        obtain ⟨g1, g2, g3⟩ := O.gl h3.1
        have h4 := h3.2
        split at h4
        · rename_i id e
          have := of_decide_eq_true h4
          subst this
          have c := cr_bi O.calm b
          rw [biFn_ok e'] at c
          exact .val rfl ⟨_, pe_callBfun c g1 (O.g.bfn _ _ e) p1 g2 (star_cons hs.1) (star_any hs.2), ed_bi d1 b⟩
        · cases h4
      · simp only [Bool.and_eq_true, decide_eq_true_eq] at h3
        obtain ⟨⟨h4, h5⟩, h6⟩ := h3
        obtain ⟨g1, g2, g3, g4⟩ := O.blt h6
        subst h5
        obtain ⟨q1, q2⟩ := bi_boot h4
        rcases q2 with ⟨id, q⟩ | ⟨T, q⟩
        · have c := cr_bi O.calm b
          rw [q] at q1 c
          exact .val rfl ⟨_, pe_callB c g1 g2 q1 p1 g4 g3 (star_cons hs.1) (star_any hs.2), ed_bi d1 b⟩
        · have c := cr_bi O.calm b
          rw [q] at q1 c
          exact .val rfl ⟨_, pe_callTy c g1 g2 q1 p1 g4 g3 (star_cons hs.1) (star_any hs.2), ed_bi d1 b⟩
    · cases h
  | .isi a ts, e, X, I, W, h, O => by
    simp only [chkE] at h
    split at h
    · rename_i x px y z pos
      simp only [Bool.and_eq_true] at h
      obtain ⟨⟨⟨⟨⟨⟨⟨h1, h2⟩, h3⟩, h4⟩, h5⟩, h6⟩, h7⟩, h8⟩ := h
      have h4 := of_decide_eq_true h4
      subst h4
      obtain ⟨g1, g2, g3, g4⟩ := O.blt h3
      obtain ⟨t1, p1, d1⟩ := (chkE_ok h5 O).ex
      obtain ⟨_, t2, p2, d2⟩ := isi_ok O h6
      exact .val rfl ⟨_, pe_callB (call_isi.or call_isiT) g1 g2 rfl (pa_cons' p1 p2 h1) g4 g3 (star_cons h1) (star_any (by simp [h2])), ed_isi2 d1 h7 (of_decide_eq_true h8) d2⟩
    · cases h
  | .comp own e0 t s c, e, X, I, W, h, O => by
    simp only [chkE] at h
    split at h
    · rename_i elt tg iter ifs scope pos
      simp only [Bool.and_eq_true] at h
      obtain ⟨⟨⟨⟨⟨⟨h1, h2⟩, h3⟩, h4⟩, h5⟩, h6⟩, h7⟩ := h
      have bo := blkB_ok O h2
      obtain ⟨wi, pi, sd⟩ := chkS_ok h5 O
      have O' := fun (s : Shared) (H : Hp) (Ca : Addr) (cl : List (Str × Addr)) (fp : List Addr) => O.blk s H scope Ca cl fp bo.kind
      have hs : ∃ fc, (∀ ρ, fc ρ = asB (evE F.T.io (run F.T n) lk c) ρ) ∧ ∀ (s : Shared) (H : Hp) (Ca : Addr) (cl : List (Str × Addr)) (fp : List Addr), ∃ t, PTs (X.blk s H scope (compEnvC scope cl Ca X.env) fp) ifs t ∧ TD X.K C W0 t fc := by
        refine ⟨_, fun _ => rfl, fun s H Ca cl fp => ?_⟩
        split at h7
        · have := isSkip_eq h7
          subst this
          exact pts_yes
        · simp only [Bool.and_eq_true] at h7
          obtain ⟨t, p, d⟩ := (chkE_ok h7.2 (O' s H Ca cl fp)).tt h7.1.2
          exact ⟨t, pts_one p, d⟩
        · cases h7
      obtain ⟨fc, hfc, hs⟩ := hs
      have efc : fc = asB (evE F.T.io (run F.T n) lk c) := funext hfc
      subst efc
      have L := pe_lc (pos := pos) (g := cG X.K lk t) (tt := cT X.K C W0 (asB (evE F.T.io (run F.T n) lk c))) (te := cE X.K C W0 (evE F.T.io (run F.T n) lk e0)) O.calm (by rw [O.hN]; exact O.nd) pi bo
        (fun s H Ca cl fp => cG_pg (X := X.blk s H scope (compEnvC scope cl Ca X.env) fp) (chkT_ok (O' s H Ca cl fp) h4))
        (fun s H Ca cl fp => cT_pts (X := X.blk s H scope (compEnvC scope cl Ca X.env) fp) (hs s H Ca cl fp))
        (fun s H Ca cl fp => cE_pe (X := X.blk s H scope (compEnvC scope cl Ca X.env) fp) (chkE_ok h6 (O' s H Ca cl fp)).ex) (foldS h1)
      rw [ownOf_snd] at L
      exact .val rfl ⟨_, L, ed_comp sd (cG_gd _ _ _) (cT_td _ _) (cE_ed _ _) (subN_ok h3)⟩
    · cases h
  | .meth _ _ _, e, X, I, W, h, O => by simp [chkE] at h
  | .col t (.rng1 a), e, X, I, W, h, O => by
    simp only [chkE] at h
    split at h
    · simp only [Bool.and_eq_true] at h
      obtain ⟨⟨⟨⟨⟨h1, h2⟩, h3⟩, h4⟩, h5⟩, h6⟩ := h
      have h3 := of_decide_eq_true h3
      have h4 := of_decide_eq_true h4
      subst h3; subst h4
      obtain ⟨g1, g2, g3, g4⟩ := O.blt h1
      obtain ⟨k1, k2, k3, k4⟩ := O.blt h2
      obtain ⟨t1, p1, d1⟩ := (chkE_ok h6 O).ex
      cases t with
      | true => exact .val rfl ⟨_, pe_tupRg O.calm g1 g2 (prg_1 k1 k2 p1 (star_cons h5)) (star_cons rfl), ed_col1 true d1⟩
      | false => exact .val rfl ⟨_, pe_listRg O.calm g1 g2 (prg_1 k1 k2 p1 (star_cons h5)) (star_cons rfl), ed_col1 false d1⟩
    · cases h
  | .col t (.rng2 a b), e, X, I, W, h, O => by
    simp only [chkE] at h
    split at h
    · simp only [Bool.and_eq_true] at h
      obtain ⟨⟨⟨⟨⟨⟨⟨h1, h2⟩, h3⟩, h4⟩, h5⟩, h5'⟩, h6⟩, h7⟩ := h
      have h3 := of_decide_eq_true h3
      have h4 := of_decide_eq_true h4
      subst h3; subst h4
      obtain ⟨g1, g2, g3, g4⟩ := O.blt h1
      obtain ⟨k1, k2, k3, k4⟩ := O.blt h2
      obtain ⟨t1, p1, d1⟩ := (chkE_ok h6 O).ex
      obtain ⟨t2, p2, d2⟩ := (chkE_ok h7 O).ex
      cases t with
      | true => exact .val rfl ⟨_, pe_tupRg O.calm g1 g2 (prg_2 k1 k2 p1 p2 (star_cons h5) (star_cons h5') (star_any (by simp [h5']))) (star_cons rfl), ed_col2 true d1 d2⟩
      | false => exact .val rfl ⟨_, pe_listRg O.calm g1 g2 (prg_2 k1 k2 p1 p2 (star_cons h5) (star_cons h5') (star_any (by simp [h5']))) (star_cons rfl), ed_col2 false d1 d2⟩
    · cases h
  | .comp2 own vs1 e0 t s c t1 s1 c1, e, X, I, W, h, O => by
    simp only [chkE] at h
    split at h
    · rename_i elt tg iter ifs tg1 iter1 ifs1 scope pos
      simp only [Bool.and_eq_true] at h
      obtain ⟨⟨⟨⟨⟨⟨⟨⟨⟨⟨⟨⟨h1, h1'⟩, h2⟩, h3⟩, h3'⟩, hv⟩, h4⟩, h4'⟩, h5⟩, h5'⟩, h6⟩, h7⟩, h7'⟩ := h
      have bo := blkB_ok O h2
      obtain ⟨wi, pi, sd⟩ := chkS_ok h5 O
      have O' := fun (s : Shared) (H : Hp) (Ca : Addr) (cl : List (Str × Addr)) (fp : List Addr) => O.blk s H scope Ca cl fp bo.kind
      have hs : ∀ (s : Shared) (H : Hp) (Ca : Addr) (cl : List (Str × Addr)) (fp : List Addr), ∃ t, PTs (X.blk s H scope (compEnvC scope cl Ca X.env) fp) ifs t ∧ TD X.K C W0 t (asB (evE F.T.io (run F.T n) lk c)) := by
        intro s H Ca cl fp
        split at h7
        · have := isSkip_eq h7
          subst this
          exact pts_yes
        · simp only [Bool.and_eq_true] at h7
          obtain ⟨t, p, d⟩ := (chkE_ok h7.2 (O' s H Ca cl fp)).tt h7.1.2
          exact ⟨t, pts_one p, d⟩
        · cases h7
      have hs1 : ∀ (s : Shared) (H : Hp) (Ca : Addr) (cl : List (Str × Addr)) (fp : List Addr), ∃ t, PTs (X.blk s H scope (compEnvC scope cl Ca X.env) fp) ifs1 t ∧ TD X.K C W0 t (asB (evE F.T.io (run F.T n) lk c1)) := by
        intro s H Ca cl fp
        split at h7'
        · have := isSkip_eq h7'
          subst this
          exact pts_yes
        · simp only [Bool.and_eq_true] at h7'
          obtain ⟨t, p, d⟩ := (chkE_ok h7'.2 (O' s H Ca cl fp)).tt h7'.1.2
          exact ⟨t, pts_one p, d⟩
        · cases h7'
      have L := pe_lc2 (pos := pos) (vs1 := vs1) (g := cG X.K lk t) (g1 := cG X.K lk t1) (wi1 := cS X.K C W0 (evS F.T.io (run F.T n) lk s1)) (tt := cT X.K C W0 (asB (evE F.T.io (run F.T n) lk c))) (tt1 := cT X.K C W0 (asB (evE F.T.io (run F.T n) lk c1))) (te := cE X.K C W0 (evE F.T.io (run F.T n) lk e0)) O.calm (by rw [O.hN]; exact O.nd) pi bo
        (fun i hi => by rw [ownOf_snd]; exact subN_ok hv i hi)
        (fun s H Ca cl fp => cG_pg (X := X.blk s H scope (compEnvC scope cl Ca X.env) fp) (chkT_ok (O' s H Ca cl fp) h4))
        (fun s H Ca cl fp => cT_pts (X := X.blk s H scope (compEnvC scope cl Ca X.env) fp) (hs s H Ca cl fp))
        (fun s H Ca cl fp => cS_pi (X := X.blk s H scope (compEnvC scope cl Ca X.env) fp) (chkS_ok h5' (O' s H Ca cl fp)))
        (fun s H Ca cl fp => cG_pg (X := X.blk s H scope (compEnvC scope cl Ca X.env) fp) (chkT_ok (O' s H Ca cl fp) h4'))
        (fun s H Ca cl fp => cT_pts (X := X.blk s H scope (compEnvC scope cl Ca X.env) fp) (hs1 s H Ca cl fp))
        (fun s H Ca cl fp => cE_pe (X := X.blk s H scope (compEnvC scope cl Ca X.env) fp) (chkE_ok h6 (O' s H Ca cl fp)).ex) (foldS h1) (fun _ => foldS h1')
      rw [ownOf_snd] at L
      exact .val rfl ⟨_, L, ed_comp2 sd (cG_gd _ _ _) (cT_td _ _) (cS_sd _ _) (cG_gd _ _ _) (cT_td _ _) (cE_ed _ _) (subN_ok h3) (subN_ok h3')⟩
    · cases h
  | .col _ (.seq _), e, X, I, W, h, O => by simp [chkE] at h
  | .col _ (.rng3 _ _ _), e, X, I, W, h, O => by simp [chkE] at h
  | .col _ (.enum _), e, X, I, W, h, O => by simp [chkE] at h
  | .col _ (.zip _ _), e, X, I, W, h, O => by simp [chkE] at h
  | .col _ (.items _), e, X, I, W, h, O => by simp [chkE] at h
  | .index a b, e, X, I, W, h, O => by
    simp only [chkE] at h
    split at h
    · simp only [Bool.and_eq_true, decide_eq_true_eq] at h
      obtain ⟨⟨⟨⟨⟨h1, h2⟩, h3⟩, h4⟩, h5⟩, h6⟩ := h
      subst h2
      obtain ⟨t1, p1, d1⟩ := (chkE_ok h5 O).ex
      obtain ⟨t2, p2, d2⟩ := (chkE_ok h6 O).ex
      have hu : X.A.units + 65 < cLine := by have := O.room.un; omega
      exact .val rfl ⟨_, pe_bm PySem.F.plainAttrs_list PySem.F.slot_list_index PySem.F.type_list_index (mt_indexD hu) p1 (pa_cons' p2 pa_nil h4) (base_of h1) (bm_few h4) h3 (star_cons h4) rfl, ed_index d1 d2⟩
    · cases h
  | .bitl a, e, X, I, W, h, O => by
    simp only [chkE] at h
    split at h
    · simp only [Bool.and_eq_true, decide_eq_true_eq] at h
      obtain ⟨⟨⟨h1, h2⟩, h3⟩, h4⟩ := h
      subst h2
      obtain ⟨t1, p1, d1⟩ := (chkE_ok h4 O).ex
      exact .val rfl ⟨_, pe_bits p1 (base_of h1) h3, ed_bitl d1⟩
    · cases h
  | .isB m a c, e, X, I, W, h, O => by
    simp only [chkE] at h
    split at h
    · simp only [Bool.and_eq_true, decide_eq_true_eq] at h
      obtain ⟨⟨h1, h2⟩, h3⟩ := h
      subst h1
      subst h2
      obtain ⟨t1, p1, d1⟩ := (chkE_ok h3 O).ex
      exact ⟨⟨_, pe_cmpR (op_isB m) p1 pe_bl (nomarkS rfl), ed_isB d1 m c⟩, fun _ => ⟨_, pt_cmpR (op_isB m) p1 pe_bl (nomarkS rfl), td_cmp (ed_isB d1 m c)⟩, fun b => by simp [isBool] at b⟩
    · cases h
  | .rev a, e, X, I, W, h, O => by
    simp only [chkE] at h
    split at h
    · obtain ⟨t1, p1, d1⟩ := (chkE_ok h O).ex
      exact .val rfl ⟨_, pe_rev2 p1, ed_rev d1⟩
    · cases h
  | .sset a, e, X, I, W, h, O => by
    simp only [chkE] at h
    split at h
    · rename_i f pf g pg x q1 q2
      simp only [Bool.and_eq_true, decide_eq_true_eq] at h
      obtain ⟨⟨⟨⟨⟨h1, h2⟩, h3⟩, h4⟩, h5⟩, h6⟩ := h
      subst h1
      subst h2
      obtain ⟨g1, g2, g3, g4⟩ := O.blt h3
      obtain ⟨k1, k2, k3, k4⟩ := O.blt h4
      obtain ⟨t1, p1, d1⟩ := (chkE_ok h6 O).ex
      have pi := pe_callTy (pos := q1) (p := pg) (cr_setLI O.calm) k1 k2 PyProof.Rows.boot_set (pa_cons' p1 pa_nil h5) k4 k3 (star_cons h5) (star_any (by simp))
      exact .val rfl ⟨_, pe_callB (cr_sortedSet O.calm) g1 g2 (by rfl) (pa_cons' pi pa_nil rfl) g4 g3 (star_cons rfl) (star_any (by simp)), ed_sset d1⟩
    · cases h
  | .join s a, e, X, I, W, h, O => by
    simp only [chkE] at h
    split at h
    · simp only [Bool.and_eq_true, decide_eq_true_eq, beq_iff_eq] at h
      obtain ⟨⟨⟨⟨rfl, rfl⟩, h3⟩, h4⟩, h5⟩ := h
      obtain ⟨t1, p1, d1⟩ := (chkE_ok h5 O).ex
      exact .val rfl ⟨_, pe_join pe_str p1 (star_cons h4) rfl (by rw [h3]; exact beq_self_eq_true _), ed_join d1⟩
    · cases h
  | .dsp kvs, e, X, I, W, h, O => by
    simp only [chkE] at h
    split at h
    · simp only [Bool.and_eq_true, decide_eq_true_eq] at h
      rename_i ks vs pos
      obtain ⟨⟨h1, h2⟩, h3⟩ := h
      obtain ⟨i1, i2, i3, i4⟩ := dsp_pps (X := X) (pos := pos) h1
      have hne : kvs.length ≠ 0 := fun e => by
        rw [List.length_eq_zero_iff] at e
        subst e
        simp at h2
      exact .val rfl ⟨_, pe_disp i1 i2 i3 (fun e => hne (by rw [← i4, e]; rfl)) (by omega), ed_dsp h3⟩
    · cases h
  | .cdx x kvs a, e, X, I, W, h, O => by
    simp only [chkE] at h
    split at h
    · simp only [Bool.and_eq_true] at h
      obtain ⟨⟨⟨h0, h1⟩, h2⟩, h3⟩ := h
      obtain ⟨g1, g2, g3⟩ := O.gl h1
      obtain ⟨t1, p1, d1⟩ := (chkE_ok h3 O).ex
      split at h2
      · rename_i c e
        have := of_decide_eq_true h2
        subst this
        obtain ⟨p, m, hk⟩ := O.g.cdt _ _ e
        exact .val rfl ⟨_, pe_ix ix_kdict (pe_glob g1 m (show RelV (.ref p) (.ref p) from rfl) g2) p1 (plainIxS h0), ed_cdx hk (fun q => q) d1⟩
      · cases h2
    · cases h
  | .lset a, e, X, I, W, h, O => by
    simp only [chkE] at h
    split at h
    · simp only [Bool.and_eq_true, decide_eq_true_eq] at h
      obtain ⟨⟨⟨⟨⟨h1, h2⟩, h3⟩, h4⟩, h5⟩, h6⟩ := h
      subst h1
      subst h2
      obtain ⟨g1, g2, g3, g4⟩ := O.blt h3
      obtain ⟨k1, k2, k3, k4⟩ := O.blt h4
      obtain ⟨t1, p1, d1⟩ := (chkE_ok h6 O).ex
      exact .val rfl ⟨_, pe_lenS g1 g2 k1 k2 p1 O.calm h5, ed_lset d1⟩
    · cases h
  | .popI i b, e, X, I, W, h, O => by
    simp only [chkE] at h
    split at h
    · simp only [Bool.and_eq_true, decide_eq_true_eq] at h
      obtain ⟨⟨⟨⟨h1, h2⟩, h3⟩, h4⟩, h5⟩ := h
      subst h2
      obtain ⟨v1, v2, v3, v4⟩ := O.vis h1
      obtain ⟨t2, p2, d2⟩ := (chkE_ok h5 O).ex
      exact .val rfl ⟨_, pe_bm PySem.F.plainAttrs_list PySem.F.slot_list_pop PySem.F.type_list_pop mt_popAt (pe_var v1 v2 v3 v4) (pa_cons' p2 pa_nil h4) rfl (bm_few h4) h3 (star_cons h4) rfl, ed_popI d2⟩
    · cases h
  | .skip, e, X, I, W, h, O => by simp [chkE] at h
theorem chkEs_ok : ∀ {k : Exs} {es : List Expr} {X : Cx} {I : Inf} {W : WX}, chkEs F I k es = true → es.all notStar = true → XOk F C n X I W → ∃ t, PA X es t ∧ AD X.K C W t (evEs F.T.io (run F.T n) lk k)
  | .nil, es, X, I, W, h, _, O => by
    simp only [chkEs, List.isEmpty_iff] at h
    subst h
    exact ⟨_, pa_nil, AD.nil⟩
  | .cons a as, es, X, I, W, h, hs, O => by
    simp only [chkEs] at h
    split at h
    · simp only [Bool.and_eq_true] at h
      rw [List.all_cons, Bool.and_eq_true] at hs
      obtain ⟨t1, p1, d1⟩ := (chkE_ok h.1 O).ex
      obtain ⟨t2, p2, d2⟩ := chkEs_ok h.2 hs.2 O
      exact ⟨_, pa_cons' p1 p2 hs.1, AD.cons d1 d2⟩
    · cases h
theorem chkKs_ok : ∀ {k : Exs} {es : List Keyword} {X : Cx} {I : Inf} {W : WX}, chkKs F I k es = true → XOk F C n X I W → ∃ t, PK X es t ∧ AD X.K C W t (evEs F.T.io (run F.T n) lk k)
  | .nil, es, X, I, W, h, O => by
    simp only [chkKs, List.isEmpty_iff] at h
    subst h
    exact ⟨_, pk_nil, AD.nil⟩
  | .cons a as, es, X, I, W, h, O => by
    simp only [chkKs] at h
    split at h
    · simp only [Bool.and_eq_true] at h
      obtain ⟨t1, p1, d1⟩ := (chkE_ok h.1 O).ex
      obtain ⟨t2, p2, d2⟩ := chkKs_ok h.2 O
      exact ⟨_, pk_cons p1 p2, AD.cons d1 d2⟩
    · cases h
theorem chkS_ok : ∀ {k : Sr} {tg i : Expr} {X : Cx} {I : Inf} {W : WX}, chkS F I k tg i = true → XOk F C n X I W → ∃ wi, PI X tg i wi ∧ SD X.K C W wi (evS F.T.io (run F.T n) lk k)
  | .seq a, tg, i, X, I, W, h, O => by
    simp only [chkS] at h
    obtain ⟨t1, p1, d1⟩ := (chkE_ok h O).ex
    exact ⟨_, pi_seq p1, sd_seq d1⟩
  | .rng1 a, tg, i, X, I, W, h, O => by
    simp only [chkS] at h
    split at h
    · simp only [Bool.and_eq_true, decide_eq_true_eq] at h
      obtain ⟨⟨⟨h1, h2⟩, h3⟩, h4⟩ := h
      subst h2
      obtain ⟨g1, g2, g3, g4⟩ := O.blt h1
      obtain ⟨t1, p1, d1⟩ := (chkE_ok h4 O).ex
      exact ⟨_, pi_range1 g1 g2 (pa_cons' p1 pa_nil h3) (star_cons h3), sd_rng1 d1⟩
    · cases h
  | .rng2 a b, tg, i, X, I, W, h, O => by
    simp only [chkS] at h
    split at h
    · simp only [Bool.and_eq_true, decide_eq_true_eq] at h
      obtain ⟨⟨⟨⟨⟨h1, h2⟩, h3⟩, h4⟩, h5⟩, h6⟩ := h
      subst h2
      obtain ⟨g1, g2, g3, g4⟩ := O.blt h1
      obtain ⟨t1, p1, d1⟩ := (chkE_ok h5 O).ex
      obtain ⟨t2, p2, d2⟩ := (chkE_ok h6 O).ex
      exact ⟨_, pi_range2 g1 g2 (pa_cons' p1 (pa_cons' p2 pa_nil h4) h3) (by rw [star_cons h3, star_cons h4]; rfl) (star_cons h4), sd_rng2 d1 d2⟩
    · cases h
  | .rng3 a b c, tg, i, X, I, W, h, O => by
    simp only [chkS] at h
    split at h
    · simp only [Bool.and_eq_true, decide_eq_true_eq] at h
      obtain ⟨⟨⟨⟨⟨⟨⟨h1, h2⟩, h3⟩, h4⟩, h5⟩, h6⟩, h7⟩, h8⟩ := h
      subst h2
      obtain ⟨g1, g2, g3, g4⟩ := O.blt h1
      obtain ⟨t1, p1, d1⟩ := (chkE_ok h6 O).ex
      obtain ⟨t2, p2, d2⟩ := (chkE_ok h7 O).ex
      obtain ⟨t3, p3, d3⟩ := (chkE_ok h8 O).ex
      exact ⟨_, pi_range3 g1 g2 (pa_cons' p1 (pa_cons' p2 (pa_cons' p3 pa_nil h5) h4) h3) (star_cons h3) (star_any (by simp [h4, h5])), sd_rng3 d1 d2 d3⟩
    · cases h
  | .enum a, tg, i, X, I, W, h, O => by
    simp only [chkS] at h
    split at h
    · simp only [Bool.and_eq_true, decide_eq_true_eq] at h
      obtain ⟨⟨⟨⟨h1, h2⟩, h3⟩, h4⟩, h5⟩ := h
      subst h2
      obtain ⟨g1, g2, g3, g4⟩ := O.blt h1
      obtain ⟨t1, p1, d1⟩ := (chkE_ok h4 O).ex
      split at h5
      · exact ⟨_, pi_enumA g1 g2 (pa_cons' p1 pa_nil h3) (star_cons h3), sd_enum d1⟩
      · cases h5
    · cases h
  | .zip a b, tg, i, X, I, W, h, O => by
    simp only [chkS] at h
    split at h
    · simp only [Bool.and_eq_true, decide_eq_true_eq] at h
      obtain ⟨⟨⟨⟨⟨⟨h1, h2⟩, h3⟩, h4⟩, h5⟩, h6⟩, h7⟩ := h
      subst h2
      obtain ⟨g1, g2, g3, g4⟩ := O.blt h1
      obtain ⟨t1, p1, d1⟩ := (chkE_ok h5 O).ex
      obtain ⟨t2, p2, d2⟩ := (chkE_ok h6 O).ex
      split at h7
      · exact ⟨_, RZ.pi_zipA g1 g2 (pa_cons' p1 (pa_cons' p2 pa_nil h4) h3) (star_cons h3) (star_any (by simp [h4])), sd_zip d1 d2⟩
      · cases h7
    · cases h
  | .items _, tg, i, X, I, W, h, O => by simp [chkS] at h
end
end
end PD
set_option maxRecDepth 100000
set_option autoImplicit false
/-! PD14: readings of statements by code. -/
namespace PD
variable [WW]
open PySem PySem.Spec PyProof.Rows L2
section
variable {K : PySem.W.Frag} {C : Nat → Addr} {W : WX} {B B' : Addr → Prop} {lk : List Nat} {σ σ1 σ2 σ' : L2.St} {H H0 H1 H2 H' : Hp} {ρ ρ0 ρ1 ρ2 ρ' : Env} {v : V} {d : PyData} {a : Addr}
/-! ### outcomes -/
def GoodO (K : PySem.W.Frag) (C : Nat → Addr) (W : WX) (lk : List Nat) (B : Addr → Prop) (σ : L2.St) (H : Hp) (ρ : Env) (out : Out) (D : Ends) : Prop := match out with
  | .nx ρ' => ∀ σ' H', Tr K B lk σ H ρ σ' H' ρ' → D.nx σ' H'
  | .brk ρ' => ∀ σ' H', Tr K B lk σ H ρ σ' H' ρ' → D.bk σ' H'
  | .cnt ρ' => ∀ σ' H', Tr K B lk σ H ρ σ' H' ρ' → D.ct σ' H'
  | .ret (.val d) ρ' => ∀ v σ' H', Tr K B lk σ H ρ σ' H' ρ' → Rp K (Free B σ' ρ') H' v d → D.rt v H'
  | .ret (.own d) ρ' => ∀ a σ' H', Tr K (Bl B a) lk σ H ρ σ' H' ρ' → (OwnAt σ ρ a ∨ H a = none) → ¬ B a → ORp K (Free (Bl B a) σ' ρ') H' a d → D.rt (.ref a) H'
  | .ret (.sl _) _ => False
  | .exc c d ρ' => ∀ dd σ' H', Tr K B lk σ H ρ σ' H' ρ' → ExcAt K H' B σ' ρ' d dd → W (.ref (C c)) (some dd) σ' H'
  | .no => False
def SDs (K : PySem.W.Frag) (C : Nat → Addr) (W : WX) (lk : List Nat) (t : TS) (f : Env → Out) : Prop := ∀ B σ H ρ D, SR K B σ H ρ → GoodO K C W lk B σ H ρ (f ρ) D → t D σ H
theorem GoodO.step {out : Out} {D : Ends} (t : Tr K B lk σ H ρ σ1 H1 ρ1) (g : GoodO K C W lk B σ H ρ out D) : GoodO K C W lk B σ1 H1 ρ1 out D := by
  cases out with
  | nx ρ' => exact fun σ' H' u => g σ' H' (t.trans u)
  | brk ρ' => exact fun σ' H' u => g σ' H' (t.trans u)
  | cnt ρ' => exact fun σ' H' u => g σ' H' (t.trans u)
  | no => exact g
  | exc c d ρ' => exact fun dd σ' H' u e => g dd σ' H' (t.trans u) e
  | ret r ρ' =>
    cases r with
    | val d => exact fun v σ' H' u r => g v σ' H' (t.trans u) r
    | own d => exact fun a σ' H' u o n r => g a σ' H' (t.trans u) (o.elim (t.ow a) fun n => .inr (t.kp.back n)) n r
    | sl i => exact g
theorem sds_next : SDs K C W lk tNext fun ρ => .nx ρ := fun B σ H ρ D s g => g σ H (Tr.refl s)
theorem sds_brk : SDs K C W lk tBreak fun ρ => .brk ρ := fun B σ H ρ D s g => g σ H (Tr.refl s)
theorem sds_cnt : SDs K C W lk tCont fun ρ => .cnt ρ := fun B σ H ρ D s g => g σ H (Tr.refl s)
theorem sds_retN : SDs K C W lk tRetN fun ρ => .ret (.val .none) ρ := fun B σ H ρ D s g => g .non σ H (Tr.refl s) .non
theorem sds_seq {t u : TS} {f g : Env → Out} (h1 : SDs K C W lk t f) (h2 : SDs K C W lk u g) : SDs K C W lk (tSeq t u) fun ρ => (f ρ).seq g := by
  intro B σ H ρ D s hg
  refine h1 B σ H ρ _ s ?_
  dsimp only at hg
  cases e : f ρ with
  | nx ρ' =>
    rw [e, Out.seq_nx] at hg
    exact fun σ' H' t => h2 B σ' H' ρ' D t.sr (hg.step t)
  | brk ρ' => rw [e] at hg; exact hg
  | cnt ρ' => rw [e] at hg; exact hg
  | no => rw [e] at hg; exact hg
  | exc c d ρ' => rw [e] at hg; exact hg
  | ret r ρ' => rw [e] at hg; cases r <;> exact hg
theorem ED.bindO {t : TE} {f : Env → Rs Rv} (h : ED K C W t f) (s : SR K B σ H ρ) {g : Rv → Env → Out} {Q' : VK} {D : Ends} (hg : GoodO K C W lk B σ H ρ ((f ρ).out g) D)
    (hok : ∀ r ρ' v H', Keep (OwnAt σ ρ) H H' → OSub σ ρ' ρ → Ext ρ ρ' → Fr H v r → ResR K B σ H' ρ' v r → GoodO K C W lk B σ H ρ (g r ρ') D → Q' v H') : t σ H Q' := by
  refine h B σ H ρ Q' s ?_
  cases e : f ρ with
  | ok r ρ' =>
    rw [e, Rs.out_ok] at hg
    exact fun v H' k o x fr r' => hok _ _ _ _ k o x fr r' hg
  | exc c d ρ' =>
    rw [e] at hg
    exact fun dd H' k o s' ex => hg dd σ H' (Tr.ofE k o s') ex
  | no => rw [e] at hg; exact hg
theorem AD.bindO {t : TA} {f : Env → Rs (List Rv)} (h : AD K C W t f) (s : SR K B σ H ρ) {g : List Rv → Env → Out} {Q' : List V → Hp → Prop} {D : Ends} (hg : GoodO K C W lk B σ H ρ ((f ρ).out g) D)
    (hok : ∀ rs ρ' vs H' Bs, Keep (OwnAt σ ρ) H H' → OSub σ ρ' ρ → Ext ρ ρ' → (∀ (k : Nat) d a, rs[k]? = some (.own d) → vs[k]? = some (V.ref a) → H a = none) → ResL K B Bs σ H' ρ' vs rs → GoodO K C W lk B σ H ρ (g rs ρ') D → Q' vs H') : t σ H Q' := by
  refine h B σ H ρ Q' s ?_
  cases e : f ρ with
  | ok r ρ' =>
    rw [e, Rs.out_ok] at hg
    exact fun v H' Bs k o x fr r' => hok _ _ _ _ _ k o x fr r' hg
  | exc c d ρ' =>
    rw [e] at hg
    exact fun dd H' k o s' ex => hg dd σ H' (Tr.ofE k o s') ex
  | no => rw [e] at hg; exact hg
theorem TD.bindO {t : TT} {f : Env → Rs Bool} (h : TD K C W t f) (s : SR K B σ H ρ) {g : Bool → Env → Out} {Q' : Bool → Hp → Prop} {D : Ends} (hg : GoodO K C W lk B σ H ρ ((f ρ).out g) D)
    (hok : ∀ b ρ' H', Tr K B lk σ H ρ σ H' ρ' → GoodO K C W lk B σ H ρ (g b ρ') D → Q' b H') : t σ H Q' := by
  refine h B σ H ρ Q' s ?_
  cases e : f ρ with
  | ok r ρ' =>
    rw [e, Rs.out_ok] at hg
    exact fun H' k o x r' => hok _ _ _ (Tr.ofE k o r') hg
  | exc c d ρ' =>
    rw [e] at hg
    exact fun dd H' k o s' ex => hg dd σ H' (Tr.ofE k o s') ex
  | no => rw [e] at hg; exact hg
theorem SD.bindO {t : TI} {f : Env → Rs (List PyData)} (h : SD K C W t f) (s : SR K B σ H ρ) {g : List PyData → Env → Out} {R : It → Hp → Prop} {D : Ends} (hg : GoodO K C W lk B σ H ρ ((f ρ).out g) D)
    (hok : ∀ ds ρ' J H', Tr K B lk σ H ρ σ H' ρ' → Src K (Free B σ ρ') H' J ds → GoodO K C W lk B σ H ρ (g ds ρ') D → R J H') : t σ H R := by
  refine h B σ H ρ R s ?_
  cases e : f ρ with
  | ok r ρ' =>
    rw [e, Rs.out_ok] at hg
    exact fun J H' k o x r' sc => hok _ _ _ _ (Tr.ofE k o r') sc hg
  | exc c d ρ' =>
    rw [e] at hg
    exact fun dd H' k o s' ex => hg dd σ H' (Tr.ofE k o s') ex
  | no => rw [e] at hg; exact hg
theorem sds_drop {te : TE} {f : Env → Rs Rv} (h : ED K C W te f) : SDs K C W lk (tDrop te) fun ρ => (f ρ).out fun _ ρ1 => .nx ρ1 := by
  intro B σ H ρ D s hg
  exact h.bindO s hg fun r ρ' v H' k o x fr r' g => g σ H' (Tr.ofE k o r'.sr)
/-! ### a name is set -/
theorem sto_ok {i : Nat} {r : Rv} (k : Keep (OwnAt σ ρ) H H1) (o : OSub σ ρ1 ρ) (fr : Fr H v r) (rr : ResR K B σ H1 ρ1 v r) (e : stoV lk i r ρ1 = some ρ') : Tr K B lk σ H ρ (σ.set i (some v)) H1 ρ' := by
  unfold stoV at e
  split at e
  · cases e
  · rename_i hi
    have hi1 : i ∉ lk := fun z => hi (.inl z)
    have hi2 : i < ρ1.length := by
      by_cases z : i < ρ1.length
      · exact z
      · exact absurd (.inr z) hi
    have lks : ∀ j ∈ lk, (σ.set i (some v))[j]? = σ[j]? := fun j hj => List.getElem?_set_ne fun e => hi1 (by rw [e]; exact hj)
    cases r with
    | val d =>
      simp only [Option.some.injEq] at e
      subst e
      obtain ⟨s2, os⟩ := rr.1.put hi2 rr.2
      exact ⟨s2, k, fun a h => .inl (o a (os a h)), List.length_set, lks⟩
    | own d =>
      simp only [Option.some.injEq] at e
      subst e
      obtain ⟨a, rfl, nb, s1, r1⟩ := rr
      obtain ⟨s2, os⟩ := s1.putOwn nb hi2 r1
      exact ⟨s2, k, fun x h => (os x h).elim (fun z => .inl (o x z)) fun z => .inr (z ▸ fr a rfl), List.length_set, lks⟩
    | sl j =>
      dsimp only at e
      split at e
      · cases e
      · split at e
        · rename_i m d ej
          simp only [Option.some.injEq] at e
          subst e
          obtain ⟨s1, hv, _⟩ := rr
          obtain ⟨s2, o2, _, rp⟩ := s1.demote ej
          obtain ⟨s3, os⟩ := s2.put (by rw [List.length_set]; exact hi2) (rp v hv)
          exact ⟨s3, k, fun a h => .inl (o a (o2 a (os a h))), List.length_set, lks⟩
        · cases e
theorem GoodO.optN {o : Option Env} {D : Ends} (g : GoodO K C W lk B σ H ρ (optN o) D) : ∃ ρ', o = some ρ' ∧ ∀ σ' H', Tr K B lk σ H ρ σ' H' ρ' → D.nx σ' H' := by
  cases o with
  | none => exact g.elim
  | some ρ' => exact ⟨ρ', rfl, g⟩
theorem sds_set {te : TE} {f : Env → Rs Rv} {i : Nat} (h : ED K C W te f) : SDs K C W lk (tAsg te (gName i)) fun ρ => (f ρ).out fun x ρ1 => optN (stoV lk i x ρ1) := by
  intro B σ H ρ D s hg
  refine h.bindO s hg fun r ρ1 v H1 k o x fr r' g => ?_
  obtain ⟨ρ', e, g⟩ := g.optN
  exact g _ _ (sto_ok k o fr r' e)
theorem sds_unp {te : TE} {f : Env → Rs Rv} {g : TG} {t : Tg} (h : ED K C W te f) (hg : GD K lk g t) : SDs K C W lk (tAsg te g) fun ρ => (f ρ).out fun x ρ1 => (keepV lk x ρ1).out fun d ρ2 => optN (asgT lk t d ρ2) := by
  intro B σ H ρ D s hgo
  refine h.bindO s hgo fun r ρ1 v H1 k o x fr r' g => ?_
  rcases keepV_cases lk r ρ1 with ⟨d, ρ2, ek⟩ | ek
  · rw [ek, Rs.out_ok] at g
    obtain ⟨ρ', e, g⟩ := g.optN
    obtain ⟨s2, r2, o2, x2⟩ := keepV_ok r'.sr r'.op ek
    exact hg B σ H1 ρ2 ρ' v d _ s2 r2 e fun σ' s3 o3 m3 n3 => g _ _ ⟨s3, k, fun a z => .inl (o a (o2 a (o3 a z))), m3.ls, fun i hi => m3.s i fun z => n3 i z hi⟩
  · rw [ek] at g; exact g.elim
/-- xs.append(e) -/
theorem sds_app {te : TE} {f : Env → Rs Rv} {i : Nat} (h : ED K C W te f) : SDs K C W lk (tDrop (tBM K "list" rAppend (tVar i) (tCons te tNil))) fun ρ => if oLst ρ i = true then (f ρ).out fun x ρ1 => (keepV lk x ρ1).out fun d ρ2 => optN (chgL i (fun ds => some (ds ++ [d])) ρ2) else .no := by
  intro B σ H ρ D s hg
  dsimp only at hg
  split at hg
  · rename_i hl
    obtain ⟨a, xs, e2, e3⟩ := oLst_ok s hl
    refine ⟨_, e2, .inl ⟨rfl, _, SqL.of e3⟩, ?_⟩
    refine h.bindO s hg fun r ρ1 v H1 k o x fr r' g => ?_
    rcases keepV_cases lk r ρ1 with ⟨d, ρ2, ek⟩ | ek
    · rw [ek, Rs.out_ok] at g
      obtain ⟨ρ', e, g⟩ := g.optN
      obtain ⟨s2, r2, o2, x2⟩ := keepV_ok r'.sr r'.op ek
      obtain ⟨a', ys, ds, ds', q1, q2, q3, q4, q5, q6⟩ := chgL_ok (lk := lk) s2 e
      simp only [Option.some.injEq] at q4
      subst q4
      rw [e2] at q1
      cases q1
      exact ⟨a, ys, v, rfl, rfl, q2, Nat.lt_of_lt_of_le (by rw [List.length_append, q3.length]; exact Nat.lt_succ_self _) (len_line q5), g _ _ ((Tr.ofE k (o.trans o2) s2).trans (q6 _ (Rps.append q3 (.cons r2 .nil))))⟩
    · rw [ek] at g; exact g.elim
  · exact hg.elim
/-- xs.extend(e) -/
theorem sds_ext {te : TE} {f : Env → Rs Rv} {i : Nat} (h : ED K C W te f) : SDs K C W lk (tDrop (tBM K "list" rExtend (tVar i) (tCons te tNil))) fun ρ => if oLst ρ i = true then (f ρ).out fun x ρ1 => match x with
    | .own (.list es) => optN (chgL i (fun ds => some (ds ++ es)) ρ1)
    | .sl j => match ρ1[j]? with
      | some (some (true, .list es)) => optN (chgL i (fun ds => some (ds ++ es)) ρ1)
      | _ => .no
    | _ => .no else .no := by
  intro B σ H ρ D s hg
  dsimp only at hg
  split at hg
  · rename_i hl
    obtain ⟨a, xs, e2, e3⟩ := oLst_ok s hl
    refine ⟨_, e2, .inl ⟨rfl, _, SqL.of e3⟩, ?_⟩
    refine h.bindO s hg fun r ρ1 v H1 k o x fr r' g => ?_
    have key : ∀ {b : Addr} {zs : List V} {es : List PyData}, v = .ref b → H1 b = some (.lst zs) → Rps K (Free B σ ρ1) H1 zs es → GoodO K C W lk B σ H ρ (optN (chgL i (fun ds => some (ds ++ es)) ρ1)) D → SR K B σ H1 ρ1 → tNil σ H1 (fun xs H2 => rExtend (.ref a) (v :: xs) H2 fun _ H3 => D.nx σ H3) := by
      intro b zs es ev eb rz g s1
      obtain ⟨ρ', e, g⟩ := g.optN
      obtain ⟨a', ys, ds, ds', q1, q2, q3, q4, q5, q6⟩ := chgL_ok (lk := lk) s1 e
      simp only [Option.some.injEq] at q4
      subst q4
      rw [e2] at q1
      cases q1
      subst ev
      exact ⟨a, b, ys, zs, rfl, rfl, q2, eb, by have := len_line q5; rw [List.length_append] at this; rw [q3.length, rz.length]; exact this, g _ _ ((Tr.ofE k o s1).trans (q6 _ (Rps.append q3 rz)))⟩
    split at g
    · rename_i es
      obtain ⟨b, eb, nb, s1, ob⟩ := r'
      obtain ⟨zs, eb2, rz⟩ := ob.list
      exact key eb eb2 (rz.mono fun x f => ⟨fun z => f.1 (.inl z), f.2⟩) g (s1.weak fun x z => .inl z)
    · rename_i j
      obtain ⟨s1, ev, _⟩ := r'
      split at g
      · rename_i es ej
        obtain ⟨b, q, nb, ob⟩ := s1.own j _ ej
        rw [ev] at q
        cases q
        obtain ⟨zs, eb2, rz⟩ := ob.list
        exact key rfl eb2 rz g s1
      · exact g.elim
    · exact g.elim
  · exact hg.elim
/-- xs.insert(a, e) -/
theorem sds_ins {ta te : TE} {fa f : Env → Rs Rv} {i : Nat} (ha : ED K C W ta fa) (h : ED K C W te f) : SDs K C W lk (tDrop (tBM K "list" (fun x vs H Q => ∃ (l : Addr) (xs : List V) (i : Int) (y : V), x = .ref l ∧ vs = [.int i, y] ∧ H l = some (.lst xs) ∧ xs.length < sizeLine ∧ 0 ≤ i ∧ i < 2 ^ 63 ∧
    Q .non (upd H l (.lst (xs.take i.toNat ++ [y] ++ xs.drop i.toNat)))) (tVar i) (tCons ta (tCons te tNil)))) fun ρ => if oLst ρ i = true then (fa ρ).out fun y ρ1 => (f ρ1).out fun x ρ2 => (keepV lk x ρ2).out fun d ρ3 => match y with
    | .val (.int k) => optN (chgL i (fun ds => if insOk k = true then some (ds.take k.toNat ++ [d] ++ ds.drop k.toNat) else none) ρ3)
    | _ => .no else .no := by
  intro B σ H ρ D s hg
  dsimp only at hg
  split at hg
  · rename_i hl
    obtain ⟨a, xs, e2, e3⟩ := oLst_ok s hl
    refine ⟨_, e2, .inl ⟨rfl, _, SqL.of e3⟩, ?_⟩
    refine ha.bindO s hg fun r0 ρ0 v0 H0 k0 o0 x0 fr0 r0' g => ?_
    refine h.bindO r0'.sr (g.step (Tr.ofE k0 o0 r0'.sr)) fun r ρ1 v H1 k o x fr r' g => ?_
    rcases keepV_cases lk r ρ1 with ⟨d, ρ2, ek⟩ | ek
    · rw [ek, Rs.out_ok] at g
      split at g
      · rename_i kk _
        have hv : v0 = .int kk := (r0'.op.rv r0'.sr rfl).int
        obtain ⟨ρ', e, g⟩ := g.optN
        obtain ⟨s2, r2, o2, x2⟩ := keepV_ok r'.sr r'.op ek
        obtain ⟨a', ys, ds, ds', q1, q2, q3, q4, q5, q6⟩ := chgL_ok (lk := lk) s2 e
        split at q4
        · rename_i hk
          have hk := insOk_le hk
          simp only [Option.some.injEq] at q4
          subst q4
          rw [e2] at q1
          cases q1
          have hll : ys.length < sizeLine := by
            have h1 := len_line q5
            simp only [List.length_append, List.length_take, List.length_drop, List.length_cons, List.length_nil] at h1
            rw [q3.length]
            omega
          have h63 : kk < 2 ^ 63 := by have := hk.1; have := hk.2; omega
          exact ⟨a, ys, kk, v, rfl, by rw [hv], q2, hll, hk.1, h63, g _ _ ((Tr.ofE k (o.trans o2) s2).trans (q6 _ (Rps.append (Rps.append (Rps.take _ q3) (.cons r2 .nil)) (Rps.drop _ q3))))⟩
        · cases q4
      · exact g.elim
    · rw [ek] at g; exact g.elim
  · exact hg.elim
/-- xs[ix] = e, of a list or a dict -/
theorem sds_setI {te ti : TE} {f fi : Env → Rs Rv} {i : Nat} (h : ED K C W te f) (hi : ED K C W ti fi) : SDs K C W lk (tAsg te (gSub (tVar i) ti (fun x y v H Q => (rSetL x y v H Q ∨ rDSet x y v H Q) ∨ rNSet K x y v H Q))) fun ρ => (f ρ).out fun x ρ1 => (keepV lk x ρ1).out fun d ρ2 => if oMut ρ2 i = true then (fi ρ2).out fun y ρ3 => match y with
    | .val j => optN (setO i j d ρ3)
    | _ => .no else .no := by
  intro B σ H ρ D s hg
  refine h.bindO s hg fun r ρ1 v H1 k o x fr r' g => ?_
  rcases keepV_cases lk r ρ1 with ⟨d, ρ2, ek⟩ | ek
  · rw [ek, Rs.out_ok] at g
    obtain ⟨s2, r2, o2, x2⟩ := keepV_ok r'.sr r'.op ek
    split at g
    · rename_i hl
      obtain ⟨a, e2⟩ := oMut_ok s2 hl
      refine ⟨_, e2, ?_⟩
      refine hi.bindO s2 (g.step (Tr.ofE k (o.trans o2) s2)) fun r3 ρ3 v3 H3 k3 o3 x3 fr3 r3' g => ?_
      split at g
      · rename_i j _
        obtain ⟨ρ', e, gz⟩ := GoodO.optN g
        exact setO_ok (lk := lk) r3'.sr r3'.2 (r2.stay k3 o3) e e2 fun H' T => gz _ _ ((Tr.ofE k3 o3 r3'.sr).trans T)
      · exact g.elim
    · exact g.elim
  · rw [ek] at g; exact g.elim
/-! ### a op= b -/
def rOfA : BO → TIp
  | .add => rI0 fun i j => .int (i + j)
  | .sub => rI0 fun i j => .int (i - j)
  | .mul => rI CMulV fun i j => .int (i * j)
  | .mod => rI (fun _ j => 0 < j) fun i j => .int (i % j)
  | .fdiv => rI CDiv fun i j => .int (i / j)
  | _ => fun _ _ _ _ => False
theorem iop_mulV {X : Cx} : OpR X (inplaceOp .Mult) (rI CMulV fun i j => .int (i * j)) := opI fun _ _ _ _ _ _ _ hc q => imul_int q hc.ok
theorem ip_ofA {X : Cx} (o : BO) : PIp X (opOfB o) (rOfA o) := by
  cases o with
  | add => exact iop_add
  | sub => exact iop_sub
  | mul => exact iop_mulV
  | mod => exact iop_mod
  | fdiv => exact iop_fdiv
  | pow => exact fun _ _ _ _ _ _ _ _ _ _ _ _ h => h.elim
  | shl => exact fun _ _ _ _ _ _ _ _ _ _ _ _ h => h.elim
  | shr => exact fun _ _ _ _ _ _ _ _ _ _ _ _ h => h.elim
theorem aug_ok {o : BO} {i j k : Int} {H : Hp} {Q : VK} (e : augD o i j = some k) (q : Q (.int k) H) : rOfA o (.int i) (.int j) H Q := by
  cases o <;> simp only [augD] at e
  · cases e; exact ⟨i, j, rfl, rfl, q⟩
  · cases e; exact ⟨i, j, rfl, rfl, q⟩
  · split at e
    · rename_i h; cases e; exact ⟨i, j, rfl, rfl, h, q⟩
    · cases e
  · split at e
    · rename_i h; cases e; exact ⟨i, j, rfl, rfl, h, q⟩
    · cases e
  · split at e
    · rename_i h; cases e; exact ⟨i, j, rfl, rfl, h, q⟩
    · cases e
  · cases e
  · cases e
  · cases e
theorem sds_augN {te : TE} {f : Env → Rs Rv} {i : Nat} (h : ED K C W te f) (o : BO) : SDs K C W lk (tAug i te (rOfA o)) fun ρ => match ρ[i]? with
    | some (some (false, .int x)) => (f ρ).out fun y ρ1 => match y with
      | .val (.int j) => match augD o x j with
        | some k => optN (stoV lk i (.val (.int k)) ρ1)
        | none => .no
      | _ => .no
    | _ => .no := by
  intro B σ H ρ D s hg
  dsimp only at hg
  split at hg
  · rename_i x e
    obtain ⟨v0, q, rp⟩ := s.plain i _ e
    cases rp
    refine ⟨_, q, ?_⟩
    refine h.bindO s hg fun r ρ1 v H1 k o1 x1 fr r' g => ?_
    split at g
    · rename_i j
      split at g
      · rename_i kk ek
        obtain ⟨ρ', e, g⟩ := g.optN
        have hv : v = .int j := (r'.op.rv r'.sr rfl).int
        rw [hv]
        refine aug_ok ek (g _ _ (sto_ok (r := .val (.int kk)) k o1 trivial ⟨r'.sr, .int kk⟩ e))
      · exact g.elim
    · exact g.elim
  · exact hg.elim
/-- xs[ix] op= e, ints in an own list -/
theorem sds_augI {te ti : TE} {f fi : Env → Rs Rv} {i : Nat} (hi : ED K C W ti fi) (h : ED K C W te f) (o : BO) : SDs K C W lk (tAugS (tVar i) ti te (rIxL K) (rOfA o) rSetL) fun ρ => if oLst ρ i = true then (fi ρ).out fun y ρ1 => match y with
    | .val (.int j) => match augG ρ1 i j with
      | some x => (f ρ1).out fun z ρ2 => match z with
        | .val (.int w) => match augD o x w with
          | some k => optN (chgL i (fun ds => setD ds (.int j) (.int k)) ρ2)
          | none => .no
        | _ => .no
      | none => .no
    | _ => .no else .no := by
  intro B σ H ρ D s hg
  dsimp only at hg
  split at hg
  · rename_i hl
    obtain ⟨a, xs, e2, e3⟩ := oLst_ok s hl
    refine ⟨_, e2, ?_⟩
    refine hi.bindO s hg fun r ρ1 v H1 k o1 x1 fr r' g => ?_
    split at g
    · rename_i j
      have hv : v = .int j := (r'.op.rv r'.sr rfl).int
      subst hv
      split at g
      · rename_i x ex
        unfold augG at ex
        split at ex
        · rename_i ds e1
          split at ex
          · rename_i x' eb
            simp only [Option.some.injEq] at ex
            subst ex
            obtain ⟨n, hn, hx⟩ := Option.bind_eq_some_iff.mp eb
            obtain ⟨a', q1, nb, ro⟩ := r'.sr.own i _ e1
            rw [e2] at q1
            cases q1
            obtain ⟨ys, eH, rr⟩ := ro.list
            obtain ⟨w, hw, rw'⟩ := rr.get hx
            cases rw'
            refine ⟨a, ys, j, .int x', rfl, rfl, SqL.of eH, ?_, ?_⟩
            · unfold atI
              rw [rr.length]
              unfold ixD at hn
              rw [hn]
              exact hw
            · refine h.bindO r'.sr (g.step (Tr.ofE k o1 r'.sr)) fun r3 ρ3 v3 H3 k3 o3 x3 fr3 r3' g => ?_
              split at g
              · rename_i w'
                have hv : v3 = .int w' := (r3'.op.rv r3'.sr rfl).int
                subst hv
                split at g
                · rename_i kk ek
                  obtain ⟨ρ', e, gz⟩ := GoodO.optN g
                  refine aug_ok ek ?_
                  obtain ⟨a', zs, dz, ds', p1, p2, p3, p4, p5, p6⟩ := chgL_ok (lk := lk) r3'.sr e
                  rw [e2] at p1
                  cases p1
                  simp only [setD] at p4
                  obtain ⟨n', hn', e5⟩ := Option.map_eq_some_iff.mp p4
                  subst e5
                  exact ⟨a, zs, j, n', rfl, rfl, p2, by rw [p3.length]; exact hn', gz _ _ ((Tr.ofE k3 o3 r3'.sr).trans (p6 _ (Rps.set (.int kk) n' p3)))⟩
                · exact g.elim
              · exact g.elim
          · cases ex
        · cases ex
      · exact g.elim
    · exact g.elim
  · exact hg.elim
/-! ### blocks that branch -/
theorem sds_if {c : TT} {t u : TS} {fc : Env → Rs Bool} {f g : Env → Out} (hc : TD K C W c fc) (h1 : SDs K C W lk t f) (h2 : SDs K C W lk u g) : SDs K C W lk (tIfS c t u) fun ρ => (fc ρ).out fun x ρ1 => if x = true then f ρ1 else g ρ1 := by
  intro B σ H ρ D s hg
  refine hc.bindO s hg fun b ρ1 H1 t1 gg => ?_
  have gg := gg.step t1
  cases b with
  | true =>
    rw [if_pos rfl] at gg ⊢
    exact h1 B σ H1 ρ1 D t1.sr gg
  | false =>
    rw [if_neg (by simp)] at gg ⊢
    exact h2 B σ H1 ρ1 D t1.sr gg
/-! ### return -/
theorem SR.release {i : Nat} (s : SR K B σ H ρ) (e : ρ[i]? = some (some (true, d))) (ea : σ[i]? = some (some (V.ref a))) : SR K (Bl B a) σ H (ρ.set i none) ∧ ORp K (Free (Bl B a) σ (ρ.set i none)) H a d ∧ ¬ B a ∧ OSub σ (ρ.set i none) ρ := by
  have hi : i < ρ.length := (List.getElem?_eq_some_iff.mp e).1
  obtain ⟨b, q, nb, r⟩ := s.own i d e
  rw [ea] at q; cases q
  have at_ : ∀ {j : Nat} {z : Bool × PyData}, (ρ.set i none)[j]? = some (some z) → i ≠ j ∧ ρ[j]? = some (some z) := fun {j z} q => by
    by_cases h : i = j
    · subst h; rw [List.getElem?_set_self hi] at q; cases q
    · rw [List.getElem?_set_ne h] at q; exact ⟨h, q⟩
  have os : OSub σ (ρ.set i none) ρ := fun x ⟨j, c, e1, e2⟩ => ⟨j, c, (at_ e1).2, e2⟩
  have fr : ∀ x, Free B σ ρ x → Free (Bl B a) σ (ρ.set i none) x := fun x f => ⟨fun z => z.elim f.1 fun z => f.2 (z ▸ ⟨i, d, e, ea⟩), fun z => f.2 (os x z)⟩
  refine ⟨⟨by rw [List.length_set]; exact s.len, fun x b => ?_, fun j z e1 => ?_, fun j z e1 => ?_, fun j k x z z' e1 e2 e3 e4 => s.inj j k x _ _ (at_ e1).2 (at_ e2).2 e3 e4⟩, r.mono fr, nb, os⟩
  · rcases b with b | b
    · exact s.bt x b
    · subst b; obtain ⟨o, q, _⟩ := r.there; exact ⟨o, q⟩
  · obtain ⟨w, q, r⟩ := s.plain j z (at_ e1).2; exact ⟨w, q, r.mono fr⟩
  · obtain ⟨b', q, nb', r'⟩ := s.own j z (at_ e1).2
    exact ⟨b', q, fun h => h.elim nb' fun h => (at_ e1).1 (s.inj i j a _ _ e (at_ e1).2 ea (h ▸ q)), r'.mono fr⟩
theorem sds_ret {te : TE} {f : Env → Rs Rv} (h : ED K C W te f) : SDs K C W lk (tRet te) fun ρ => (f ρ).out fun x ρ1 => match x with
    | .sl i => if i ∈ lk then .no else match ρ1[i]? with
      | some (some (true, d)) => .ret (.own d) (ρ1.set i none)
      | _ => .no
    | r => .ret r ρ1 := by
  intro B σ H ρ D s hg
  refine h.bindO s hg fun r ρ1 v H1 k o x fr r' g => ?_
  cases r with
  | val d => exact g v σ H1 (Tr.ofE k o r'.1) r'.2
  | own d =>
    obtain ⟨a, rfl, nb, s1, r1⟩ := r'
    exact g a σ H1 (Tr.ofE k o s1) (.inr (fr a rfl)) nb r1
  | sl i =>
    dsimp only at g
    split at g
    · exact g.elim
    · split at g
      · rename_i d e
        obtain ⟨s1, ev, _⟩ := r'
        obtain ⟨a, q, nb, ob⟩ := s1.own i _ e
        rw [ev] at q
        cases q
        obtain ⟨s2, r2, nb, os⟩ := s1.release e ev
        exact g a σ H1 ⟨s2, k, fun x h => .inl (o x (os x h)), rfl, fun _ _ => rfl⟩ (.inl (o a ⟨i, _, e, ev⟩)) nb r2
      · exact g.elim
/-! ### loops -/
/-- what the body of a loop comes to -/
def loopO (next : Env → Out) (o : Out) : Out := match o with
  | .nx ρ => next ρ
  | .cnt ρ => next ρ
  | .brk ρ => .nx ρ
  | o => o
theorem loop_ok {o : Out} {next : Env → Out} {D : Ends} (g : GoodO K C W lk B σ H ρ (loopO next o) D) {N : L2.St → Hp → Prop} (hN : ∀ ρ' σ' H', Tr K B lk σ H ρ σ' H' ρ' → GoodO K C W lk B σ' H' ρ' (next ρ') D → N σ' H') : GoodO K C W lk B σ H ρ o { D with nx := N, ct := N, bk := D.nx } := by
  cases o with
  | nx ρ' => exact fun σ' H' t => hN ρ' σ' H' t (GoodO.step t g)
  | cnt ρ' => exact fun σ' H' t => hN ρ' σ' H' t (GoodO.step t g)
  | brk ρ' => exact g
  | no => exact g
  | exc c d ρ' => exact g
  | ret r ρ' => cases r <;> exact g
omit [WW] in
theorem whileF_succ (c : Env → Rs Bool) (b : Env → Out) (n : Nat) (ρ : Env) : whileF c b (n + 1) ρ = (c ρ).out fun x ρ1 => if x = true then loopO (whileF c b n) (b ρ1) else .nx ρ1 := by
  simp only [whileF]
  cases c ρ with
  | no => rfl
  | exc x d ρ1 => rfl
  | ok x ρ1 =>
    cases x with
    | false => rfl
    | true =>
      simp only [Rs.out_ok, if_true]
      cases b ρ1 <;> rfl
theorem sds_while {tc : TT} {tb : TS} {c : Env → Rs Bool} {b : Env → Out} (hc : TD K C W tc c) (hb : SDs K C W lk tb b) : SDs K C W lk (tWhile tc tb) fun ρ => whileE c b ρ := by
  intro B σ H ρ D s hg
  have hn : ∃ n, GoodO K C W lk B σ H ρ (whileF c b n ρ) D := by
    unfold whileE at hg
    dsimp only at hg
    split at hg
    · exact ⟨_, hg⟩
    · exact hg.elim
  refine ⟨fun m σ1 H1 => ∃ ρ1, SR K B σ1 H1 ρ1 ∧ GoodO K C W lk B σ1 H1 ρ1 (whileF c b m ρ1) D, ?_, ?_⟩
  · obtain ⟨n, g⟩ := hn; exact ⟨n, ρ, s, g⟩
  · rintro m σ1 H1 ⟨ρ1, s1, g⟩
    cases m with
    | zero => exact g.elim
    | succ m =>
      rw [whileF_succ] at g
      refine hc.bindO s1 g fun x ρ2 H2 t2 g => ?_
      cases x with
      | false =>
        rw [if_neg (by simp)] at g ⊢
        exact g _ _ t2
      | true =>
        rw [if_pos rfl] at g ⊢
        refine ⟨fun σ' H' => ∃ ρ', SR K B σ' H' ρ' ∧ GoodO K C W lk B σ' H' ρ' (whileF c b m ρ') D, fun σ' H' q => ⟨m, Nat.lt_succ_self _, q⟩, ?_⟩
        exact hb B σ1 H2 ρ2 _ t2.sr (loop_ok (g.step t2) fun ρ' σ' H' t g => ⟨ρ', t.sr, g⟩)
theorem forL_cons (t : Tg) (b : Env → Out) (d : PyData) (ds : List PyData) (ρ : Env) : forL lk t b (d :: ds) ρ = match asgT lk t d ρ with
    | none => .no
    | some ρ1 => loopO (forL lk t b ds) (b ρ1) := by
  simp only [forL]
  cases asgT lk t d ρ with
  | none => rfl
  | some ρ1 =>
    dsimp only
    cases b ρ1 <;> rfl
theorem sds_for {wi : TI} {g : TG} {tb : TS} {t : Tg} {fs : Env → Rs (List PyData)} {b : Env → Out} (hs : SD K C W wi fs) (hg : GD K lk g t) (hb : SDs K C W lk tb b) : SDs K C W lk (tFor wi g tb) fun ρ => (fs ρ).out fun ds ρ1 => forL lk t b ds ρ1 := by
  intro B σ H ρ D s hgo
  refine hs.bindO s hgo fun ds ρ1 J H1 t1 src gg => ?_
  have gg := gg.step t1
  obtain ⟨G, Y, wk, hG, hY⟩ := src.ex
  have lt : ∀ {σc : L2.St} {Hc : Hp} {ρc : Env}, Tr K B lk σ H1 ρ1 σc Hc ρc → Lt (Free B σ ρ1) H1 (Free B σc ρc) Hc := fun {σc Hc ρc} tr =>
    ⟨OwnAt σ ρ1, tr.kp, fun a f ⟨u, q⟩ => ⟨⟨f.1, fun z => (tr.ow a z).elim f.2 fun n => by rw [q] at n; cases n⟩, f.2⟩⟩
  let Pv : Nat → L2.St → Hp → Prop := fun i σc Hc => ∃ ρc, Tr K B lk σ H1 ρ1 σc Hc ρc ∧ GoodO K C W lk B σc Hc ρc (forL lk t b (ds.drop i) ρc) D
  refine for_it wk Pv ?_ ?_ ?_ ?_
  · exact ⟨ρ1, Tr.refl t1.sr, gg⟩
  · intro i σc Hc _ ⟨ρc, tr, _⟩
    exact hG _ _ (lt tr)
  · intro i x σc Hc H2 hi ⟨ρc, tr, gc⟩ y
    obtain ⟨grow, d, hd, rd⟩ := hY _ _ i x H2 hi (lt tr) y
    have ed : ds.drop i = d :: ds.drop (i + 1) := by
      obtain ⟨h1, h2⟩ := List.getElem?_eq_some_iff.mp hd
      rw [← h2, List.drop_eq_getElem_cons h1]
    rw [ed, forL_cons] at gc
    have t2 : Tr K B lk σc Hc ρc σc H2 ρc := ⟨tr.sr.grow grow fun a b => .inl b, Keep.ex grow, fun a h => .inl h, rfl, fun _ _ => rfl⟩
    cases ea : asgT lk t d ρc with
    | none => rw [ea] at gc; exact gc.elim
    | some ρa =>
      rw [ea] at gc
      refine hg B σc H2 ρc ρa x d _ t2.sr rd ea fun σa sa oa ma na => ?_
      have t3 : Tr K B lk σc Hc ρc σa H2 ρa := t2.trans ⟨sa, Keep.refl _ _, fun a z => .inl (oa a z), ma.ls, fun j hj => ma.s j fun z => na j z hj⟩
      exact hb B σa H2 ρa _ sa (loop_ok (GoodO.step t3 gc) fun ρ' σ' H' t4 g4 => ⟨ρ', (tr.trans t3).trans t4, g4⟩)
  · intro σc Hc ⟨ρc, tr, gc⟩
    rw [List.drop_length] at gc
    exact gc _ _ (Tr.refl tr.sr)
end
end PD
set_option maxRecDepth 100000
set_option autoImplicit false
/-! PD15: several names set at once. -/
namespace PD
variable [WW]
open PySem PySem.Spec PyProof.Rows L2
section
variable {K : PySem.W.Frag} {C : Nat → Addr} {W : WX} {B Bs : Addr → Prop} {lk : List Nat} {σ : L2.St} {H : Hp} {ρ ρ1 ρ' : Env}
def setAll (σ : L2.St) : List Nat → List V → L2.St
  | i :: is, v :: vs => setAll (σ.set i (some v)) is vs
  | _, _ => σ
theorem stoVs_nosl : ∀ {is : List Nat} {rs : List Rv} {ρ ρ' : Env}, stoVs lk is rs ρ = some ρ' → ∀ (k i : Nat), rs[k]? ≠ some (.sl i)
  | [], [], _, _, _, k, i => by simp
  | [], _ :: _, _, _, h, _, _ => by simp [stoVs] at h
  | _ :: _, [], _, _, h, _, _ => by simp [stoVs] at h
  | i :: is, r :: rs, ρ, ρ', h, k, j => by
    cases r with
    | sl _ => simp [stoVs] at h
    | val d =>
      simp only [stoVs] at h
      split at h
      · cases k with
        | zero => simp
        | succ k => simpa using stoVs_nosl h k j
      · cases h
    | own d =>
      simp only [stoVs] at h
      split at h
      · cases k with
        | zero => simp
        | succ k => simpa using stoVs_nosl h k j
      · cases h
theorem stos_ok : ∀ {is : List Nat} {rs : List Rv} {vs : List V} {Bs : Addr → Prop} {σ : L2.St} {ρ : Env}, ResL K B Bs σ H ρ vs rs → stoVs lk is rs ρ = some ρ' →
    SR K B (setAll σ is vs) H ρ' ∧ (∀ a, OwnAt (setAll σ is vs) ρ' a → OwnAt σ ρ a ∨ ∃ (k : Nat) (d : PyData), rs[k]? = some (.own d) ∧ vs[k]? = some (V.ref a)) ∧ (setAll σ is vs).length = σ.length ∧ (∀ i ∈ lk, (setAll σ is vs)[i]? = σ[i]?) ∧ is.length = rs.length
  | [], [], vs, Bs, σ, ρ, L, h => by
    simp only [stoVs, Option.some.injEq] at h
    subst h
    exact ⟨L.base, fun a z => .inl z, rfl, fun _ _ => rfl, rfl⟩
  | [], _ :: _, _, _, _, _, _, h => by simp [stoVs] at h
  | _ :: _, [], _, _, _, _, _, h => by simp [stoVs] at h
  | i :: is, r :: rs, vs, Bs, σ, ρ, L, h => by
    cases vs with
    | nil => have := L.len; simp at this
    | cons v vs =>
      have nsl := stoVs_nosl h
      cases r with
      | sl _ => simp [stoVs] at h
      | val d =>
        simp only [stoVs] at h
        split at h
        · rename_i ρ2 e2
          unfold stoV at e2
          split at e2
          · cases e2
          · rename_i hi
            simp only [Option.some.injEq] at e2
            subst e2
            have hi1 : i ∉ lk := fun z => hi (.inl z)
            have hi2 : i < ρ.length := Classical.not_not.mp fun z => hi (.inr z)
            obtain ⟨s2, os⟩ := L.sr.put hi2 (L.val 0 d v rfl rfl)
            have fr : ∀ a, Free Bs σ ρ a → Free Bs (σ.set i (some v)) (ρ.set i (some (false, d))) a := fun a f => ⟨f.1, fun z => f.2 (os a z)⟩
            have L2 : ResL K B Bs (σ.set i (some v)) H (ρ.set i (some (false, d))) vs rs := by
              refine ⟨by have := L.len; simpa using this, s2, L.sub, fun a b => ?_, fun k c w e1 e2 => (L.val (k + 1) c w (by simpa using e1) (by simpa using e2)).mono fr, fun k c w e1 e2 => ?_, fun k j w e1 e2 => absurd (by simpa using e1) (nsl (k + 1) j), fun j k c c' a e1 e2 e3 e4 => ?_⟩
              · rcases L.only a b with z | ⟨k, c, e1, e2⟩
                · exact .inl z
                · cases k with
                  | zero => simp at e1
                  | succ k => exact .inr ⟨k, c, by simpa using e1, by simpa using e2⟩
              · obtain ⟨a, h1, h2, h3, h4⟩ := L.own (k + 1) c w (by simpa using e1) (by simpa using e2)
                exact ⟨a, h1, h2, h3, h4.mono fr⟩
              · have := L.apart (j + 1) (k + 1) c c' a (by simpa using e1) (by simpa using e2) (by simpa using e3) (by simpa using e4)
                omega
            obtain ⟨i1, i2, i3, i4, i5⟩ := stos_ok L2 h
            refine ⟨i1, fun a z => ?_, i3.trans List.length_set, fun j hj => (i4 j hj).trans (List.getElem?_set_ne fun e => hi1 (by rw [e]; exact hj)), by simp [i5]⟩
            rcases i2 a z with z | ⟨k, c, e1, e2⟩
            · exact .inl (os a z)
            · exact .inr ⟨k + 1, c, by simpa using e1, by simpa using e2⟩
        · cases h
      | own d =>
        simp only [stoVs] at h
        split at h
        · rename_i ρ2 e2
          unfold stoV at e2
          split at e2
          · cases e2
          · rename_i hi
            simp only [Option.some.injEq] at e2
            subst e2
            have hi1 : i ∉ lk := fun z => hi (.inl z)
            have hi2 : i < ρ.length := Classical.not_not.mp fun z => hi (.inr z)
            obtain ⟨a, rfl, nb, ba, ro⟩ := L.own 0 d v rfl rfl
            have w1 : ∀ x, Bl (fun x => Bs x ∧ x ≠ a) a x → Bs x := fun x z => z.elim (·.1) fun z => z ▸ ba
            obtain ⟨s2, os⟩ := SR.putOwn (B := fun x => Bs x ∧ x ≠ a) (L.sr.weak w1) (fun z => z.2 rfl) hi2 (ro.mono fun x f => f.weak w1)
            have fr : ∀ x, Free Bs σ ρ x → Free (fun x => Bs x ∧ x ≠ a) (σ.set i (some (.ref a))) (ρ.set i (some (true, d))) x := fun x f => ⟨fun z => f.1 z.1, fun z => (os x z).elim f.2 fun z => f.1 (z ▸ ba)⟩
            have L2 : ResL K B (fun x => Bs x ∧ x ≠ a) (σ.set i (some (.ref a))) H (ρ.set i (some (true, d))) vs rs := by
              refine ⟨by have := L.len; simpa using this, s2, fun x b => ⟨L.sub x b, fun z => nb (z ▸ b)⟩, fun x b => ?_, fun k c w e1 e2 => (L.val (k + 1) c w (by simpa using e1) (by simpa using e2)).mono fr, fun k c w e1 e2 => ?_, fun k j w e1 e2 => absurd (by simpa using e1) (nsl (k + 1) j), fun j k c c' a e1 e2 e3 e4 => ?_⟩
              · rcases L.only x b.1 with z | ⟨k, c, e1, e2⟩
                · exact .inl z
                · cases k with
                  | zero =>
                    simp at e2
                    exact absurd e2.symm b.2
                  | succ k => exact .inr ⟨k, c, by simpa using e1, by simpa using e2⟩
              · obtain ⟨b, h1, h2, h3, h4⟩ := L.own (k + 1) c w (by simpa using e1) (by simpa using e2)
                refine ⟨b, h1, h2, ⟨h3, fun z => ?_⟩, h4.mono fr⟩
                subst z
                subst h1
                have := L.apart 0 (k + 1) d c b rfl (by simpa using e1) rfl (by simpa using e2)
                omega
              · have := L.apart (j + 1) (k + 1) c c' a (by simpa using e1) (by simpa using e2) (by simpa using e3) (by simpa using e4)
                omega
            obtain ⟨i1, i2, i3, i4, i5⟩ := stos_ok L2 h
            refine ⟨i1, fun x z => ?_, i3.trans List.length_set, fun j hj => (i4 j hj).trans (List.getElem?_set_ne fun e => hi1 (by rw [e]; exact hj)), by simp [i5]⟩
            rcases i2 x z with z | ⟨k, c, e1, e2⟩
            · rcases os x z with z | z
              · exact .inl z
              · exact .inr ⟨0, d, rfl, by rw [z]; rfl⟩
            · exact .inr ⟨k + 1, c, by simpa using e1, by simpa using e2⟩
        · cases h
theorem par_tr {is : List Nat} {rs : List Rv} {vs : List V} {H1 : Hp} (k : Keep (OwnAt σ ρ) H H1) (o : OSub σ ρ1 ρ) (fr : ∀ (k : Nat) d a, rs[k]? = some (.own d) → vs[k]? = some (V.ref a) → H a = none) (L : ResL K B Bs σ H1 ρ1 vs rs) (e : stoVs lk is rs ρ1 = some ρ') :
    Tr K B lk σ H ρ (setAll σ is vs) H1 ρ' ∧ is.length = vs.length := by
  obtain ⟨i1, i2, i3, i4, i5⟩ := stos_ok L e
  exact ⟨⟨i1, k, fun a z => (i2 a z).elim (fun z => .inl (o a z)) fun ⟨j, d, e1, e2⟩ => .inr (fr j d a e1 e2), i3, i4⟩, i5.trans L.len.symm⟩
theorem sds_par2 {ta : TA} {fs : Env → Rs (List Rv)} {i j : Nat} (h : AD K C W ta fs) : SDs K C W lk (tPar i j ta) fun ρ => (fs ρ).out fun xs ρ1 => optN (stoVs lk [i, j] xs ρ1) := by
  intro B σ H ρ D s hg
  refine h.bindO s hg fun rs ρ1 vs H1 Bs k o x fr L g => ?_
  obtain ⟨ρ', e, g⟩ := g.optN
  obtain ⟨t, l⟩ := par_tr k o fr L e
  match vs, l with
  | [v, w], _ => exact ⟨v, w, rfl, g _ _ t⟩
theorem sds_par3 {ta : TA} {fs : Env → Rs (List Rv)} {i j l : Nat} (h : AD K C W ta fs) : SDs K C W lk (tPar3 i j l ta) fun ρ => (fs ρ).out fun xs ρ1 => optN (stoVs lk [i, j, l] xs ρ1) := by
  intro B σ H ρ D s hg
  refine h.bindO s hg fun rs ρ1 vs H1 Bs k o x fr L g => ?_
  obtain ⟨ρ', e, g⟩ := g.optN
  obtain ⟨t, l⟩ := par_tr k o fr L e
  match vs, l with
  | [v, w, u], _ => exact ⟨v, w, u, rfl, g _ _ t⟩
/-! by way of a tuple -/
def gNames : List Nat → TGs
  | [] => gNil
  | j :: js => gCons (gName j) (gNames js)
theorem gNames_ok {Q : L2.St → Hp → Prop} : ∀ {js : List Nat} {vs : List V} {σ : L2.St}, js.length = vs.length → Q (setAll σ js vs) H → gNames js vs σ H Q
  | [], [], σ, _, q => ⟨rfl, q⟩
  | [], _ :: _, _, h, _ => by simp at h
  | _ :: _, [], _, h, _ => by simp at h
  | j :: js, v :: vs, σ, h, q => ⟨v, vs, rfl, gNames_ok (js := js) (by simpa using h) q⟩
theorem sds_parT {ta : TA} {fs : Env → Rs (List Rv)} {js : List Nat} (hl : js.length ≤ 1000) (h : AD K C W ta fs) : SDs K C W lk (tAsg (tTup ta) (gTup K js.length (gNames js))) fun ρ => (fs ρ).out fun xs ρ1 => optN (stoVs lk js xs ρ1) := by
  intro B σ H ρ D s hg
  refine h.bindO s hg fun rs ρ1 vs H1 Bs k o x fr L g => ?_
  obtain ⟨ρ', e, g⟩ := g.optN
  obtain ⟨t, l⟩ := par_tr k o fr L e
  refine ⟨by rw [← l]; exact Nat.le_trans hl (by decide), fun p hp => ?_⟩
  refine ⟨p, vs, rfl, .inl (.inl upd_same), l.symm, gNames_ok l ?_⟩
  exact g _ _ ⟨t.sr.new hp, t.kp.trans (Keep.new hp) fun x u => t.ow x u, t.ow, t.ln, t.lk⟩
end
end PD
set_option maxRecDepth 100000
set_option autoImplicit false
set_option maxHeartbeats 0
/-! PDR: exceptions of own classes: __init__, raise, try with clauses that have names. -/
namespace PD
variable [WW]
open PySem PySem.Spec PyProof.Rows L2
/-! ### __init__ -/
def initB (st : Stmt) : Bool := match defBody st with
  | [.Expr (.Call (.Attribute (.Name x1 _) m1 q1) [.Name x2 _, .Name x3 _] [] q2) _, .Assign [.Attribute (.Name x4 _) f4 _] (.Name x5 _) _] =>
    decide (x1 = ("ValueError" : Str)) && decide (m1 = ("__init__" : Str)) && decide (x2 = ("self" : Str)) && decide (x3 = ("value" : Str)) && decide (x4 = ("self" : Str)) && decide (f4 = ("value" : Str)) && decide (x5 = ("value" : Str)) && (q1.endLine == q2.line)
  | _ => false
theorem mc_eq {env : PySem.Env} {o x y m : Str} {p1 p2 p3 p4 p5 : Pos} (hp : (p2.endLine == p5.line) = true) : eval (.Call (.Attribute (.Name o p1) m p2) [.Name x p3, .Name y p4] [] p5) env = (do
      let ov ← eval (.Name o p1) env
      standAt p2.atName
      let (f, first) ← holding [ov] (getMethod ov m (do return (← importBound (.Name o p1) env).getD true))
      callWith p5 f first (backTo p5 (starEach [.Name x p3, .Name y p4] env)) (backToKw p5 (keywordEach [] env))) := by
  have e : ∀ ov n, methodCall (.Name o p1) m p2 p5 env ov n (backTo p5 (starEach [.Name x p3, .Name y p4] env)) (backToKw p5 (keywordEach [] env)) = (do
      let (f, first) ← holding [ov] (calleeOf (methodCallForm n (backTo p5 (starEach [.Name x p3, .Name y p4] env)) (backToKw p5 (keywordEach [] env))) (.Name o p1) env ov m)
      callWith p5 f first (backTo p5 (starEach [.Name x p3, .Name y p4] env)) (backToKw p5 (keywordEach [] env))) := fun ov n => by
    unfold methodCall methodCallPos
    rw [hp, Bool.or_true, if_pos rfl]
    rfl
  show (do
      let ov ← eval (.Name o p1) env
      standAt p2.atName
      methodCall (.Name o p1) m p2 p5 env ov 2 (backTo p5 (starEach [.Name x p3, .Name y p4] env)) (backToKw p5 (keywordEach [] env))) = _
  simp only [e]
  rfl
section
variable {P : Program} {w : World} {K : PySem.W.Frag} {mg : Str → Option Value} {base : Heap}
theorem init_ok {nm qual : Str} {st : Stmt} {f : Addr} {fd : FuncData} (Fn : Fun K nm qual st f fd) (S : FnScope ["self", "value"] ["self", "value"] (defScope st)) (hb : initB st = true) (hm : mg "ValueError" = none)
    (vV : PySem.W.findCls K (.type "ValueError") (.type "type") "__init__" = some (.val (.builtin "ValueError.__init__")))
    (h1 : (defScope st).names.lookup ("ValueError" : Str) = some .globalImplicit) (h2 : (defScope st).names.lookup ("self" : Str) = some .local) (h3 : (defScope st).names.lookup ("value" : Str) = some .local) : FnOk P w K mg base (L2.CX P w) 1 f fd ["self", "value"] (spI K) := by
  refine Fn.okX S (fun vs H Q E h => ?_) (fun cdv A outer s H vs Q E hr h => ?_)
  · obtain ⟨a, v, C, rfl, _⟩ := h
    rfl
  · obtain ⟨a, v, C, rfl, T, nv, ea, q⟩ := h
    unfold initB at hb
    split at hb
    · rename_i x1 p1 m1 p2 x2 p3 x3 p4 p5 p6 x4 p7 f4 p8 x5 p9 p10 eb
      simp only [Bool.and_eq_true, decide_eq_true_eq] at hb
      obtain ⟨⟨⟨⟨⟨⟨⟨rfl, rfl⟩, rfl⟩, rfl⟩, rfl⟩, rfl⟩, rfl⟩, hp⟩ := hb
      rw [eb]
      let X := cxOf (L2.CX P w) P w K mg base ["self", "value"] qual (defScope st) f cdv A outer s H E
      have vs0 : ∀ {p}, PE X (.Name "self" p) (tVar 0) := pe_var rfl (.inl h2) (by decide) (by decide)
      have vv : ∀ {p}, PE X (.Name "value" p) (tVar 1) := pe_var rfl (.inl h3) (by decide) (by decide)
      have g : Gl X "ValueError" := h1
      refine ⟨_, pss_cons (ps_expr (pe_veinit g hm vV (pa_cons vs0 (pa_cons vv pa_nil)) (mc_eq hp))) (pss_cons (ps_ost vs0 vv) pss_nil), ?_⟩
      refine ⟨_, rfl, _, rfl, a, C, [v], rfl, by show 1 ≤ 1000; decide, T, ea, ?_⟩
      exact ⟨_, rfl, _, rfl, a, C, rfl, T, nv, .inl ⟨ea, q⟩⟩
    · cases hb
end
/-! ### raise -/
section
variable {K : PySem.W.Frag} {C : Nat → Addr} {W : WX} {B : Addr → Prop} {lk : List Nat} {σ σ1 : L2.St} {H H1 : Hp} {ρ ρ1 : Env} {F : Cfg} {n : Nat} {X : Cx} {I : Inf}
theorem Tr.newX (s : SR K B σ H ρ) {p : Addr} {o : HO} (h : H p = none) : Tr K B lk σ H ρ σ (upd H p o) ρ := ⟨s.new h, Keep.new h, fun _ z => .inl z, rfl, fun _ _ => rfl⟩
theorem upd_back {H : Hp} {a d : Addr} {o1 o2 o3 o4 : HO} (ha : H a = none) (hd : d ≠ a) : upd (del (upd (upd (upd H a o1) d o2) a o3) a) d o4 = upd H d o4 := by
  funext b
  by_cases h : b = d
  · subst h; rw [upd_same, upd_same]
  · rw [upd_ne h, upd_ne h]
    by_cases e : b = a
    · subst e; rw [del_same, ha]
    · rw [del_ne e, upd_ne e, upd_ne h, upd_ne e]
theorem raise_ok (O : XOk F C n X I W) {c : Nat} {x : Str} {y : Expr} {te : TE} {f : Env → Rs Rv} {p pos pos' : Pos} (hc : F.CL[c]? = some x) (hlo : F.lo ≤ c) (hg : glB I x = true) (hy : notStar y = true) (pe : PE X y te) (h : ED X.K C W te f) :
    ∃ t, PS X (.Raise (some (.Call (.Name x p) [y] [] pos)) none pos') t ∧ SDs X.K C W lk t fun ρ => (f ρ).out fun x ρ1 => (keepV lk x ρ1).out fun d ρ2 => .exc c d ρ2 := by
  obtain ⟨m, T, xf, nv, fI, fd, ps, iC, tI, hb, F1⟩ := O.g.cls x c hc hlo
  obtain ⟨g1, g2, g3⟩ := O.gl hg
  refine ⟨_, ps_raise O.calm O.tk (pmk_oex T iC tI F1 (O.room.mono (by omega)) hb .nil (fun pins σ H s e s' i q => passAt takes0 σ pins H s e s' i (q)) g1 m (pa_cons' pe pa_nil hy) g2 (star_cons hy) (star_any rfl)), ?_⟩
  intro B σ H ρ D s hgo
  refine h.bindO s hgo fun r ρ1 v H1 k o x fr r' g => ?_
  rcases keepV_cases lk r ρ1 with ⟨d, ρ2, ek⟩ | ek
  · rw [ek, Rs.out_ok] at g
    obtain ⟨s2, r2, o2, x2⟩ := keepV_ok r'.sr r'.op ek
    refine ⟨by show 1 ≤ 1000; decide, fun a ha => ⟨a, v, C c, rfl, T, nv, upd_same, fun e he hea => ⟨rfl, e, [(("value" : Str), v)], upd_same, ?_, ?_, ?_⟩⟩⟩
    · rw [upd_ne hea, upd_same]
    · rw [upd_ne hea] at he; exact he
    · have he' : H1 e = none := by rw [upd_ne hea] at he; exact he
      rw [upd_back ha hea]
      exact g e σ _ ((Tr.ofE k (o.trans o2) s2).trans (Tr.newX s2 he')) ⟨v, upd_same, r2.stay (Keep.new he') (OSub.refl _ _)⟩
  · rw [ek] at g; exact g.elim
end
/-! ### try -/
section
variable {K : PySem.W.Frag}
/-- what the clauses wish, each with the slot of its name -/
def wAll (K : PySem.W.Frag) (Wo : WX) (D : Ends) : List (Value × Option Nat × (Addr → Value → Option Addr → TS)) → WX
  | [] => Wo
  | (c, none, ts) :: r => fun cls d σ H => ∃ b, PySem.W.exmOne K cls c = some b ∧ (b = true → ∀ a, H a = none → ts a cls d D σ H) ∧ (b = false → wAll K Wo D r cls d σ H)
  | (c, some i, ts) :: r => fun cls d σ H => ∃ b, PySem.W.exmOne K cls c = some b ∧
      (b = true → ∀ a, H a = none → ts a cls d ⟨fun σ' H' => D.nx (σ'.set i none) H', D.rt, fun σ' H' => D.bk (σ'.set i none) H', fun σ' H' => D.ct (σ'.set i none) H'⟩ (σ.set i (some (.ref a))) H) ∧ (b = false → wAll K Wo D r cls d σ H)
inductive HdsAll (X : Cx) : List ExceptHandler → List (Value × Option Nat × (Addr → Value → Option Addr → TS)) → Prop
  | nil : HdsAll X [] []
  | one {x : Str} {c : Value} {ts : Addr → Value → Option Addr → TS} {b₀ : Stmt} {bs : List Stmt} {np p' : Pos} {hds l} (hc : Names X x c)
      (hsu : ∀ (a : Addr) (oe : Obj) (cls : Value) (d : Option Addr) (pn : List (Addr × Obj)), Zc cls d oe → (∃ vs, oe.data = .fields vs) → PSs (X.suite a ((a, oe) :: pn)) (b₀ :: bs) (ts a cls d)) (r : HdsAll X hds l) :
      HdsAll X (.ExceptHandler (some (.Name x np)) none (b₀ :: bs) p' :: hds) ((c, none, ts) :: l)
  | as {x m : Str} {c : Value} {i : Nat} {ts : Addr → Value → Option Addr → TS} {b₀ : Stmt} {bs : List Stmt} {np p' : Pos} {hds l} (hc : Names X x c) (hi : X.N[i]? = some m) (hl : X.env.kindOf m = some .local)
      (hsu : ∀ (a : Addr) (oe : Obj) (cls : Value) (d : Option Addr) (pn : List (Addr × Obj)), Zc cls d oe → (∃ vs, oe.data = .fields vs) → PSs (X.suite a ((a, oe) :: pn)) (b₀ :: bs) (ts a cls d)) (r : HdsAll X hds l) :
      HdsAll X (.ExceptHandler (some (.Name x np)) (some m) (b₀ :: bs) p' :: hds) ((c, some i, ts) :: l)
theorem names_run {X : Cx} {x : Str} {c : Value} {np : Pos} {a : Addr} {pn : List (Addr × Obj)} {pins : List (Addr × Obj)} {σ : L2.St} {H : Hp} {s : Shared} (hc : Names X x c) (S : Inv (X.suite a pn) pins σ H s) {Q : Value → Shared → Prop} {E : Value → Shared → Prop} (q : Q c s) :
    wpAny (model X.prog X.w) (X.A.mark (some (.ref a))) (eval (.Name x np) X.env) Q E s := by
  obtain ⟨hg, hd, hm | ⟨hm, hv, hn⟩⟩ := hc
  · exact ld_glob (X := X.suite a pn) S hg hm q hd
  · exact ld_blt (X := X.suite a pn) S hg hm hv q hn hd
theorem ps_try_all {X : Cx} {body : List Stmt} {h0 : ExceptHandler} {hds : List ExceptHandler} {l : List (Value × Option Nat × (Addr → Value → Option Addr → TS))} {pos : Pos} {tb : WX → TS} {Wo : WX} (hs : X.stack = X.env :: X.outer) (hf : X.env.frame = some X.env.locals) (hN : X.N.Nodup) (tk : Takes X Wo)
    (hb : ∀ (W : WX) (pn : List (Addr × Obj)) (xe : Value → Shared → Prop), Takes (X.tr pn xe) W → PassesOwn (model X.prog X.w) X.A X.env xe → PSs (X.tr pn xe) body (tb W)) (hh : HdsAll X (h0 :: hds) l) :
    PS X (.Try body (h0 :: hds) [] [] pos) fun D σ H => tb (wAll X.K Wo D l) D σ H := by
  refine ⟨fun pins s σ H D I hyp => ?_⟩
  have ok := I.ok
  have frm : X.A.frames = some (X.env :: X.outer) := by rw [ok.frames, hs]
  refine wpAny_Try_except (wpAny_mono ((hb (wAll X.K Wo D l) (X.pn ++ pins) (fun e s1 => wpAny (model X.prog X.w) X.A (noteFrame e X.env) (fun _ s2 => wpAny (model X.prog X.w) X.A (setFlight e none) (fun _ s3 => wpAny (model X.prog X.w) X.A (handleBy e X.env (h0 :: hds)) (SP X pins D) X.xe s3) X.xe s2) X.xe s1)
    (fun u s' xx => ?_) PassesOwn.looking).run [] s σ H D (I.toTry _) hyp) (fun fl s1 fin => ?_) fun e s1 z => z)
  · obtain ⟨a, G, t0, pins0, σ0, H0, cls, d, rfl, J0, nb, up, sky, na, hos, bar, wish⟩ := xx
    have J : Inv X pins σ0 H0 t0 := J0.ofTry ok
    rw [hs] at sky
    show wpAny (model X.prog X.w) X.A (noteFrame (.ref a) X.env) _ _ _
    refine Sky.land Zc.steady frm hf sky fun g3 fl3 up3 => ?_
    have J3 : Inv X pins σ0 H0 { s' with heap := g3 } := J.landed nb fl3.1 (up.trans up3) hos bar
    obtain ⟨o3, vs3, get3, z3, dat3⟩ := fl3.there
    have nfr : a ∉ frs (X.env :: X.outer) := fun hm => by
      obtain ⟨_, o', e', no⟩ := fl3.2.2.1.mem hm
      rw [get3] at e'
      cases e'
      exact no _ dat3
    have nL : a ≠ X.env.locals := fun z => nfr (List.mem_filterMap.mpr ⟨X.env, List.mem_cons_self, hf.trans (congrArg some z.symm)⟩)
    have nF : a ∉ X.fs := fun hm => by
      obtain ⟨e, he, q⟩ := List.mem_filterMap.mp hm
      exact nfr (List.mem_filterMap.mpr ⟨e, .tail _ he, q⟩)
    have S3 := J3.suite get3 dat3 na nL nF
    have tyE : PySem.W.Looks (model X.prog X.w) g3 (typeOf (.ref a)) cls := fun A Q E s k q => wpAny_typeOf_ref (k _ _ get3) (z3.1 ▸ q)
    suffices go : ∀ {hs' l'}, HdsAll X hs' l' → wAll X.K Wo D l' cls d σ0 H0 → wpAny (model X.prog X.w) X.A (handleBy (.ref a) X.env hs') (SP X pins D) X.xe { s' with heap := g3 } from go hh wish
    intro hs' l' hk
    induction hk with
    | nil =>
      intro wi
      refine wpAny_handleBy_nil ?_
      obtain ⟨_, _, _, ob, vs, T, oT, ts', get, _, dat, first, hr⟩ := id fl3
      unfold PySem.passOn
      refine wpAny_bind (wpAny_field get dat first ?_)
      rw [if_neg (show ¬ ((Value.ref T == Value.none) = true) by simp)]
      have out : wpAny (model X.prog X.w) X.A (setFlight (.ref a) X.env.frame) (fun _ s4 => wpAny (model X.prog X.w) X.A (throw (.ref a) : Sem Flow) (SP X pins D) X.xe s4) X.xe { s' with heap := g3 } := by
        rw [hf]
        refine HandSPX.setFlight_upZ fl3 fun g4 held up4 => wpAny_throw (tk _ _ ⟨a, G, t0, pins, σ0, H0, cls, d, rfl, J, nb, (up.trans up3).trans up4, ?_, na, hos, bar, wi⟩)
        rw [hs]
        exact .inr (.inr held)
      first
        | exact wpAny_bind (wpAny_pure (wpAny_bind out))
        | exact wpAny_bind out
    | @one x c ts b₀ bs np p' hds2 l2 hc hsu r ih =>
      intro wi
      obtain ⟨b, e1, yes, no⟩ := wi
      refine wpAny_handleBy_cons (codeAny_handlers_test (names_run hc S3 ((PySem.W.exm_one (M := model X.prog X.w) J3.kIn tyE e1).here ?_))) (by intro q; cases q)
      cases b with
      | false => exact ih (no rfl)
      | true =>
        refine codeAny_handlers_suite (HandSPX.lands_againZ fl3 fun g4 fl4 up4 => ?_)
        have J4 : Inv X pins σ0 H0 { s' with heap := g4 } := J.landed nb fl4.1 ((up.trans up3).trans up4) hos bar
        obtain ⟨o4, vs4, get4, z4, dat4⟩ := fl4.there
        refine wpAny_mono ((hsu a o4 cls d (X.pn ++ pins) z4 ⟨_, dat4⟩).run [] _ _ H0 _ (J4.suite get4 dat4 na nL nF) (yes rfl a na)) (fun fl s6 e6 => ?_) fun _ _ z => z.elim
        cases fl with
        | next => obtain ⟨σ6, H6, S6, q⟩ := e6; exact ⟨_, _, S6.unsuite ok, q⟩
        | brk => obtain ⟨σ6, H6, S6, q⟩ := e6; exact ⟨_, _, S6.unsuite ok, q⟩
        | cont => obtain ⟨σ6, H6, S6, q⟩ := e6; exact ⟨_, _, S6.unsuite ok, q⟩
        | ret u => obtain ⟨v6, σ6, H6, S6, rv, q⟩ := e6; exact ⟨_, _, _, S6.unsuite ok, rv, q⟩
    | @as x m c i ts b₀ bs np p' hds2 l2 hc hi hl hsu r ih =>
      intro wi
      obtain ⟨b, e1, yes, no⟩ := wi
      refine wpAny_handleBy_cons (codeAny_handlers_test (names_run hc S3 ((PySem.W.exm_one (M := model X.prog X.w) J3.kIn tyE e1).here ?_))) (by intro q; cases q)
      cases b with
      | false => exact ih (no rfl)
      | true =>
        refine codeAny_handlers_suite_as (HandSPX.lands_againZ fl3 fun g4 fl4 up4 => ?_)
        have J4 : Inv X pins σ0 H0 { s' with heap := g4 } := J.landed nb fl4.1 ((up.trans up3).trans up4) hos bar
        obtain ⟨o4, vs4, get4, z4, dat4⟩ := fl4.there
        refine store_ok (X := X.suite a ((a, o4) :: (X.pn ++ pins))) (v := .ref a) (J4.suite get4 dat4 na nL nF) hN hi (.inl hl) rfl (fun s5 S5 => ?_) (.inr hl)
        refine wpAny_mono ((hsu a o4 cls d (X.pn ++ pins) z4 ⟨_, dat4⟩).run [] s5 _ H0 _ S5 (yes rfl a na)) (fun fl s6 e6 => ?_) fun _ _ z => z.elim
        have off : ∀ {τ : L2.St} {G6 : Hp} {Q : Shared → Prop}, Inv (X.suite a ((a, o4) :: (X.pn ++ pins))) [] τ G6 s6 → (∀ s7, Inv X pins (τ.set i none) G6 s7 → Q s7) → wpAny (model X.prog X.w) X.A (do bindName X.env m .none; unbindBehindTheSuite X.env m p') (fun _ s7 => Q s7) X.xe s6 :=
          fun S6 hq => gone_ok (S6.unsuite ok) hN hi hl hq
        cases fl with
        | next => obtain ⟨σ6, H6, S6, q⟩ := e6; exact off S6 fun s7 J7 => ⟨_, _, J7, q⟩
        | brk => obtain ⟨σ6, H6, S6, q⟩ := e6; exact off S6 fun s7 J7 => ⟨_, _, J7, q⟩
        | cont => obtain ⟨σ6, H6, S6, q⟩ := e6; exact off S6 fun s7 J7 => ⟨_, _, J7, q⟩
        | ret u => obtain ⟨v6, σ6, H6, S6, rv, q⟩ := e6; exact off S6 fun s7 J7 => ⟨_, _, _, J7, rv, q⟩
  · cases fl with
    | next => obtain ⟨σ', H', J', q⟩ := fin; exact wpAny_execs_nil ⟨σ', H', J'.ofTry ok, q⟩
    | brk => obtain ⟨σ', H', J', q⟩ := fin; exact ⟨σ', H', J'.ofTry ok, q⟩
    | cont => obtain ⟨σ', H', J', q⟩ := fin; exact ⟨σ', H', J'.ofTry ok, q⟩
    | ret u => obtain ⟨v, σ', H', J', rv, q⟩ := fin; exact ⟨v, σ', H', J'.ofTry ok, rv, q⟩
end
/-! ### the suites -/
def notComp : Expr → Bool
  | .ListComp .. => false
  | .SetComp .. => false
  | .DictComp .. => false
  | _ => true
theorem swW {e : Expr} {t : Option Expr} {l : Nat} {env : PySem.Env} (h : notComp e = true) : swapsWith e t l env = pure false := by
  cases e <;> first | rfl | (simp [notComp] at h)
def locB (I : Inf) (x : Str) : Bool := decide (I.names.lookup x = some .local)
section
variable {K : PySem.W.Frag} {C : Nat → Addr} {W : WX} {B : Addr → Prop} {lk : List Nat} {σ σ1 : L2.St} {H H1 : Hp} {ρ ρ1 : Env} {F : Cfg} {n : Nat} {X : Cx} {I : Inf}
/-- e.value, e in slot j -/
def tVal (K : PySem.W.Frag) (a : Addr) (cls : Value) (d : Option Addr) (j : Nat) : TE := fun σ H Q => ∃ C0, XfC K C0 ∧ PySem.W.findIn K (.ref C0) "value" = some none ∧ tXf a cls d C0 "value" (tVar j) σ H Q
def hvT (K : PySem.W.Frag) (a : Addr) (cls : Value) (d : Option Addr) (j : Nat) : HV → TE
  | .lit (.int i) => tC (.int i)
  | .lit (.str x) => tC (.str x)
  | .lit (.bool b) => tC (.bl b)
  | .lit .none => tC .non
  | .lit _ => fun _ _ _ => False
  | .val => tVal K a cls d j
def hvTs (K : PySem.W.Frag) (a : Addr) (cls : Value) (d : Option Addr) (j : Nat) : List HV → TA
  | [] => tNil
  | h :: hs => tCons (hvT K a cls d j h) (hvTs K a cls d j hs)
def haT (K : PySem.W.Frag) (a : Addr) (cls : Value) (d : Option Addr) (j : Nat) : HA → TE
  | .one h => hvT K a cls d j h
  | .tup hs => tTup (hvTs K a cls d j hs)
  | .lst hs => tLst (hvTs K a cls d j hs)
def chkHV (I : Inf) (j : Option Nat) : HV → Expr → Bool
  | .lit d, e => litB d e
  | .val, e => match e with
    | .Attribute (.Name x _) f _ => (match j with | some j => varB I j x | none => false) && decide (f = ("value" : Str))
    | _ => false
def chkHVs (I : Inf) (j : Option Nat) : List HV → List Expr → Bool
  | [], es => es.isEmpty
  | h :: hs, es => match es with
    | e :: es => notStar e && chkHV I j h e && chkHVs I j hs es
    | [] => false
def chkHA (I : Inf) (j : Option Nat) : HA → Expr → Bool
  | .one h, e => chkHV I j h e
  | .tup hs, e => match e with
    | .Tuple xs _ _ => chkHVs I j hs xs && decide (hs.length ≤ 1000)
    | _ => false
  | .lst hs, e => match e with
    | .List xs _ => chkHVs I j hs xs && decide (hs.length ≤ 1000)
    | _ => false
theorem hv_pe (O : XOk F C n X I W) {a : Addr} {oe : Obj} {cls : Value} {d : Option Addr} {pn : List (Addr × Obj)} (hz : Zc cls d oe) (hf : ∃ vs, oe.data = .fields vs) {j : Option Nat} : ∀ {h : HV} {e : Expr}, chkHV I j h e = true → PE (X.suite a ((a, oe) :: pn)) e (hvT X.K a cls d (j.getD 0) h)
  | .lit d, e, h => by
    simp only [chkHV] at h
    unfold litB at h
    split at h
    · have := eq_of_beq h; subst this; exact pe_int
    · have := eq_of_beq h; subst this; exact pe_str
    · have := eq_of_beq h; subst this; exact pe_bl
    · exact pe_non
    · cases h
  | .val, e, h => by
    simp only [chkHV] at h
    split at h
    · rename_i x p f p2
      simp only [Bool.and_eq_true, decide_eq_true_eq] at h
      obtain ⟨h1, rfl⟩ := h
      cases j with
      | none => cases h1
      | some j =>
        obtain ⟨v1, v2, v3, v4⟩ := O.vis h1
        exact ⟨fun pins s σ H Q I ⟨C0, T, nv, q⟩ => (pe_xf T nv hz hf (pe_var v1 v2 v3 v4)).run pins s σ H Q I q⟩
    · cases h
theorem hvs_pe (O : XOk F C n X I W) {a : Addr} {oe : Obj} {cls : Value} {d : Option Addr} {pn : List (Addr × Obj)} (hz : Zc cls d oe) (hf : ∃ vs, oe.data = .fields vs) {j : Option Nat} : ∀ {h : List HV} {e : List Expr}, chkHVs I j h e = true → PA (X.suite a ((a, oe) :: pn)) e (hvTs X.K a cls d (j.getD 0) h)
  | [], e, h => by
    simp only [chkHVs, List.isEmpty_iff] at h
    subst h
    exact pa_nil
  | x :: hs, e, h => by
    simp only [chkHVs] at h
    split at h
    · simp only [Bool.and_eq_true] at h
      exact pa_cons' (hv_pe O hz hf h.1.2) (hvs_pe O hz hf h.2) h.1.1
    · cases h
theorem ha_pe (O : XOk F C n X I W) {a : Addr} {oe : Obj} {cls : Value} {d : Option Addr} {pn : List (Addr × Obj)} (hz : Zc cls d oe) (hf : ∃ vs, oe.data = .fields vs) {j : Option Nat} {h : HA} {e : Expr} (hc : chkHA I j h e = true) : PE (X.suite a ((a, oe) :: pn)) e (haT X.K a cls d (j.getD 0) h) := by
  cases h with
  | one h => exact hv_pe O hz hf hc
  | tup hs =>
    simp only [chkHA] at hc
    split at hc
    · rw [Bool.and_eq_true] at hc
      exact pe_tup (hvs_pe O hz hf hc.1)
    · cases hc
  | lst hs =>
    simp only [chkHA] at hc
    split at hc
    · rw [Bool.and_eq_true] at hc
      exact pe_lst (hvs_pe O hz hf hc.1)
    · cases hc
/-- the exception at hand -/
structure HasX (K : PySem.W.Frag) (S : Addr → Prop) (σ : L2.St) (H : Hp) (a : Addr) (cls : Value) (d : Option Addr) (j : Option Nat) (x : PyData) : Prop where
  ex : ∃ (C0 dd : Addr) (v : V), cls = .ref C0 ∧ d = some dd ∧ XfC K C0 ∧ PySem.W.findIn K (.ref C0) "value" = some none ∧ H dd = some (.xd [(("value" : Str), v)]) ∧ Rp K S H v x
  at_ : ∀ i, j = some i → σ[i]? = some (some (.ref a))
theorem hv_ok {S : Addr → Prop} {a : Addr} {cls : Value} {d : Option Addr} {j : Option Nat} {x : PyData} (E : HasX K S σ H a cls d j x) : ∀ {h : HV} {e : Expr}, chkHV I j h e = true → ∃ v, Rp K S H v (hvD x h) ∧ ∀ Q : VK, Q v H → hvT K a cls d (j.getD 0) h σ H Q
  | .lit d, e, h => by
    simp only [chkHV] at h
    unfold litB at h
    split at h
    · exact ⟨_, .int _, fun Q q => q⟩
    · exact ⟨_, .str _, fun Q q => q⟩
    · exact ⟨_, .bl _, fun Q q => q⟩
    · exact ⟨_, .non, fun Q q => q⟩
    · cases h
  | .val, e, h => by
    simp only [chkHV] at h
    split at h
    · rw [Bool.and_eq_true] at h
      cases j with
      | none => exact absurd h.1 (by simp)
      | some j =>
        obtain ⟨C0, dd, v, e1, e2, T, nv, e3, r⟩ := E.ex
        exact ⟨v, r, fun Q q => ⟨C0, T, nv, _, E.at_ j rfl, rfl, e1, dd, _, v, e2, e3, by simp [List.lookup], q⟩⟩
    · cases h
theorem hvs_ok {S : Addr → Prop} {a : Addr} {cls : Value} {d : Option Addr} {j : Option Nat} {x : PyData} (E : HasX K S σ H a cls d j x) : ∀ {h : List HV} {e : List Expr}, chkHVs I j h e = true → ∃ vs, Rps K S H vs (h.map (hvD x)) ∧ ∀ Q : List V → Hp → Prop, Q vs H → hvTs K a cls d (j.getD 0) h σ H Q
  | [], e, h => ⟨[], .nil, fun Q q => q⟩
  | y :: hs, e, h => by
    simp only [chkHVs] at h
    split at h
    · simp only [Bool.and_eq_true] at h
      obtain ⟨v, r, k⟩ := hv_ok E h.1.2
      obtain ⟨vs, rs, ks⟩ := hvs_ok E h.2
      exact ⟨v :: vs, .cons r rs, fun Q q => k _ (ks _ q)⟩
    · cases h
theorem ha_ok {a : Addr} {cls : Value} {d : Option Addr} {j : Option Nat} {x : PyData} {Q : VK} (s : SR K B σ H ρ) (E : HasX K (Free B σ ρ) σ H a cls d j x) {h : HA} {e : Expr} (hc : chkHA I j h e = true) (g : GoodE K C W B σ H ρ (.ok (haR x h) ρ) Q) : haT K a cls d (j.getD 0) h σ H Q := by
  cases h with
  | one h =>
    obtain ⟨v, r, k⟩ := hv_ok E hc
    exact k Q (g v H (Keep.refl _ _) (OSub.refl _ _) (Ext.refl _) trivial ⟨s, r⟩)
  | tup hs =>
    simp only [chkHA] at hc
    split at hc
    · rw [Bool.and_eq_true] at hc
      obtain ⟨vs, r, k⟩ := hvs_ok E hc.1
      have hl := of_decide_eq_true hc.2
      refine k _ ⟨?_, fun p hp => g.newT s r hp⟩
      rw [r.length, List.length_map, sizeLine_eq]
      omega
    · cases hc
  | lst hs =>
    simp only [chkHA] at hc
    split at hc
    · rw [Bool.and_eq_true] at hc
      obtain ⟨vs, r, k⟩ := hvs_ok E hc.1
      have hl := of_decide_eq_true hc.2
      refine k _ ⟨?_, fun p hp => g.newL s r hp⟩
      rw [r.length, List.length_map, sizeLine_eq]
      omega
    · cases hc
/-- a slot that holds nothing of the data -/
theorem SR.hole {j : Nat} {y : Option V} (s : SR K B σ H ρ) (e : ρ[j]? = some none) : SR K B (σ.set j y) H ρ ∧ ∀ a, OwnAt (σ.set j y) ρ a ↔ OwnAt σ ρ a := by
  have ne : ∀ {i : Nat} {p : Bool × PyData}, ρ[i]? = some (some p) → j ≠ i := fun {i p} q z => by
    subst z
    rw [e] at q
    cases q
  have ow : ∀ a, OwnAt (σ.set j y) ρ a ↔ OwnAt σ ρ a := fun a => ⟨fun ⟨i, d, q1, q2⟩ => ⟨i, d, q1, by rw [List.getElem?_set_ne (ne q1)] at q2; exact q2⟩, fun ⟨i, d, q1, q2⟩ => ⟨i, d, q1, by rw [List.getElem?_set_ne (ne q1)]; exact q2⟩⟩
  have fr : ∀ a, Free B σ ρ a → Free B (σ.set j y) ρ a := fun a f => ⟨f.1, fun z => f.2 ((ow a).mp z)⟩
  refine ⟨⟨by rw [List.length_set]; exact s.len, s.bt, fun i d q => ?_, fun i d q => ?_, fun i k a c d q1 q2 q3 q4 => ?_⟩, ow⟩
  · obtain ⟨v, q1, r⟩ := s.plain i d q
    exact ⟨v, by rw [List.getElem?_set_ne (ne q)]; exact q1, r.mono fr⟩
  · obtain ⟨a, q1, nb, r⟩ := s.own i d q
    exact ⟨a, by rw [List.getElem?_set_ne (ne q)]; exact q1, nb, r.mono fr⟩
  · rw [List.getElem?_set_ne (ne q1)] at q3
    rw [List.getElem?_set_ne (ne q2)] at q4
    exact s.inj i k a c d q1 q2 q3 q4
theorem Tr.hole {j : Nat} {y : Option V} (t : Tr K B lk σ H ρ σ1 H1 ρ1) (e : ρ1[j]? = some none) (hj : j ∉ lk) : Tr K B lk σ H ρ (σ1.set j y) H1 ρ1 := by
  obtain ⟨s, ow⟩ := t.sr.hole (y := y) e
  exact ⟨s, t.kp, fun a z => t.ow a ((ow a).mp z), by rw [List.length_set]; exact t.ln, fun i hi => by rw [List.getElem?_set_ne fun z => hj (by rw [z]; exact hi)]; exact t.lk i hi⟩
def chkHd (F : Cfg) (lk : List Nat) (I : Inf) (h : Hd) : ExceptHandler → Bool
  | .ExceptHandler (some (.Name x _)) nm [.Assign [.Name t p] v _] _ => decide (F.CL[h.c]? = some x) && decide (F.lo ≤ h.c) && glB I x && chkT I lk (.nm h.i) (.Name t p) && notComp v && chkHA I h.e h.a v && (match nm, h.e with
    | none, none => true
    | some m, some j => decide (I.N[j]? = some m) && locB I m
    | _, _ => false)
  | _ => false
def chkHds (F : Cfg) (lk : List Nat) (I : Inf) : List Hd → List ExceptHandler → Bool
  | [], es => es.isEmpty
  | h :: hs, es => match es with
    | e :: es => chkHd F lk I h e && chkHds F lk I hs es
    | [] => false
theorem XOk.loc (O : XOk F C n X I W) {x : Str} (h : locB I x = true) : X.env.scope.names.lookup x = some .local := by
  obtain ⟨k', q, z⟩ := O.nm x _ (of_decide_eq_true h)
  rcases z with z | ⟨z, _⟩
  · subst z; exact q
  · cases z
theorem XOk.locOk (O : XOk F C n X I W) {i : Nat} {x : Str} {p : Pos} (h : chkT I lk (.nm i) (.Name x p) = true) : X.N.Nodup ∧ X.N[i]? = some x ∧ Loc X.env.scope x ∧ (X.fn x = true ∨ X.env.scope.names.lookup x = some .local) := by
  simp only [chkT, Bool.and_eq_true, decide_eq_true_eq] at h
  have h2 := h.2
  refine ⟨by rw [O.hN]; exact O.nd, by rw [O.hN]; exact h.1, ?_, ?_⟩
  · split at h2
    · rename_i e
      obtain ⟨k', q, z⟩ := O.nm x _ e
      rcases z with z | ⟨z, _⟩
      · subst z; exact .inl q
      · cases z
    · rename_i e
      obtain ⟨k', q, z⟩ := O.nm x _ e
      rcases z with z | ⟨z, _⟩
      · subst z; exact .inr q
      · cases z
    · cases h2
  · split at h2
    · rename_i e
      obtain ⟨k', q, z⟩ := O.nm x _ e
      rcases z with z | ⟨z, _⟩
      · subst z; exact .inr q
      · cases z
    · rename_i e
      exact .inl (O.fnc x e)
    · cases h2
/-- a clause's reading -/
def hdT (K : PySem.W.Frag) (h : Hd) (a : Addr) (cls : Value) (d : Option Addr) : TS := tSeq (tAsg (haT K a cls d (h.e.getD 0) h.a) (gName h.i)) tNext
def hdL (K : PySem.W.Frag) (C : Nat → Addr) (hs : List Hd) : List (Value × Option Nat × (Addr → Value → Option Addr → TS)) := hs.map fun h => (.ref (C h.c), h.e, hdT K h)
theorem hds_all (O : XOk F C n X I W) : ∀ {hs : List Hd} {es : List ExceptHandler}, chkHds F lk I hs es = true → HdsAll X es (hdL X.K C hs)
  | [], es, h => by
    simp only [chkHds, List.isEmpty_iff] at h
    subst h
    exact .nil
  | h :: hs, es, hc => by
    simp only [chkHds] at hc
    split at hc
    · rename_i e es
      rw [Bool.and_eq_true] at hc
      obtain ⟨c1, c2⟩ := hc
      have ih := hds_all O c2
      unfold chkHd at c1
      split at c1
      · rename_i x px nm t p v p2 p3
        simp only [Bool.and_eq_true, decide_eq_true_eq] at c1
        obtain ⟨⟨⟨⟨⟨⟨d1, d0⟩, d2⟩, d3⟩, d4⟩, d5⟩, d6⟩ := c1
        obtain ⟨g1, g2, g3⟩ := O.gl d2
        have nms : Names X x (.ref (C h.c)) := ⟨g1, g2, .inl (O.g.cls x h.c d1 d0).m⟩
        obtain ⟨q1, q2, q3, q4⟩ := O.locOk d3
        have su : ∀ (a : Addr) (oe : Obj) (cls : Value) (d : Option Addr) (pn : List (Addr × Obj)), Zc cls d oe → (∃ vs, oe.data = .fields vs) → PSs (X.suite a ((a, oe) :: pn)) [.Assign [.Name t p] v p2] (hdT X.K h a cls d) :=
          fun a oe cls d pn hz hf => pss_cons (ps_set (X := X.suite a ((a, oe) :: pn)) q1 q2 q3 (ha_pe O hz hf d5) (swW d4) q4) pss_nil
        obtain ⟨c, e, i, act⟩ := h
        cases nm with
        | none =>
          cases e with
          | none => exact .one nms su ih
          | some j => exact absurd d6 (by simp)
        | some m =>
          cases e with
          | none => exact absurd d6 (by simp)
          | some j =>
            simp only [Bool.and_eq_true, decide_eq_true_eq] at d6
            exact .as nms (by rw [O.hN]; exact d6.1) (O.loc d6.2) su ih
      · cases c1
    · cases hc
/-- what the clauses do -/
theorem hdl_ok (O : XOk F C n X I W) {D : Ends} {c dd : Nat} {d : PyData} (hcl : F.lo ≤ c ∧ c < F.CL.length) {σ2 : L2.St} {H2 : Hp} {ρ2 : Env} (t : Tr X.K B lk σ H ρ σ2 H2 ρ2) (ex : ExcAt X.K H2 B σ2 ρ2 d dd) :
    ∀ {hs : List Hd} {es : List ExceptHandler}, chkHds F lk I hs es = true → GoodO X.K C W lk B σ H ρ (hdl lk d c ρ2 hs) D → wAll X.K W D (hdL X.K C hs) (.ref (C c)) (some dd) σ2 H2
  | [], es, hc, g => g dd σ2 H2 t ex
  | h :: hs, es, hc, g => by
    simp only [chkHds] at hc
    split at hc
    · rename_i e es
      rw [Bool.and_eq_true] at hc
      obtain ⟨c1, c2⟩ := hc
      have ih := hdl_ok O (D := D) hcl t ex c2
      unfold chkHd at c1
      split at c1
      · rename_i x px nm tn p v p2 p3
        simp only [Bool.and_eq_true, decide_eq_true_eq] at c1
        obtain ⟨⟨⟨⟨⟨⟨d1, d0⟩, d2⟩, d3⟩, d4⟩, d5⟩, d6⟩ := c1
        have hl : h.c < F.CL.length := (List.getElem?_eq_some_iff.mp d1).1
        have em := O.g.exm c h.c hcl.1 hcl.2 d0 hl
        obtain ⟨xc, hxc⟩ : ∃ xc, F.CL[c]? = some xc := ⟨_, List.getElem?_eq_getElem hcl.2⟩
        have ck := O.g.cls xc c hxc hcl.1
        obtain ⟨v0, ev0, rv0⟩ := ex
        have step : subc c h.c = true → ∀ a, ∀ D' : Ends, ∀ σa : L2.St, Tr X.K B lk σ H ρ σa H2 ρ2 → (∀ a, OwnAt σa ρ2 a ↔ OwnAt σ2 ρ2 a) → (∀ i, h.e = some i → σa[i]? = some (some (.ref a))) → ∀ ρ3, stoV lk h.i (haR d h.a) ρ2 = some ρ3 →
            (∀ σ' H', Tr X.K B lk σ H ρ σ' H' ρ3 → D'.nx σ' H') → hdT X.K h a (.ref (C c)) (some dd) D' σa H2 := by
          intro _ a D' σa ta oa ja ρ3 es fin
          refine ha_ok (B := B) (ρ := ρ2) (C := C) (W := W) ta.sr ⟨⟨C c, dd, v0, rfl, rfl, ck.xf, ck.nv, ev0, rv0.mono fun x f => ⟨f.1, fun z => f.2 ((oa x).mp z)⟩⟩, ja⟩ d5 fun v H' k o xx fr r => ?_
          exact fin _ _ (ta.trans (sto_ok k o fr r es))
        have g' : subc c h.c = true → GoodO X.K C W lk B σ H ρ (if hole lk h.i ρ2 h.e = true then optN (stoV lk h.i (haR d h.a) ρ2) else .no) D := fun z => by
          simp only [hdl, if_pos z] at g
          exact g
        have g'' : subc c h.c = false → GoodO X.K C W lk B σ H ρ (hdl lk d c ρ2 hs) D := fun z => by
          simp only [hdl, z, Bool.false_eq_true, if_false] at g
          exact g
        obtain ⟨hc0, he0, hi0, act⟩ := h
        cases he0 with
        | none =>
          refine ⟨_, em, fun z a ha => ?_, fun z => ih (g'' z)⟩
          have g1 := g' z
          split at g1
          · obtain ⟨ρ3, es, fin⟩ := g1.optN
            exact step z a D σ2 t (fun _ => Iff.rfl) (fun i e => by cases e) ρ3 es fin
          · exact g1.elim
        | some j =>
          refine ⟨_, em, fun z a ha => ?_, fun z => ih (g'' z)⟩
          have g1 := g' z
          split at g1
          · rename_i hh
            simp only [hole, Bool.and_eq_true, bne_iff_ne, ne_eq, Bool.not_eq_true'] at hh
            obtain ⟨hj, hji, hjl⟩ := hh
            have hj : ρ2[j]? = some none := by
              split at hj
              · assumption
              · cases hj
            have hjl : j ∉ lk := fun m => by simp [m] at hjl
            have jlt : j < σ2.length := by rw [t.sr.len]; exact (List.getElem?_eq_some_iff.mp hj).1
            obtain ⟨ρ3, es, fin⟩ := g1.optN
            have h3 : ρ3[j]? = some none := by
              have := es
              unfold stoV at this
              split at this
              · cases this
              · have hne : hi0 ≠ j := fun e => hji e.symm
                cases act with
                | one h => simp only [haR, Option.some.injEq] at this; rw [← this, List.getElem?_set_ne hne]; exact hj
                | tup h => simp only [haR, Option.some.injEq] at this; rw [← this, List.getElem?_set_ne hne]; exact hj
                | lst h => simp only [haR, Option.some.injEq] at this; rw [← this, List.getElem?_set_ne hne]; exact hj
            refine step z a _ (σ2.set j (some (.ref a))) (t.hole hj hjl) (t.sr.hole hj).2 (fun i e => ?_) ρ3 es fun σ' H' t' => fin _ _ (t'.hole h3 hjl)
            cases e
            exact List.getElem?_set_self jlt
          · exact g1.elim
      · cases c1
    · cases hc
def cSs (K : PySem.W.Frag) (C : Nat → Addr) (W : WX) (lk : List Nat) (f : Env → Out) : TS := fun D σ H => ∃ B ρ, SR K B σ H ρ ∧ GoodO K C W lk B σ H ρ (f ρ) D
theorem cSs_pss {ss : List Stmt} {f : Env → Out} (h : ∃ t, PSs X ss t ∧ SDs X.K C W lk t f) : PSs X ss (cSs X.K C W lk f) := by
  obtain ⟨t, p, d⟩ := h
  exact ⟨fun pins s σ H D I ⟨B, ρ, sr, g⟩ => p.run pins s σ H D I (d B σ H ρ D sr g)⟩
/-- a def's own frame -/
structure XSt (X : Cx) : Prop where
  s : X.stack = X.env :: X.outer
  f : X.env.frame = some X.env.locals
theorem try_ok (O : XOk F C n X I W) (S : XSt X) {body : List Stmt} {es : List ExceptHandler} {hs : List Hd} {lo nc : Nat} {pos : Pos} {f : Env → Out} (hne : es ≠ []) (hc : chkHds F lk I hs es = true) (hn : F.lo ≤ lo ∧ nc ≤ F.CL.length)
    (hb : ∀ (W' : WX) (pn : List (Addr × Obj)) (xe : Value → Shared → Prop), XOk F C n (X.tr pn xe) I W' → XSt (X.tr pn xe) → ∃ t, PSs (X.tr pn xe) body t ∧ SDs X.K C W' lk t f) :
    ∃ t, PS X (.Try body es [] [] pos) t ∧ SDs X.K C W lk t fun ρ => catO lk hs lo nc (f ρ) := by
  cases es with
  | nil => exact absurd rfl hne
  | cons e es =>
    refine ⟨_, ps_try_all (tb := fun W' => cSs X.K C W' lk f) S.s S.f (by rw [O.hN]; exact O.nd) O.tk (fun W' pn xe tk po => cSs_pss (X := X.tr pn xe) (hb W' pn xe ⟨O.hN, O.nd, O.kind, O.nm, O.fnc, O.calm, O.room, tk, po, O.g, O.w⟩ ⟨S.s, S.f⟩)) (hds_all O hc), ?_⟩
    intro B σ H ρ D s hg
    refine ⟨B, ρ, s, ?_⟩
    dsimp only at hg
    cases ef : f ρ with
    | nx ρ' => rw [ef] at hg; exact hg
    | brk ρ' => rw [ef] at hg; exact hg
    | cnt ρ' => rw [ef] at hg; exact hg
    | no => rw [ef] at hg; exact hg
    | ret r ρ' => rw [ef] at hg; cases r <;> exact hg
    | exc c d ρ' =>
      rw [ef] at hg
      intro dd σ' H' t ex
      simp only [catO] at hg
      split at hg
      · rename_i hlt
        exact hdl_ok O ⟨Nat.le_trans hn.1 hlt.1, Nat.lt_of_lt_of_le hlt.2 hn.2⟩ t ex hc hg
      · exact hg.elim
end
end PD
set_option maxRecDepth 100000
set_option autoImplicit false
set_option maxHeartbeats 0
/-! PD16: whether statements are what a piece of code says; then they have a reading by that code. -/
namespace PD
variable [WW]
open PySem PySem.Spec PyProof.Rows L2
def notTup : Expr → Bool
  | .Tuple .. => false
  | _ => true
theorem swC {e : Expr} {x : Str} {px : Pos} {l : Nat} {env : PySem.Env} (h : env.scope.names.lookup x = some .cell) : swapsWith e (some (.Name x px)) l env = pure false := by
  have k : (env.kindOf x == some .local) = false := by simp [Env.kindOf, h]
  cases e <;> first | rfl | (simp [swapsWith, k]; done)
theorem swT {e : Expr} {es : List Expr} {k : Nat} {p : Pos} {l : Nat} {env : PySem.Env} : swapsWithSole [.Tuple es k p] e l env = pure false := by
  cases e <;> rfl
theorem swS {e o i : Expr} {p : Pos} {l : Nat} {env : PySem.Env} : swapsWithSole [.Subscript o i p] e l env = pure false := by
  cases e <;> rfl
theorem sto1 {e : Expr} {es : List Expr} {k : Nat} {p : Pos} {env : PySem.Env} (h : notTup e = true) : swappedStores [.Tuple es k p] e env = pure none := by
  cases e <;> first | rfl | (simp [notTup] at h)
theorem stoS {e o i : Expr} {p : Pos} {env : PySem.Env} : swappedStores [.Subscript o i p] e env = pure none := by
  cases e <;> rfl
theorem asgS {o i : Expr} {p : Pos} {env : PySem.Env} (h : notSlice i = true) : ∀ v, assign (.Subscript o i p) env v = (do
      let ov ← holding [v] (eval o env)
      let iv ← holding [v, ov] (eval i env)
      standAt p
      holding [v, ov, iv] (setItem ov iv v)
      release [v, ov, iv] []) := by
  intro v
  cases i <;> first | rfl | (simp [notSlice] at h)
theorem sw2 {env : PySem.Env} {x y : Str} {px py pt pt2 : Pos} {kt k2 : Nat} {a b : Expr} (hk : env.scope.kind = .function) (hx : env.scope.names.lookup x = some .local) (hy : env.scope.names.lookup y = some .local) (hp : (py.line == px.line) = true) (hxy : x ≠ y)
    (ha : notStar a = true) (hb : notStar b = true) (h1 : [a, b].all (foldedForSure 8) = false) (h2 : [a, b].all (constantsAlone 8) = false) :
    swappedStores [.Tuple [.Name x px, .Name y py] kt pt] (.Tuple [a, b] k2 pt2) env = pure (some [x, y]) := by
  have hbk : env.blockKind = .function := by simp [Env.blockKind, hk, ScopeKind.isAnnotationScope]
  have kx : (env.kindOf x == some .local) = true := by simp [Env.kindOf, hx]
  have ky : (env.kindOf y == some .local) = true := by simp [Env.kindOf, hy]
  have hpe : py.line = px.line := beq_iff_eq.mp hp
  have ed : [x, y].eraseDups = [x, y] := by simp [List.eraseDups_cons, List.filter_cons, Ne.symm hxy]
  unfold swappedStores
  simp only [List.length_cons, List.length_nil, hbk, List.head?_cons, Option.map_some, Option.getD_some, List.filterMap_cons, List.filterMap_nil, kx, ky, Expr.pos, hpe, h1, h2]
  simp [ed]
  intro h
  rcases h with h | h
  · cases a <;> first | (cases h; done) | (simp [notStar] at ha; done)
  · cases b <;> first | (cases h; done) | (simp [notStar] at hb; done)
theorem sw3 {env : PySem.Env} {x y z : Str} {px py pz pt pt2 : Pos} {kt k2 : Nat} {a b c : Expr} (hk : env.scope.kind = .function) (hx : env.scope.names.lookup x = some .local) (hy : env.scope.names.lookup y = some .local) (hz : env.scope.names.lookup z = some .local) (hp : (py.line == px.line) = true) (hq : (pz.line == px.line) = true) (hxy : x ≠ y) (hxz : x ≠ z) (hyz : y ≠ z)
    (ha : notStar a = true) (hb : notStar b = true) (hc : notStar c = true) (h1 : [a, b, c].all (foldedForSure 8) = false) (h2 : [a, b, c].all (constantsAlone 8) = false) :
    swappedStores [.Tuple [.Name x px, .Name y py, .Name z pz] kt pt] (.Tuple [a, b, c] k2 pt2) env = pure (some [x, y, z]) := by
  have hbk : env.blockKind = .function := by simp [Env.blockKind, hk, ScopeKind.isAnnotationScope]
  have kx : (env.kindOf x == some .local) = true := by simp [Env.kindOf, hx]
  have ky : (env.kindOf y == some .local) = true := by simp [Env.kindOf, hy]
  have kz : (env.kindOf z == some .local) = true := by simp [Env.kindOf, hz]
  have hpe : py.line = px.line := beq_iff_eq.mp hp
  have hpq : pz.line = px.line := beq_iff_eq.mp hq
  have ed : [x, y, z].eraseDups = [x, y, z] := by simp [List.eraseDups_cons, List.filter_cons, Ne.symm hxy, Ne.symm hxz, Ne.symm hyz]
  unfold swappedStores
  simp only [List.length_cons, List.length_nil, hbk, List.head?_cons, Option.map_some, Option.getD_some, List.filterMap_cons, List.filterMap_nil, kx, ky, kz, Expr.pos, hpe, hpq, h1, h2]
  simp [ed]
  intro h
  rcases h with h | h | h
  · cases a <;> first | (cases h; done) | (simp [notStar] at ha; done)
  · cases b <;> first | (cases h; done) | (simp [notStar] at hb; done)
  · cases c <;> first | (cases h; done) | (simp [notStar] at hc; done)
section
variable (F : Cfg) (lk : List Nat)
def compLoc (I : Inf) (x : Str) (px : Pos) : Expr → Bool
  | .ListComp _ [_] scope p => locB I x && (px.line == p.line) && !(scope.names.any fun (n, k) => n == x && (k == .local || k == .cell))
  | _ => false
def hasCell (I : Inf) : List Expr → Bool
  | [] => false
  | .Name x _ :: es => decide (I.names.lookup x = some .cell) || hasCell I es
  | _ :: es => hasCell I es
def chkN (I : Inf) : List Nat → List Expr → Bool
  | [], es => es.isEmpty
  | j :: js, es => match es with
    | .Name x p :: es => chkT I lk (.nm j) (.Name x p) && chkN I js es
    | _ => false
mutual
def chkT1 (I : Inf) : St → Stmt → Bool
  | .pass, s => match s with
    | .Pass _ => true
    | .Expr (.Constant (.str _) _ _) _ => true
    | _ => false
  | .drop e, s => match s with
    | .Expr x _ => notComp x && chkE F I e x
    | _ => false
  | .asg t e, s => match s with
    | .Assign [tg] v _ => chkT I lk t tg && chkE F I e v && (match t, tg with
      | .nm _, .Name x px => notComp v || (compLoc I x px v || decide (I.names.lookup x = some .cell))
      | .tp _, .Tuple .. => notTup v
      | _, _ => false)
    | _ => false
  | .par js es, s => match s with
    | .Assign [.Tuple [.Name x px, .Name y py] _ _] (.Tuple [a, b] _ _) _ => (match js with
      | [i, j] => decide (I.N[i]? = some x) && decide (I.N[j]? = some y) && decide (i ≠ j) && locB I x && locB I y && (py.line == px.line) && decide (x ≠ y) && notStar a && notStar b && ([a, b].all (foldedForSure 8) == false) && ([a, b].all (constantsAlone 8) == false) && chkEs F I es [a, b]
      | _ => false)
    | .Assign [.Tuple [.Name x px, .Name y py, .Name z pz] _ _] (.Tuple [a, b, c] _ _) _ => (match js with
      | [i, j, l] => decide (I.N[i]? = some x) && decide (I.N[j]? = some y) && decide (I.N[l]? = some z) && decide (i ≠ j) && decide (i ≠ l) && decide (j ≠ l) && locB I x && locB I y && locB I z && (py.line == px.line) && (pz.line == px.line) && decide (x ≠ y) && decide (x ≠ z) && decide (y ≠ z) && notStar a && notStar b && notStar c && ([a, b, c].all (foldedForSure 8) == false) && ([a, b, c].all (constantsAlone 8) == false) && chkEs F I es [a, b, c]
      | _ => false)
    | _ => false
  | .parT js es, s => match s with
    | .Assign [.Tuple ts _ _] (.Tuple vs _ _) _ => (hasCell I ts || decide (3 < ts.length) || vs.all (foldedForSure 8)) && chkN lk I js ts && vs.all notStar && chkEs F I es vs && decide (js.length ≤ 1000)
    | _ => false
  | .setI i ix e, s => match s with
    | .Assign [.Subscript (.Name x _) z _] v _ => varB I i x && notSlice z && chkE F I e v && chkE F I ix z
    | _ => false
  | .augI i ix o e, s => match s with
    | .AugAssign (.Subscript (.Name x _) z _) op v _ => varB I i x && notSlice z && decide (op = opOfB o) && chkE F I ix z && chkE F I e v
    | _ => false
  | .augN i o e, s => match s with
    | .AugAssign (.Name x p) op v _ => chkT I lk (.nm i) (.Name x p) && decide (op = opOfB o) && chkE F I e v
    | _ => false
  | .app i e, s => match s with
    | .Expr (.Call (.Attribute (.Name x _) m apos) [y] [] cpos) _ => varB I i x && decide (m = tyStr "append") && (apos.endLine == cpos.line) && notStar y && chkE F I e y
    | _ => false
  | .ext i e, s => match s with
    | .Expr (.Call (.Attribute (.Name x _) m apos) [y] [] cpos) _ => varB I i x && decide (m = tyStr "extend") && (apos.endLine == cpos.line) && notStar y && chkE F I e y
    | _ => false
  | .ins i a e, s => match s with
    | .Expr (.Call (.Attribute (.Name x _) m apos) [z, y] [] cpos) _ => varB I i x && decide (m = tyStr "insert") && (apos.endLine == cpos.line) && notStar z && notStar y && chkE F I a z && chkE F I e y
    | _ => false
  | .ife c a b, s => match s with
    | .If t x y _ => notIf t && chkE F I c t && chkTs1 I a x && chkTs1 I b y
    | _ => false
  | .whl c b, s => match s with
    | .While t x [] _ => notIf t && chkE F I c t && chkTs1 I b x
    | _ => false
  | .for t k b, s => match s with
    | .For tg iter x [] _ => notSet iter && chkT I lk t tg && chkS F I k tg iter && chkTs1 I b x
    | _ => false
  | .ret e, s => match s with
    | .Return (some x) _ => chkE F I e x
    | _ => false
  | .retN, s => match s with
    | .Return none _ => true
    | _ => false
  | .brk, s => match s with
    | .Break _ => true
    | _ => false
  | .cnt, s => match s with
    | .Continue _ => true
    | _ => false
  | .raise c e, s => match s with
    | .Raise (some (.Call (.Name x _) [y] [] _)) none _ => decide (F.CL[c]? = some x) && decide (F.lo ≤ c) && glB I x && notStar y && chkE F I e y
    | _ => false
  | .tri b hs lo nc, s => match s with
    | .Try body es [] [] _ => !es.isEmpty && decide (F.lo ≤ lo ∧ nc ≤ F.CL.length) && chkHds F lk I hs es && chkTs1 I b body
    | _ => false
  | .never, _ => true
def chkTs1 (I : Inf) : Sts → List Stmt → Bool
  | .nil, ss => ss.isEmpty
  | .cons c cs, ss => match ss with
    | s :: ss => chkT1 I c s && chkTs1 I cs ss
    | _ => false
end
end
section
variable {F : Cfg} {C : Nat → Addr} {n : Nat} {X : Cx} {I : Inf} {W : WX} {lk : List Nat}
theorem swap_lt {es : List Expr} {env : PySem.Env} {l : Nat} (O : XOk F C n X I W) (he : env = X.env) (h : hasCell I es = true) : (es.filterMap fun
    | .Name id pos => if env.kindOf id == some .local && pos.line == l then some id else none
    | _ => none).length < es.length := by
  induction es with
  | nil => simp [hasCell] at h
  | cons e es ih =>
    have le : (es.filterMap fun
      | .Name id pos => if env.kindOf id == some .local && pos.line == l then some id else none
      | _ => none).length ≤ es.length := List.length_filterMap_le _ _
    have tail : hasCell I es = true → ((e :: es).filterMap fun
      | .Name id pos => if env.kindOf id == some .local && pos.line == l then some id else none
      | _ => none).length < (e :: es).length := fun h => by
      have := ih h
      rw [List.filterMap_cons]
      split
      · rw [List.length_cons]; omega
      · rw [List.length_cons, List.length_cons]; omega
    cases e <;> try (exact tail (by simpa only [hasCell] using h))
    rename_i x p
    simp only [hasCell, Bool.or_eq_true, decide_eq_true_eq] at h
    rcases h with h | h
    · obtain ⟨k', q, z⟩ := O.nm x _ h
      have hk : env.kindOf x = some .cell := by
        subst he
        rcases z with z | ⟨z, _⟩
        · subst z; exact q
        · cases z
      rw [List.filterMap_cons]
      simp only [hk]
      rw [List.length_cons]
      have : (some NameKind.cell == some NameKind.local) = false := rfl
      simp only [this, Bool.false_and, Bool.false_eq_true, if_false]
      omega
    · exact tail h
theorem swap_no (O : XOk F C n X I W) {es vs : List Expr} {k k2 : Nat} {p p2 : Pos} (h : hasCell I es = true) : swappedStores [.Tuple es k p] (.Tuple vs k2 p2) X.env = pure none := by
  have q := fun l => swap_lt (l := l) O rfl h
  unfold swappedStores
  dsimp only
  split
  · rfl
  · split
    · rfl
    · have := q ((es.head?.map (·.pos.line)).getD 0)
      split
      · rfl
      · rename_i hn
        exfalso
        apply hn
        simp only [Bool.or_eq_true, bne_iff_ne, ne_eq]
        left
        exact Nat.ne_of_lt this
theorem augS_of {i : Expr} (h : notSlice i = true) : ∀ ov iv new, augStore i ov iv new = (do holding [new, ov, iv] (setItem ov iv new); release [new, ov, iv] []; pure .next) := by
  intro ov iv new
  cases i <;> first | rfl | (simp [notSlice] at h)
theorem swap_cst {es vs : List Expr} {k k2 : Nat} {p p2 : Pos} {env : PySem.Env} (h : vs.all (foldedForSure 8) = true) : swappedStores [.Tuple es k p] (.Tuple vs k2 p2) env = pure none := by
  unfold swappedStores
  dsimp only
  split
  · rfl
  · split
    · rfl
    · split <;> first | rfl | (rw [if_pos h])
theorem swap_many {es vs : List Expr} {k k2 : Nat} {p p2 : Pos} {env : PySem.Env} (h : 3 < es.length) : swappedStores [.Tuple es k p] (.Tuple vs k2 p2) env = pure none := by
  unfold swappedStores
  dsimp only
  have : (!(es.length == 2 || es.length == 3) || vs.length != es.length || env.blockKind != .function) = true := by
    have h1 : (es.length == 2) = false := by simp; omega
    have h2 : (es.length == 3) = false := by simp; omega
    rw [h1, h2]
    rfl
  rw [if_pos this]
theorem chkN_ok (O : XOk F C n X I W) : ∀ {js : List Nat} {es : List Expr}, chkN lk I js es = true → PGs X es (gNames js) ∧ (assignEach es X.env).length = js.length ∧ (assignEach es X.env).findIdx? (·.1) = none
  | [], es, h => by
    simp only [chkN, List.isEmpty_iff] at h
    subst h
    exact ⟨pgs_nil, rfl, rfl⟩
  | j :: js, es, h => by
    simp only [chkN] at h
    split at h
    · simp only [Bool.and_eq_true] at h
      obtain ⟨q1, q2, q3, q4⟩ := O.locOk h.1
      obtain ⟨i1, i2, i3⟩ := chkN_ok O h.2
      refine ⟨pgs_cons (pg_name q1 q2 q3 q4) i1 rfl, ?_, ?_⟩
      · rw [asg_cons rfl]; simp [i2]
      · rw [asg_cons rfl, List.findIdx?_cons]; simp [i3]
    · cases h
/-- name = [..] -/
theorem comp_set (O : XOk F C n X I W) {own : List Nat} {e0 c : Ex} {t : Tg} {s : Sr} {i : Nat} {x : Str} {px spos : Pos} {v : Expr} (h : chkE F I (.comp own e0 t s c) v = true) (hi : X.N[i]? = some x) (hl : compLoc I x px v = true) :
    ∃ te, PS X (.Assign [.Name x px] v spos) (tAsg te (gName i)) ∧ ED X.K C W te (evE F.T.io (run F.T n) lk (.comp own e0 t s c)) := by
  simp only [chkE] at h
  split at h
  · rename_i elt tg iter ifs scope pos
    simp only [Bool.and_eq_true] at h
    obtain ⟨⟨⟨⟨⟨⟨h1, h2⟩, h3⟩, h4⟩, h5⟩, h6⟩, h7⟩ := h
    simp only [compLoc, Bool.and_eq_true, Bool.not_eq_true'] at hl
    obtain ⟨⟨l1, l2⟩, l3⟩ := hl
    have bo := blkB_ok O h2
    obtain ⟨wi, pi, sd⟩ := chkS_ok (lk := lk) h5 O
    have O' := fun (s : Shared) (H : Hp) (Ca : Addr) (cl : List (Str × Addr)) (fp : List Addr) => O.blk s H scope Ca cl fp bo.kind
    have hs : ∃ fc, (∀ ρ, fc ρ = asB (evE F.T.io (run F.T n) lk c) ρ) ∧ ∀ (s : Shared) (H : Hp) (Ca : Addr) (cl : List (Str × Addr)) (fp : List Addr), ∃ t, PTs (X.blk s H scope (compEnvC scope cl Ca X.env) fp) ifs t ∧ TD X.K C W0 t fc := by
      refine ⟨_, fun _ => rfl, fun s H Ca cl fp => ?_⟩
      split at h7
      · have := isSkip_eq h7
        subst this
        exact pts_yes
      · simp only [Bool.and_eq_true] at h7
        obtain ⟨t, p, d⟩ := (chkE_ok h7.2 (O' s H Ca cl fp)).tt h7.1.2
        exact ⟨t, pts_one p, d⟩
      · cases h7
    obtain ⟨fc, hfc, hs⟩ := hs
    have efc : fc = asB (evE F.T.io (run F.T n) lk c) := funext hfc
    subst efc
    have L := ps_setLc (pos := pos) (spos := spos) (py := px) (g := cG X.K lk t) (tt := cT X.K C W0 (asB (evE F.T.io (run F.T n) lk c))) (te := cE X.K C W0 (evE F.T.io (run F.T n) lk e0)) O.calm (by rw [O.hN]; exact O.nd) hi (O.loc l1) (sw_true O.kind (O.loc l1) l2 l3) pi bo
      (fun s H Ca cl fp => cG_pg (X := X.blk s H scope (compEnvC scope cl Ca X.env) fp) (chkT_ok (O' s H Ca cl fp) h4))
      (fun s H Ca cl fp => cT_pts (X := X.blk s H scope (compEnvC scope cl Ca X.env) fp) (hs s H Ca cl fp))
      (fun s H Ca cl fp => cE_pe (X := X.blk s H scope (compEnvC scope cl Ca X.env) fp) (chkE_ok h6 (O' s H Ca cl fp)).ex) (foldS h1)
    rw [ownOf_snd] at L
    exact ⟨_, L, ed_comp sd (cG_gd _ _ _) (cT_td _ _) (cE_ed _ _) (subN_ok h3)⟩
  · cases h
theorem comp_set' (O : XOk F C n X I W) {e : Ex} {i : Nat} {x : Str} {px spos : Pos} {v : Expr} (h : chkE F I e v = true) (hi : X.N[i]? = some x) (hl : compLoc I x px v = true) :
    ∃ te, PS X (.Assign [.Name x px] v spos) (tAsg te (gName i)) ∧ ED X.K C W te (evE F.T.io (run F.T n) lk e) := by
  have hv : ∃ elt g sc p, v = .ListComp elt [g] sc p := by
    unfold compLoc at hl
    split at hl
    · exact ⟨_, _, _, _, rfl⟩
    · cases hl
  obtain ⟨elt, g, sc, p, rfl⟩ := hv
  cases e <;> first
    | (exact comp_set O h hi hl)
    | (exfalso; simp [chkE] at h; done)
    | (rename_i dd; exfalso; cases dd <;> simp [chkE, litB] at h; done)
theorem PE.exM {e : Expr} (X : Cx) {k : Ex} (h : HoldsE F C n X W lk e k) : ∃ t, PE X e t ∧ ED X.K C W t (evE F.T.io (run F.T n) lk k) := h.ex
mutual
theorem chkT1_ok : ∀ {k : St} {s : Stmt} {X : Cx} {W : WX}, chkT1 F lk I k s = true → XOk F C n X I W → XSt X → ∃ t, PS X s t ∧ SDs X.K C W lk t (exS F.T.io (run F.T n) lk k)
  | .pass, s, X, W, h, O, S => by
    simp only [chkT1] at h
    split at h
    · exact ⟨_, ps_pass, sds_next⟩
    · exact ⟨_, ps_doc, sds_next⟩
    · cases h
  | .drop e, s, X, W, h, O, S => by
    simp only [chkT1] at h
    split at h
    · simp only [Bool.and_eq_true] at h
      obtain ⟨t, p, d⟩ := (chkE_ok h.2 O).ex
      exact ⟨_, ps_expr p (swW h.1), sds_drop d⟩
    · cases h
  | .asg (.nm i) e, s, X, W, h, O, S => by
    simp only [chkT1] at h
    split at h
    · rename_i tg v pos
      simp only [Bool.and_eq_true] at h
      obtain ⟨⟨h1, h2⟩, h3⟩ := h
      split at h3
      · rename_i x px e0
        obtain ⟨q1, q2, q3, q4⟩ := O.locOk h1
        rw [Bool.or_eq_true] at h3
        rcases h3 with h3 | h3
        · obtain ⟨t, p, d⟩ := (chkE_ok h2 O).ex
          exact ⟨_, ps_set q1 q2 q3 p (swW h3) q4, sds_set d⟩
        · rw [Bool.or_eq_true] at h3
          rcases h3 with h3 | h3
          · obtain ⟨te, p, d⟩ := comp_set' (lk := lk) O h2 q2 h3
            exact ⟨_, p, sds_set d⟩
          · obtain ⟨t, p, d⟩ := (chkE_ok h2 O).ex
            obtain ⟨k', z1, z2⟩ := O.nm _ _ (of_decide_eq_true h3)
            have hc : X.env.scope.names.lookup x = some .cell := by
              rcases z2 with z2 | ⟨z2, _⟩
              · subst z2; exact z1
              · cases z2
            exact ⟨_, ps_set q1 q2 q3 p (swC hc) q4, sds_set d⟩
      · rename_i z
        cases z
      · cases h3
    · cases h
  | .asg (.tp ts) e, s, X, W, h, O, S => by
    simp only [chkT1] at h
    split at h
    · rename_i tg v pos
      simp only [Bool.and_eq_true] at h
      obtain ⟨⟨h1, h2⟩, h3⟩ := h
      split at h3
      · rename_i z
        cases z
      · obtain ⟨t, p, d⟩ := (chkE_ok h2 O).ex
        obtain ⟨g, pg, gd⟩ := chkT_ok (lk' := lk) O h1
        exact ⟨_, ps_asg p pg swT (sto1 h3), sds_unp d gd⟩
      · cases h3
    · cases h
  | .par js es, s, X, W, h, O, S => by
    simp only [chkT1] at h
    split at h
    · split at h
      · simp only [Bool.and_eq_true, decide_eq_true_eq] at h
        obtain ⟨⟨⟨⟨⟨⟨⟨⟨⟨⟨⟨h1, h2⟩, h3⟩, h4⟩, h5⟩, h6⟩, h7⟩, h8⟩, h9⟩, h10⟩, h11⟩, h12⟩ := h
        rw [beq_iff_eq] at h10 h11
        obtain ⟨t, p, d⟩ := chkEs_ok h12 (by simp [h8, h9]) O
        exact ⟨_, ps_par O.calm (by rw [O.hN]; exact O.nd) (by rw [O.hN]; exact h1) (by rw [O.hN]; exact h2) h3 (O.loc h4) (O.loc h5) p (sw2 O.kind (O.loc h4) (O.loc h5) h6 h7 h8 h9 h10 h11) swT, sds_par2 d⟩
      · cases h
    · split at h
      · simp only [Bool.and_eq_true, decide_eq_true_eq] at h
        obtain ⟨⟨⟨⟨⟨⟨⟨⟨⟨⟨⟨⟨⟨⟨⟨⟨⟨⟨⟨h1, h2⟩, h3⟩, h4⟩, h5⟩, h6⟩, h7⟩, h8⟩, h9⟩, h10⟩, h11⟩, h12⟩, h13⟩, h14⟩, h15⟩, h16⟩, h17⟩, h18⟩, h19⟩, h20⟩ := h
        rw [beq_iff_eq] at h18 h19
        obtain ⟨t, p, d⟩ := chkEs_ok h20 (by simp [h15, h16, h17]) O
        exact ⟨_, ps_par3 O.calm (by rw [O.hN]; exact O.nd) (by rw [O.hN]; exact h1) (by rw [O.hN]; exact h2) (by rw [O.hN]; exact h3) h4 h5 h6 (O.loc h7) (O.loc h8) (O.loc h9) p (sw3 O.kind (O.loc h7) (O.loc h8) (O.loc h9) h10 h11 h12 h13 h14 h15 h16 h17 h18 h19) swT, sds_par3 d⟩
      · cases h
    · cases h
  | .parT js es, s, X, W, h, O, S => by
    simp only [chkT1] at h
    split at h
    · simp only [Bool.and_eq_true, decide_eq_true_eq] at h
      obtain ⟨⟨⟨⟨h1, h2⟩, h3⟩, h4⟩, h5⟩ := h
      obtain ⟨t, p, d⟩ := chkEs_ok h4 h3 O
      obtain ⟨i1, i2, i3⟩ := chkN_ok O h2
      rw [Bool.or_eq_true, Bool.or_eq_true] at h1
      rcases h1 with (h1 | h1) | h1
      · exact ⟨_, ps_asg (pe_tup p) (pg_tup O.calm i1 i2 i3) swT (swap_no O h1), sds_parT h5 d⟩
      · exact ⟨_, ps_asg (pe_tup p) (pg_tup O.calm i1 i2 i3) swT (swap_many (of_decide_eq_true h1)), sds_parT h5 d⟩
      · exact ⟨_, ps_asg (pe_tup p) (pg_tup O.calm i1 i2 i3) swT (swap_cst h1), sds_parT h5 d⟩
    · cases h
  | .setI i ix e, s, X, W, h, O, S => by
    simp only [chkT1] at h
    split at h
    · simp only [Bool.and_eq_true] at h
      obtain ⟨⟨⟨h1, h2⟩, h3⟩, h4⟩ := h
      obtain ⟨v1, v2, v3, v4⟩ := O.vis h1
      obtain ⟨t1, p1, d1⟩ := (chkE_ok h3 O).ex
      obtain ⟨t2, p2, d2⟩ := (chkE_ok h4 O).ex
      have hu : X.A.units + 65 < cLine := by have := O.room.un; omega
      exact ⟨_, ps_asg p1 (pg_sub (pe_var v1 v2 v3 v4) p2 (PD.PSet.or (PD.PSet.or set_list (set_dict (by omega))) (set_n O.w (by omega))) (asgS h2)) swS stoS, sds_setI d1 d2⟩
    · cases h
  | .augN i o e, s, X, W, h, O, S => by
    simp only [chkT1] at h
    split at h
    · simp only [Bool.and_eq_true, decide_eq_true_eq] at h
      obtain ⟨⟨h1, h2⟩, h3⟩ := h
      subst h2
      obtain ⟨q1, q2, q3, q4⟩ := O.locOk h1
      obtain ⟨t, p, d⟩ := (chkE_ok h3 O).ex
      exact ⟨_, ps_aug q1 q2 q3 p (ip_ofA o) q4, sds_augN d o⟩
    · cases h
  | .app i e, s, X, W, h, O, S => by
    simp only [chkT1] at h
    split at h
    · simp only [Bool.and_eq_true, decide_eq_true_eq] at h
      obtain ⟨⟨⟨⟨h1, h2⟩, h3⟩, h4⟩, h5⟩ := h
      subst h2
      obtain ⟨v1, v2, v3, v4⟩ := O.vis h1
      obtain ⟨t, p, d⟩ := (chkE_ok h5 O).ex
      exact ⟨_, ps_expr (pe_bm PySem.F.plainAttrs_list PySem.F.slot_list_append PySem.F.type_list_append mt_append (pe_var v1 v2 v3 v4) (pa_cons' p pa_nil h4) rfl (bm_few h4) h3 (star_cons h4) rfl), sds_app d⟩
    · cases h
  | .ext i e, s, X, W, h, O, S => by
    simp only [chkT1] at h
    split at h
    · simp only [Bool.and_eq_true, decide_eq_true_eq] at h
      obtain ⟨⟨⟨⟨h1, h2⟩, h3⟩, h4⟩, h5⟩ := h
      subst h2
      obtain ⟨v1, v2, v3, v4⟩ := O.vis h1
      obtain ⟨t, p, d⟩ := (chkE_ok h5 O).ex
      exact ⟨_, ps_expr (pe_bm PySem.F.plainAttrs_list PySem.F.slot_list_extend PySem.F.type_list_extend mt_extend (pe_var v1 v2 v3 v4) (pa_cons' p pa_nil h4) rfl (bm_few h4) h3 (star_cons h4) rfl), sds_ext d⟩
    · cases h
  | .ins i a e, s, X, W, h, O, S => by
    simp only [chkT1] at h
    split at h
    · simp only [Bool.and_eq_true, decide_eq_true_eq] at h
      obtain ⟨⟨⟨⟨⟨⟨h1, h2⟩, h3⟩, h4⟩, h5⟩, h6⟩, h7⟩ := h
      subst h2
      obtain ⟨v1, v2, v3, v4⟩ := O.vis h1
      obtain ⟨t1, p1, d1⟩ := (chkE_ok h6 O).ex
      obtain ⟨t2, p2, d2⟩ := (chkE_ok h7 O).ex
      exact ⟨_, ps_expr (pe_bm PySem.F.plainAttrs_list PySem.F.slot_list_insert PySem.F.type_list_insert mt_insert (pe_var v1 v2 v3 v4) (pa_cons' p1 (pa_cons' p2 pa_nil h5) h4) rfl (bm_few2 h4 h5) h3 (star_cons h4) (by rw [star_cons h5]; rfl)), sds_ins d1 d2⟩
    · cases h
  | .ife c a b, s, X, W, h, O, S => by
    simp only [chkT1] at h
    split at h
    · simp only [Bool.and_eq_true] at h
      obtain ⟨⟨⟨h1, h2⟩, h3⟩, h4⟩ := h
      obtain ⟨t, p, d⟩ := (chkE_ok h2 O).tt h1
      obtain ⟨t1, p1, d1⟩ := chkTs1_ok h3 O S
      obtain ⟨t2, p2, d2⟩ := chkTs1_ok h4 O S
      exact ⟨_, ps_if p p1 p2, sds_if d d1 d2⟩
    · cases h
  | .whl c b, s, X, W, h, O, S => by
    simp only [chkT1] at h
    split at h
    · simp only [Bool.and_eq_true] at h
      obtain ⟨⟨h1, h2⟩, h3⟩ := h
      obtain ⟨t, p, d⟩ := (chkE_ok h2 O).tt h1
      obtain ⟨t1, p1, d1⟩ := chkTs1_ok h3 O S
      exact ⟨_, ps_while O.own p p1, sds_while d d1⟩
    · cases h
  | .for t k b, s, X, W, h, O, S => by
    simp only [chkT1] at h
    split at h
    · simp only [Bool.and_eq_true] at h
      obtain ⟨⟨⟨h1, h2⟩, h3⟩, h4⟩ := h
      obtain ⟨wi, pi, sd⟩ := chkS_ok (lk := lk) h3 O
      obtain ⟨g, pg, gd⟩ := chkT_ok (lk' := lk) O h2
      obtain ⟨t1, p1, d1⟩ := chkTs1_ok h4 O S
      exact ⟨_, ps_for O.own O.calm pi pg p1 (foldS h1), sds_for sd gd d1⟩
    · cases h
  | .ret e, s, X, W, h, O, S => by
    simp only [chkT1] at h
    split at h
    · obtain ⟨t, p, d⟩ := (chkE_ok h O).ex
      exact ⟨_, ps_ret p, sds_ret d⟩
    · cases h
  | .retN, s, X, W, h, O, S => by
    simp only [chkT1] at h
    split at h
    · exact ⟨_, ps_retN, sds_retN⟩
    · cases h
  | .brk, s, X, W, h, O, S => by
    simp only [chkT1] at h
    split at h
    · exact ⟨_, ps_break, sds_brk⟩
    · cases h
  | .cnt, s, X, W, h, O, S => by
    simp only [chkT1] at h
    split at h
    · exact ⟨_, ps_continue, sds_cnt⟩
    · cases h
  | .augI i ix o e, s, X, W, h, O, S => by
    simp only [chkT1] at h
    split at h
    · simp only [Bool.and_eq_true, decide_eq_true_eq] at h
      obtain ⟨⟨⟨⟨h1, h2⟩, h3⟩, h4⟩, h5⟩ := h
      subst h3
      obtain ⟨v1, v2, v3, v4⟩ := O.vis h1
      obtain ⟨t1, p1, d1⟩ := (chkE_ok h4 O).ex
      obtain ⟨t2, p2, d2⟩ := (chkE_ok h5 O).ex
      exact ⟨_, ps_augS (pe_var v1 v2 v3 v4) p1 get_list p2 (ip_ofA o) set_list (augS_of h2), sds_augI d1 d2 o⟩
    · cases h
  | .raise c e, s, X, W, h, O, S => by
    simp only [chkT1] at h
    split at h
    · simp only [Bool.and_eq_true, decide_eq_true_eq] at h
      obtain ⟨⟨⟨⟨h1, h0⟩, h2⟩, h3⟩, h4⟩ := h
      obtain ⟨t, p, d⟩ := (chkE_ok h4 O).ex
      exact raise_ok O h1 h0 h2 h3 p d
    · cases h
  | .tri b hs lo nc, s, X, W, h, O, S => by
    simp only [chkT1] at h
    split at h
    · simp only [Bool.and_eq_true, decide_eq_true_eq] at h
      obtain ⟨⟨⟨h1, h2⟩, h3⟩, h4⟩ := h
      exact try_ok O S (fun e => by rw [e] at h1; cases h1) h3 h2 fun W' pn xe O' S' => chkTs1_ok h4 O' S'
    · cases h
  | .never, s, X, W, h, O, S => ⟨_, ps_never, fun _ _ _ _ _ _ h => h⟩
theorem chkTs1_ok : ∀ {k : Sts} {ss : List Stmt} {X : Cx} {W : WX}, chkTs1 F lk I k ss = true → XOk F C n X I W → XSt X → ∃ t, PSs X ss t ∧ SDs X.K C W lk t (exSs F.T.io (run F.T n) lk k)
  | .nil, ss, X, W, h, O, S => by
    simp only [chkTs1, List.isEmpty_iff] at h
    subst h
    exact ⟨_, pss_nil, sds_next⟩
  | .cons c cs, ss, X, W, h, O, S => by
    simp only [chkTs1] at h
    split at h
    · simp only [Bool.and_eq_true] at h
      obtain ⟨t1, p1, d1⟩ := chkT1_ok h.1 O S
      obtain ⟨t2, p2, d2⟩ := chkTs1_ok h.2 O S
      exact ⟨_, pss_cons p1 p2, sds_seq d1 d2⟩
    · cases h
end
end
end PD
set_option maxRecDepth 100000
set_option autoImplicit false
/-! PD17: a def keeps its promise. -/
namespace PD
variable [WW]
open PySem PySem.Spec PyProof.Rows L2
theorem ioOut_at : ∀ {l : List Nat} {ρ : Env} {ds : List PyData}, ioOut l ρ = some ds → ds.length = l.length ∧ (∀ (m j : Nat) (d : PyData), l[m]? = some j → ds[m]? = some d → ρ[j]? = some (some (true, d))) ∧ ∀ j ∈ l, ∃ d, ρ[j]? = some (some (true, d))
  | [], ρ, ds, h => by
    simp only [ioOut, List.mapM_nil] at h
    cases h
    exact ⟨rfl, fun m j d e => by simp at e, fun j hj => by cases hj⟩
  | i :: l, ρ, ds, h => by
    unfold ioOut at h
    rw [List.mapM_cons] at h
    cases e : ρ[i]? with
    | none => rw [e] at h; cases h
    | some o =>
      cases o with
      | none => rw [e] at h; cases h
      | some p =>
        obtain ⟨b, d⟩ := p
        cases b with
        | false => rw [e] at h; cases h
        | true =>
          rw [e] at h
          cases e2 : ioOut l ρ with
          | none =>
            unfold ioOut at e2
            simp only [Option.bind_eq_bind, Option.bind_some] at h
            rw [e2] at h
            cases h
          | some ds' =>
            have e3 := e2
            unfold ioOut at e3
            simp only [Option.bind_eq_bind, Option.bind_some] at h
            rw [e3] at h
            cases h
            obtain ⟨h1, h2, h3⟩ := ioOut_at e2
            refine ⟨by simp [h1], fun m j c e4 e5 => ?_, fun j hj => ?_⟩
            · cases m with
              | zero =>
                simp only [List.getElem?_cons_zero, Option.some.injEq] at e4 e5
                subst e4; subst e5; exact e
              | succ m => exact h2 m j c (by simpa using e4) (by simpa using e5)
            · rcases List.mem_cons.mp hj with z | z
              · subst z; exact ⟨d, e⟩
              · exact h3 j z
theorem startE_at {io : List Bool} {n : Nat} {ds : List PyData} (hd : ds.length = io.length) {i : Nat} {m : Bool} {d : PyData} (h : (startE io n ds)[i]? = some (some (m, d))) : io[i]? = some m ∧ ds[i]? = some d := by
  unfold startE at h
  by_cases hi : i < ds.length
  · rw [List.getElem?_append_left (by rw [List.length_map, List.length_zip, hd]; omega), List.getElem?_map] at h
    have hi2 : i < io.length := hd ▸ hi
    rw [List.getElem?_eq_getElem (by rw [List.length_zip]; omega), List.getElem_zip] at h
    simp only [Option.map_some, Option.some.injEq, Prod.mk.injEq] at h
    rw [List.getElem?_eq_getElem hi, List.getElem?_eq_getElem hi2, h.1, h.2]
    exact ⟨rfl, rfl⟩
  · rw [List.getElem?_append_right (by rw [List.length_map, List.length_zip, hd]; omega)] at h
    have := List.mem_of_getElem? h
    have := List.eq_of_mem_replicate this
    cases this
theorem startE_len {io : List Bool} {n : Nat} {ds : List PyData} (hd : ds.length = io.length) (hn : io.length ≤ n) : (startE io n ds).length = n := by
  unfold startE
  rw [List.length_append, List.length_map, List.length_zip, List.length_replicate, hd]
  omega
theorem start_at {N : List Str} {vs : List V} {i : Nat} {v : V} (h : vs[i]? = some v) : (L2.start N vs)[i]? = some (some v) := by
  unfold L2.start
  have hi : i < vs.length := (List.getElem?_eq_some_iff.mp h).1
  rw [List.getElem?_append_left (by rw [List.length_map]; exact hi), List.getElem?_map, h]
  rfl
theorem start_len {N : List Str} {vs : List V} (h : vs.length ≤ N.length) : (L2.start N vs).length = N.length := by
  unfold L2.start
  rw [List.length_append, List.length_map, List.length_replicate]
  omega
section
variable {K : PySem.W.Frag} {C : Nat → Addr}
/-- the body's state at the entry -/
theorem entry {S : Addr → Prop} {H : Hp} {io : List Bool} {vs : List V} {ds : List PyData} {N : List Str} (A : ArgsOk K S H io vs ds) (hn : io.length ≤ N.length) :
    SR K (fun a => (∃ o, H a = some o) ∧ ¬ S a ∧ ¬ IoAt io vs a) (L2.start N vs) H (startE io N.length ds) ∧ (∀ a, OwnAt (L2.start N vs) (startE io N.length ds) a → IoAt io vs a) := by
  have own : ∀ a, OwnAt (L2.start N vs) (startE io N.length ds) a → IoAt io vs a := fun a ⟨i, d, e1, e2⟩ => by
    obtain ⟨h1, h2⟩ := startE_at A.ld e1
    obtain ⟨b, h3, _⟩ := A.mu i d h1 h2
    have := start_at (N := N) h3
    rw [this] at e2
    cases e2
    exact ⟨i, h1, h3⟩
  have fr : ∀ a, Sa S io vs a → (∃ o, H a = some o) → Free (fun a => (∃ o, H a = some o) ∧ ¬ S a ∧ ¬ IoAt io vs a) (L2.start N vs) (startE io N.length ds) a ∧ ¬ False := fun a f _ => ⟨⟨fun z => z.2.1 f.1, fun z => f.2 (own a z)⟩, fun z => z⟩
  refine ⟨⟨by rw [start_len (by rw [A.lv]; exact hn), startE_len A.ld hn], fun a b => b.1, fun i d e => ?_, fun i d e => ?_, fun i j a c d e1 e2 e3 e4 => ?_⟩, own⟩
  · obtain ⟨h1, h2⟩ := startE_at A.ld e
    obtain ⟨v, h3, r⟩ := A.pl i d h1 h2
    exact ⟨v, start_at h3, r.to (Keep.refl (fun _ => False) H) fr⟩
  · obtain ⟨h1, h2⟩ := startE_at A.ld e
    obtain ⟨a, h3, r⟩ := A.mu i d h1 h2
    exact ⟨a, start_at h3, fun z => z.2.2 ⟨i, h1, h3⟩, r.to (Keep.refl (fun _ => False) H) fr fun z => z⟩
  · obtain ⟨h1, h2⟩ := startE_at A.ld e1
    obtain ⟨h1', h2'⟩ := startE_at A.ld e2
    obtain ⟨b, h3, _⟩ := A.mu i c h1 h2
    obtain ⟨b', h3', _⟩ := A.mu j d h1' h2'
    rw [start_at h3] at e3
    rw [start_at h3'] at e4
    cases e3; cases e4
    exact A.ap i j _ h1 h1' h3 h3'
/-- the body's end -/
theorem leave {S : Addr → Prop} {H : Hp} {io : List Bool} {vs : List V} {ds : List PyData} {N : List Str} {o : Out} {Q : VK} {E : XK} (A : ArgsOk K S H io vs ds) (hn : io.length ≤ N.length) (g : GoodF K C S H io vs (finF (ioIx io 0) o) Q E) :
    GoodO K C (fun cls d _ H' => E cls d H') (ioIx io 0) (fun a => (∃ o, H a = some o) ∧ ¬ S a ∧ ¬ IoAt io vs a) (L2.start N vs) H (startE io N.length ds) o { nx := fun _ H' => Q .non H', rt := Q } := by
  obtain ⟨s0, own⟩ := entry (N := N) A hn
  -- a changed parameter's slot
  have at0 : ∀ j, io[j]? = some true → ∃ a, vs[j]? = some (V.ref a) ∧ (L2.start N vs)[j]? = some (some (V.ref a)) := fun j hj => by
    have hl : j < ds.length := by rw [A.ld]; exact (List.getElem?_eq_some_iff.mp hj).1
    obtain ⟨a, h, _⟩ := A.mu j _ hj (List.getElem?_eq_getElem hl)
    exact ⟨a, h, start_at h⟩
  have fin : ∀ {B' : Addr → Prop} {σ' : L2.St} {H' : Hp} {ρ' : Env} {ds' : List PyData}, (∀ a, (∃ o, H a = some o) ∧ ¬ S a ∧ ¬ IoAt io vs a → B' a) → Tr K B' (ioIx io 0) (L2.start N vs) H (startE io N.length ds) σ' H' ρ' → ioOut (ioIx io 0) ρ' = some ds' →
      Keep (IoAt io vs) H H' ∧ (∀ a, IoAt io vs a → OwnAt σ' ρ' a) ∧ (∀ x, Free B' σ' ρ' x → S1 S H io vs x) ∧ IoRes K (fun x => S1 S H io vs x ∧ ¬ B' x) H' io vs ds' := by
    intro B' σ' H' ρ' ds' hB t e
    obtain ⟨h1, h2, h3⟩ := ioOut_at e
    have io2 : ∀ a, IoAt io vs a → OwnAt σ' ρ' a := fun a ⟨j, q1, q2⟩ => by
      obtain ⟨d, q3⟩ := h3 j (ioIx_mem.mpr q1)
      exact ⟨j, d, q3, (t.lk j (ioIx_mem.mpr q1)).trans (start_at q2)⟩
    have fr : ∀ x, Free B' σ' ρ' x → S1 S H io vs x := fun x f => by
      refine ⟨?_, fun z => f.2 (io2 x z)⟩
      cases hx : H x with
      | none => exact .inr rfl
      | some o => exact .inl (Classical.not_not.mp fun n => f.1 (hB x ⟨⟨o, hx⟩, n, fun z => f.2 (io2 x z)⟩))
    refine ⟨t.kp.mono own, io2, fr, h1, fun m j d q1 q2 => ?_⟩
    have q3 := h2 m j d q1 q2
    have hj := ioIx_mem.mp (List.mem_of_getElem? q1)
    obtain ⟨a, q4, q5⟩ := at0 j hj
    obtain ⟨b, q6, nb, r⟩ := t.sr.own j d q3
    rw [t.lk j (ioIx_mem.mpr hj), q5] at q6
    cases q6
    exact ⟨a, q4, r.mono fun x f => ⟨fr x f, f.1⟩⟩
  have ioR : ∀ {T U : Addr → Prop} {H' : Hp} {ds' : List PyData}, (∀ x, T x → U x) → IoRes K T H' io vs ds' → IoRes K U H' io vs ds' := fun {T U H' ds'} m r =>
    ⟨r.len, fun k j d e1 e2 => let ⟨a, q1, q2⟩ := r.at_ k j d e1 e2; ⟨a, q1, q2.mono m⟩⟩
  cases o with
  | nx ρ' =>
    simp only [finF] at g
    split at g
    · rename_i ds' e
      intro σ' H' t
      obtain ⟨k, _, fr, r⟩ := fin (fun _ z => z) t e
      exact g _ _ k .non (ioR (fun x z => z.1) r)
    · exact g.elim
  | brk ρ' => exact g.elim
  | cnt ρ' => exact g.elim
  | no => exact g.elim
  | exc c d ρ' =>
    simp only [finF] at g
    split at g
    · rename_i ds' e
      intro dd σ' H' t ⟨v, ex, rp⟩
      obtain ⟨k, _, fr, r⟩ := fin (fun _ z => z) t e
      exact g dd v H' k ex (rp.mono fr) (ioR (fun x z => z.1) r)
    · exact g.elim
  | ret r ρ' =>
    cases r with
    | sl i => exact g.elim
    | val d =>
      simp only [finF] at g
      split at g
      · rename_i ds' e
        intro v σ' H' t rp
        obtain ⟨k, _, fr, r⟩ := fin (fun _ z => z) t e
        exact g _ _ k (rp.mono fr) (ioR (fun x z => z.1) r)
      · exact g.elim
    | own d =>
      simp only [finF] at g
      split at g
      · rename_i ds' e
        intro a σ' H' t ow nb ro
        obtain ⟨k, io2, fr, r⟩ := fin (B' := Bl _ a) (fun _ z => .inl z) t e
        have hn : H a = none := ow.elim (fun z => absurd (io2 a (own a z)) t.sr.ownNot) id
        exact g a H' k hn (ro.mono fun x f => ⟨fr x f, fun z => f.1 (.inr z)⟩) (ioR (fun x z => ⟨z.1, fun y => z.2 (.inr y)⟩) r)
      · exact g.elim
end
/-! ### a def of the text -/
structure DefOk (K : PySem.W.Frag) (mg : Str → Option Value) (F : Cfg) (x : Str) (k : Nat) : Prop where
  ex : ∃ (qual nm : Str) (st : Stmt) (f : Addr) (fd : FuncData) (N ps : List Str) (io : List Bool) (body : Sts), Fun K nm qual st f fd ∧ mg x = some (.ref f) ∧ FnScope N ps (defScope st) ∧ Binds K fd ps [] ∧
    F.T[k]? = some ⟨io, N.length, body⟩ ∧ io.length = ps.length ∧ chkTs1 F (ioIx io 0) ⟨N, (defScope st).names⟩ body (defBody st) = true ∧
    ∀ np ks perm, (k, np, ks, perm) ∈ F.KW → KBinds K fd ps ks (gP np ks.length perm) (gP np ks.length perm)
section
variable {P : Program} {w : World} {K : PySem.W.Frag} {mg : Str → Option Value} {base : Heap} {F : Cfg} {C : Nat → Addr}
theorem Prog.io_at {T : Prog} {k : Nat} {io : List Bool} {n : Nat} {b : Sts} (h : T[k]? = some ⟨io, n, b⟩) : T.io k = io := by
  unfold Prog.io; rw [h]
theorem fn_ok {qual nm : Str} {st : Stmt} {f : Addr} {fd : FuncData} {N ps : List Str} {io : List Bool} {body : Sts} {k m : Nat} (Fn : Fun K nm qual st f fd) (S : FnScope N ps (defScope st)) (hT : F.T[k]? = some ⟨io, N.length, body⟩) (hio : io.length = ps.length)
    (hc : chkTs1 F (ioIx io 0) ⟨N, (defScope st).names⟩ body (defBody st) = true) (hw : w = WW.w) (G : Gok P w K mg base F C m) : FnOk P w K mg base (L2.CX P w) (m + 1 + 2) f fd ps (spF K C F.T (m + 1) k) := by
  have eio := Prog.io_at hT
  show FnOk P w K mg base (L2.CX P w) ((m + 2) + 1) f fd ps (spF K C F.T (m + 1) k)
  refine Fn.okX S (fun vs H Q E h => ?_) (fun cdv A outer s H vs Q E hr h => ?_)
  · obtain ⟨_, ds, A, _⟩ := h
    rw [A.lv, eio, hio]
  · obtain ⟨S0, ds, A0, g⟩ := h
    rw [eio] at A0 g
    have O : XOk F C m (cxOf (L2.CX P w) P w K mg base N qual (defScope st) f cdv A outer s H E) ⟨N, (defScope st).names⟩ (fun cls d _ H' => E cls d H') :=
      { hN := rfl, nd := S.nd, kind := S.kind, nm := fun x k e => ⟨k, e, .inl rfl⟩, fnc := fun _ _ => rfl, calm := rfl, room := hr,
        tk := takes_of rfl rfl rfl rfl, own := passes_of rfl, g := G, w := hw }
    obtain ⟨t, p, d⟩ := chkTs1_ok (C := C) (n := m) hc O ⟨rfl, rfl⟩
    have hrun : run F.T (m + 1) k ds = if ds.length = io.length ∧ io.length ≤ N.length then finF (ioIx io 0) (exSs F.T.io (run F.T m) (ioIx io 0) body (startE io N.length ds)) else .no := by
      show (match F.T[k]? with
        | some F' => if ds.length = F'.io.length ∧ F'.io.length ≤ F'.n then finF (ioIx F'.io 0) (exSs F.T.io (run F.T m) (ioIx F'.io 0) F'.body (startE F'.io F'.n ds)) else FR.no
        | none => FR.no) = _
      rw [hT]
    rw [hrun] at g
    split at g
    · rename_i hl
      exact ⟨t, p, d _ _ _ _ _ (entry A0 hl.2).1 (leave A0 hl.2 g)⟩
    · exact g.elim
theorem FnOk.zero {f : Addr} {fd : FuncData} {ps : List Str} {k : Nat} (hl : (F.T.io k).length = ps.length) : FnOk P w K mg base (L2.CX P w) (0 + 2) f fd ps (spF K C F.T 0 k) :=
  ⟨fun vs H Q E h => by obtain ⟨_, ds, A, _⟩ := h; rw [A.lv, hl], fun A outer s H args us vs Q E _ _ _ _ h => by obtain ⟨_, _, _, g⟩ := h; exact g.elim⟩
/-- what the text says of a class of exceptions -/
structure ClsFacts (K : PySem.W.Frag) (mg : Str → Option Value) (C : Addr) (x : Str) : Prop where
  m : mg x = some (.ref C)
  t : OexC K C
  xf : XfC K C
  nv : PySem.W.findIn K (.ref C) "value" = some none
  ini : ∃ (fI : Addr) (fd : FuncData) (nm qual : Str) (st : Stmt), Fun K nm qual st fI fd ∧ FnScope ["self", "value"] ["self", "value"] (defScope st) ∧ initB st = true ∧ (defScope st).names.lookup ("ValueError" : Str) = some .globalImplicit ∧ (defScope st).names.lookup ("self" : Str) = some .local ∧
    (defScope st).names.lookup ("value" : Str) = some .local ∧ Binds K fd ["self", "value"] [] ∧ PySem.W.findIn K (.ref C) "__init__" = some (some (.ref fI)) ∧ PySem.W.typeIn K (.ref fI) = some (.type "function")
  ve : mg "ValueError" = none
  vV : PySem.W.findCls K (.type "ValueError") (.type "type") "__init__" = some (.val (.builtin "ValueError.__init__"))
theorem ClsFacts.ok {C : Addr} {x : Str} (A : ClsFacts K mg C x) : ClsOk P w K mg base C x := by
  obtain ⟨fI, fd, nm, qual, st, Fn, S, hb, h1, h2, h3, bi, iC, tI⟩ := A.ini
  exact ⟨A.m, A.t, A.xf, A.nv, fI, fd, _, iC, tI, bi, init_ok Fn S hb A.ve A.vV h1 h2 h3⟩
structure Facts (K : PySem.W.Frag) (w : World) (mg : Str → Option Value) (C : Nat → Addr) (F : Cfg) : Prop where
  fn : ∀ x k, F.G.lookup x = some (.fn k) → DefOk K mg F x k
  cst : ∀ x d, F.G.lookup x = some (.cst d) → ∃ u v, mg x = some u ∧ RelV v u ∧ ∀ S H, Rp K S H v d
  bfn : ∀ x id, F.G.lookup x = some (.bfn id) → mg x = some (.builtin id)
  blt : ∀ x, F.G.lookup x = none → x ∈ F.BL → mg x = none
  cdt : ∀ x kvs, F.G.lookup x = some (.cdt kvs) → ∃ p, mg x = some (.ref p) ∧ ∀ k v, (k, v) ∈ kvs → KDct K w p k (.str v)
  cls : ∀ x c, F.CL[c]? = some x → F.lo ≤ c → ClsFacts K mg (C c) x
  exm : ∀ c h, F.lo ≤ c → c < F.CL.length → F.lo ≤ h → h < F.CL.length → PySem.W.exmOne K (.ref (C c)) (.ref (C h)) = some (subc c h)
theorem all_gok (hw : w = WW.w) (A : Facts K w mg C F) : ∀ n, Gok P w K mg base F C n
  | 0 => ⟨fun x k e => by
      obtain ⟨qual, nm, st, f, fd, N, ps, io, body, Fn, hm, S, hb, hT, hio, hc, hk⟩ := (A.fn x k e).ex
      exact ⟨f, fd, ps, hm, Fn.kp, hb, FnOk.zero (by rw [Prog.io_at hT]; exact hio), hk⟩, A.cst, A.bfn, A.blt, A.cdt, fun x c e l => (A.cls x c e l).ok, A.exm⟩
  | n + 1 => ⟨fun x k e => by
      obtain ⟨qual, nm, st, f, fd, N, ps, io, body, Fn, hm, S, hb, hT, hio, hc, hk⟩ := (A.fn x k e).ex
      exact ⟨f, fd, ps, hm, Fn.kp, hb, fn_ok Fn S hT hio hc hw (all_gok hw A n), hk⟩, A.cst, A.bfn, A.blt, A.cdt, fun x c e l => (A.cls x c e l).ok, A.exm⟩
/-- the promise of a def that ends with no exception -/
def spR (K : PySem.W.Frag) (T : Prog) (n k : Nat) : Sp := fun vs H Q E => ∃ (S : Addr → Prop) (ds : List PyData), ArgsOk K S H (T.io k) vs ds ∧ (∃ o d io, run T n k ds = .ret o d io) ∧ GoodF K (fun _ => 0) S H (T.io k) vs (run T n k ds) Q E
theorem spR_spF {T : Prog} {n k : Nat} {vs : List V} {H : Hp} {Q : VK} {E : XK} (h : spR K T n k vs H Q E) : spF K C T n k vs H Q E := by
  obtain ⟨S, ds, A, ⟨o, d, io, e⟩, g⟩ := h
  refine ⟨S, ds, A, ?_⟩
  rw [e] at g ⊢
  cases o <;> exact g
theorem fn_spR {f : Addr} {fd : FuncData} {ps : List Str} {n l k : Nat} (h : FnOk P w K mg base (L2.CX P w) l f fd ps (spF K C F.T n k)) : FnOk P w K mg base (L2.CX P w) l f fd ps (spR K F.T n k) :=
  ⟨fun vs H Q E q => h.len vs H Q E (spR_spF q), fun A outer s H args us vs Q E a b c d q => h.run A outer s H args us vs Q E a b c d (spR_spF q)⟩
/-- a list of ints that is read -/
theorem ints_rps {S : Addr → Prop} {H : Hp} : ∀ ns : List Int, Rps K S H (ns.map V.int) (ns.map PyData.int)
  | [] => .nil
  | n :: ns => .cons (.int n) (ints_rps ns)
/-- the law's promise at a script -/
theorem law_sp {T : Prog} {n k : Nat} {H : Hp} {a : Addr} {ns : List Int} (ho : Only H) (hs : SqL K H a (ns.map V.int)) (hio : T.io k = [false]) (hr : run T n k [.list (ns.map .int)] = .ret false (.bool true) []) :
    spR K T n k [.ref a] H (fun v _ => v = .bl true) fun _ _ _ => False := by
  have hfz : LA K (Sa (fun _ => True) (T.io k) [.ref a]) H a (ns.map V.int) := by
    refine .inr ?_
    rcases hs with h | h
    · rcases h with h | ⟨o, h⟩
      · rcases ho a with z | ⟨o, xs, z⟩
        · rw [z] at h; cases h
        · rw [z] at h; cases h
      · exact .inl ⟨o, h⟩
    · exact .inr h
  refine ⟨fun _ => True, [.list (ns.map .int)], ⟨by rw [hio]; rfl, by rw [hio]; rfl, fun j d e1 e2 => ?_, fun j d e1 e2 => ?_, fun i j a e1 e2 => ?_⟩, ⟨_, _, _, hr⟩, ?_⟩
  · rw [hio] at e1
    cases j with
    | zero =>
      simp only [List.getElem?_cons_zero, Option.some.injEq] at e2
      subst e2
      exact ⟨_, rfl, .lst hfz (ints_rps ns)⟩
    | succ j => simp at e1
  · rw [hio] at e1
    cases j with
    | zero => simp at e1
    | succ j => simp at e1
  · rw [hio] at e1
    cases i with
    | zero => simp at e1
    | succ j => simp at e1
  · rw [hr]
    intro v H' _ r _
    cases r
    rfl
end
end PD
set_option maxRecDepth 100000
set_option autoImplicit false
/-! PD18: for the law's own text. -/
namespace PD
variable [WW]
open PySem PySem.Spec PyProof.Rows L2
omit [WW] in
theorem look_mem : ∀ {l : GT} {x : Str} {g : GK}, l.lookup x = some g → (x, g) ∈ l
  | [], _, _, h => by cases h
  | (y, k) :: r, x, g, h => by
    rw [List.lookup_cons] at h
    split at h
    · rename_i e
      simp only [Option.some.injEq] at h
      subst h
      have : x = y := beq_iff_eq.mp e
      subst this
      exact List.mem_cons_self
    · exact List.mem_cons_of_mem _ (look_mem h)
theorem vals_at : ∀ {vs : List V} {us : List Value} (j : Nat), Vals vs us → (vs[j]? = none ∧ us[j]? = none) ∨ ∃ v u, vs[j]? = some v ∧ us[j]? = some u ∧ RelV v u
  | _, _, _, .nil => .inl ⟨by simp, by simp⟩
  | _, _, 0, .cons r _ => .inr ⟨_, _, rfl, rfl, r⟩
  | _, _, j + 1, .cons _ t => by simpa using vals_at j t
theorem vals_app : ∀ {vs ws : List V} {us xs : List Value}, Vals vs us → Vals ws xs → Vals (vs ++ ws) (us ++ xs)
  | _, _, _, _, .nil, h => h
  | _, _, _, _, .cons r t, h => .cons r (vals_app t h)
theorem vals_pick {vs : List V} {us : List Value} (h : Vals vs us) : ∀ p : List Nat, Vals (p.filterMap fun j => vs[j]?) (p.filterMap fun j => us[j]?)
  | [] => .nil
  | j :: p => by
    rcases vals_at j h with ⟨e1, e2⟩ | ⟨v, u, e1, e2, r⟩
    · rw [List.filterMap_cons_none e1, List.filterMap_cons_none e2]; exact vals_pick h p
    · rw [List.filterMap_cons_some e1, List.filterMap_cons_some e2]; exact .cons r (vals_pick h p)
theorem permG_vals {vs zs : List V} {us ws : List Value} (perm : List Nat) (r : Vals vs us) (q : Vals zs ws) : Vals (permG perm vs zs) (permG perm us ws) := by
  cases perm with
  | nil => exact vals_app r q
  | cons p ps => exact vals_pick (vals_app r q) (p :: ps)
section
variable {K : PySem.W.Frag}
theorem exm_mk {a b : Addr} {r : Bool} (h1 : PySem.W.subIn K (.ref b) (.type "BaseException") = some true) (h2 : PySem.W.isClsIn K b = true) (h3 : PySem.W.typeIn K (.ref b) = some (.type "type")) (h4 : PySem.W.subIn K (.ref a) (.ref b) = some r) : PySem.W.exmOne K (.ref a) (.ref b) = some r := by
  have h2' : (PySem.W.clsIn K b).isSome = true := h2
  show (if (PySem.W.subIn K (.ref b) (.type "BaseException") == some true) = true then (if ((PySem.W.clsIn K b).isSome && PySem.W.typeIn K (.ref b) == some (.type "type")) = true then PySem.W.subIn K (.ref a) (.ref b) else none) else none) = some r
  rw [h1, h2', h3]
  exact h4
theorem kb_mk {x qual : Str} {st : Stmt} {f : Addr} {fd : FuncData} {ps ks : List Str} {np : Nat} {perm : List Nat} (F : Fun K x qual st f fd) (hne : ps.length ≠ 0)
    (h : ∀ (kV doc pm : Value) (an : Option Addr) (cdv ct : Value) (us ws : List Value), us.length = np → ws.length = ks.length → bindArgs (PySem.W.fnOf x qual (defArgs st) (defBody st) (defScope st) .none kV doc pm an cdv ct) ⟨us, ks.zip ws⟩ = pure (ps.zip (permG perm us ws))) :
    KBinds K fd ps ks (gP np ks.length perm) (gP np ks.length perm) := by
  obtain ⟨oc, od, kV, doc, pm, an, cdv, ct, osl, rfl, lk, hcd⟩ := F.ex
  refine ⟨fun s us ws _ hl => ?_, fun {vs us zs ws} r q => ?_⟩
  · unfold gP at hl ⊢
    split at hl
    · rename_i e
      rw [if_pos e]
      exact .of_eq (h kV doc pm an cdv ct us ws e.1 e.2)
    · exact absurd hl.symm hne
  · unfold gP
    rw [r.length, q.length]
    split
    · exact permG_vals perm r q
    · exact .nil
theorem cx_no {P : Program} {w : World} {H : Hp} {s : Shared} {e : Value} {s' : Shared} (h : L2.CX P w [] H s (fun _ _ _ => False) e s') : False := by
  unfold L2.CX at h
  obtain ⟨_, _, _, _, _, _, _, _, _, _, _, _, h⟩ := h
  exact h
theorem law_fd {P : Program} {w : World} {mg : Str → Option Value} {F : Cfg} {C : Nat → Addr} {qual nm : Str} {st : Stmt} {f fa : Addr} {fd : FuncData} {N : List Str} {x p : Str} {io : List Bool} {body : Sts} {k m : Nat} (hw : w = WW.w) (A : Facts K w mg C F) (Fn : Fun K nm qual st f fd) (hm : mg x = some (.ref f)) (hfa : mg x = some (.ref fa))
    (hb : ∀ (kV doc pm : Value) (an : Option Addr) (cdv ct : Value) (u : Value), bindArgs (PySem.W.fnOf nm qual (defArgs st) (defBody st) (defScope st) .none kV doc pm an cdv ct) ⟨[u], []⟩ = pure [(p, u)])
    (S : FnScope N [p] (defScope st)) (hT : F.T[k]? = some ⟨io, N.length, body⟩) (hio : io.length = [p].length)
    (hc : chkTs1 F (ioIx io 0) ⟨N, (defScope st).names⟩ body (defBody st) = true) :
    ∃ fd : FuncData, (∀ (s : Shared) (u : Value), BindsTo s fd ⟨[u], []⟩ [(p, u)]) ∧ ∀ base : Heap, K.In base → base.Ns mainGlobals mg → FnOk P w K mg base (L2.CX P w) (m + 1 + 2) fa fd [p] (spR K F.T (m + 1) k) := by
  rw [hm] at hfa
  cases hfa
  refine ⟨fd, fun s u => ?_, fun base _ _ => fn_spR (fn_ok Fn S hT hio hc hw (all_gok hw A m))⟩
  obtain ⟨oc, od, kV, doc, pm, an, cdv, ct, osl, rfl, lk, hcd⟩ := Fn.ex
  exact .of_eq (hb kV doc pm an cdv ct u)
theorem cst_str {mg : Str → Option Value} {x : Str} {z : Str} {n : Nat} (h : mg x = some (.str z n)) : ∃ u v, mg x = some u ∧ RelV v u ∧ ∀ S H, Rp K S H v (.str z) := ⟨_, .str z, h, ⟨n, rfl⟩, fun _ _ => .str z⟩
theorem cst_pair {mg : Str → Option Value} {x : Str} {t : Addr} {a b : Int} {q0 q1 n : Nat} {od : Option Addr} {sl : Array (Option Value)} (h : mg x = some (.ref t)) (l : K.lookup t = some ⟨.type "tuple", od, .seq #[.int a q0, .int b q1] n, sl⟩) :
    ∃ u v, mg x = some u ∧ RelV v u ∧ ∀ S H, Rp K S H v (.tuple [.int a, .int b]) :=
  ⟨.ref t, .ref t, h, rfl, fun S H => .tup (xs := [.int a, .int b]) (.inr ⟨_, _, _, l, rfl, rfl, (by show 2 ≤ sizeLine; decide), .cons ⟨_, rfl⟩ (.cons ⟨_, rfl⟩ .nil)⟩) (.cons (.int _) (.cons (.int _) .nil))⟩
end
end PD
set_option maxRecDepth 100000
set_option autoImplicit false
/-! EV: how a law's code is worked out in plain Lean. -/
namespace PD

open PySem
theorem run_of {T : Prog} {n k : Nat} {ds : List PyData} {io : List Bool} {m : Nat} {b : Sts} (h : T[k]? = some ⟨io, m, b⟩) (h1 : ds.length = io.length) (h2 : io.length ≤ m) : run T (n + 1) k ds = finF (ioIx io 0) (exSs T.io (run T n) (ioIx io 0) b (startE io m ds)) := by
  show (match T[k]? with
    | some F' => if ds.length = F'.io.length ∧ F'.io.length ≤ F'.n then finF (ioIx F'.io 0) (exSs T.io (run T n) (ioIx F'.io 0) F'.body (startE F'.io F'.n ds)) else FR.no
    | none => FR.no) = _
  rw [h]
  exact if_pos ⟨h1, h2⟩
/-! ### loops -/
theorem forL_inv {lk : List Nat} {t : Tg} {b : Env → Out} (I : Nat → Env → Prop) : ∀ {ds : List PyData} {ρ : Env} (k : Nat), (∀ (i : Nat) d ρ, ds[i]? = some d → I (k + i) ρ → ∃ ρ1, asgT lk t d ρ = some ρ1 ∧ ∃ ρ2, b ρ1 = .nx ρ2 ∧ I (k + i + 1) ρ2) → I k ρ → ∃ ρ', forL lk t b ds ρ = .nx ρ' ∧ I (k + ds.length) ρ'
  | [], ρ, k, _, h => ⟨ρ, rfl, h⟩
  | d :: ds, ρ, k, hs, h => by
    obtain ⟨ρ1, e1, ρ2, e2, h2⟩ := hs 0 d ρ rfl h
    obtain ⟨ρ', e3, h3⟩ := forL_inv I (ds := ds) (ρ := ρ2) (k + 1) (fun i d' ρ' e h' => by
      have := hs (i + 1) d' ρ' (by simpa using e) (by rw [Nat.add_comm i 1, ← Nat.add_assoc]; exact h')
      rw [Nat.add_comm i 1, ← Nat.add_assoc] at this
      exact this) h2
    refine ⟨ρ', ?_, by rw [List.length_cons, Nat.add_comm ds.length 1, ← Nat.add_assoc]; exact h3⟩
    simp only [forL, e1, e2]
    exact e3
/-- a loop over d1, d2, .. that ends by itself -/
theorem for_inv {lk : List Nat} {t : Tg} {b : Env → Out} {ds : List PyData} {ρ : Env} (I : Nat → Env → Prop) (h0 : I 0 ρ) (hs : ∀ (i : Nat) d ρ, ds[i]? = some d → I i ρ → ∃ ρ1, asgT lk t d ρ = some ρ1 ∧ ∃ ρ2, b ρ1 = .nx ρ2 ∧ I (i + 1) ρ2) : ∃ ρ', forL lk t b ds ρ = .nx ρ' ∧ I ds.length ρ' := by
  obtain ⟨ρ', e, h⟩ := forL_inv (lk := lk) (t := t) (b := b) I (ds := ds) (ρ := ρ) 0 (fun i d ρ e h => by
    rw [Nat.zero_add] at h ⊢
    exact hs i d ρ e h) h0
  exact ⟨ρ', e, by rwa [Nat.zero_add] at h⟩
theorem compL_inv {lk own : List Nat} {ρ0 : Env} {t : Tg} {c : Env → Rs Bool} {e : Env → Rs Rv} (I : Nat → List PyData → Env → Prop) : ∀ {ds acc : List PyData} {ρ : Env} (k : Nat), (∀ (i : Nat) d acc ρ, ds[i]? = some d → I (k + i) acc ρ → ∃ ρ1, asgT lk t d (wipeE ρ own) = some ρ1 ∧
    ((∃ ρ2, c ρ1 = .ok false ρ2 ∧ I (k + i + 1) acc (backE ρ0 ρ2 own)) ∨ ∃ ρ2 r ρ3 y ρ4, c ρ1 = .ok true ρ2 ∧ e ρ2 = .ok r ρ3 ∧ keepV (lk ++ own) r ρ3 = .ok y ρ4 ∧ lenOk (acc.length + 1) = true ∧ I (k + i + 1) (acc ++ [y]) (backE ρ0 ρ4 own))) → I k acc ρ →
    ∃ ys ρ', compL lk own ρ0 t c e ds acc ρ = .ok ys ρ' ∧ I (k + ds.length) ys ρ'
  | [], acc, ρ, k, _, h => ⟨acc, ρ, rfl, h⟩
  | d :: ds, acc, ρ, k, hs, h => by
    have tail : ∀ {acc' : List PyData} {ρ' : Env}, I (k + 1) acc' ρ' → ∃ ys ρ'', compL lk own ρ0 t c e ds acc' ρ' = .ok ys ρ'' ∧ I (k + (d :: ds).length) ys ρ'' := fun {acc' ρ'} h' => by
      obtain ⟨ys, ρ'', e3, h3⟩ := compL_inv I (ds := ds) (acc := acc') (ρ := ρ') (k + 1) (fun i d' a' r' e h'' => by
        have := hs (i + 1) d' a' r' (by simpa using e) (by rw [Nat.add_comm i 1, ← Nat.add_assoc]; exact h'')
        rw [Nat.add_comm i 1, ← Nat.add_assoc] at this
        exact this) h'
      exact ⟨ys, ρ'', e3, by rw [List.length_cons, Nat.add_comm ds.length 1, ← Nat.add_assoc]; exact h3⟩
    obtain ⟨ρ1, e1, h2⟩ := hs 0 d acc ρ rfl h
    rcases h2 with ⟨ρ2, e2, h2⟩ | ⟨ρ2, r, ρ3, y, ρ4, e2, e3, e4, e5, h2⟩
    · obtain ⟨ys, ρ'', e3, h3⟩ := tail h2
      refine ⟨ys, ρ'', ?_, h3⟩
      simp only [compL, e1, e2]
      exact e3
    · obtain ⟨ys, ρ'', e6, h3⟩ := tail h2
      refine ⟨ys, ρ'', ?_, h3⟩
      simp only [compL, e1, e2, e3, e4, e5, if_true]
      exact e6
/-- a comprehension that changes nothing -/
theorem compL_map {lk own : List Nat} {ρ0 ρ : Env} {t : Tg} {c : Env → Rs Bool} {e : Env → Rs Rv} (p : PyData → Bool) (f : PyData → PyData) : ∀ {ds acc : List PyData}, acc.length + ds.length ≤ 1000000 → (∀ d ∈ ds, ∃ ρ1, asgT lk t d (wipeE ρ own) = some ρ1 ∧ c ρ1 = .ok (p d) ρ1 ∧ (p d = true → ∃ r, e ρ1 = .ok r ρ1 ∧ keepV (lk ++ own) r ρ1 = .ok (f d) ρ1) ∧ backE ρ0 ρ1 own = ρ) →
    compL lk own ρ0 t c e ds acc ρ = .ok (acc ++ (ds.filter p).map f) ρ
  | [], acc, _, _ => by simp [compL]
  | d :: ds, acc, hl, h => by
    obtain ⟨ρ1, e1, e2, e3, e4⟩ := h d List.mem_cons_self
    have hl2 : acc.length + ds.length + 1 ≤ 1000000 := by rw [List.length_cons] at hl; omega
    cases hp : p d with
    | false =>
      rw [hp] at e2
      simp only [compL, e1, e2, e4]
      rw [compL_map p f (by omega) fun d' hd => h d' (List.mem_cons_of_mem _ hd), List.filter_cons_of_neg (by simp [hp])]
    | true =>
      rw [hp] at e2
      obtain ⟨r, e5, e6⟩ := e3 hp
      have e7 : lenOk (acc.length + 1) = true := decide_eq_true (by omega)
      simp only [compL, e1, e2, e5, e6, e7, if_true, e4]
      rw [compL_map p f (by simp; omega) fun d' hd => h d' (List.mem_cons_of_mem _ hd), List.filter_cons_of_pos (by simp [hp])]
      simp
/-! ### while -/
theorem whileF_mono {c : Env → Rs Bool} {b : Env → Out} : ∀ {n : Nat} {ρ : Env}, whileF c b n ρ ≠ .no → ∀ k, whileF c b (n + k) ρ = whileF c b n ρ
  | 0, ρ, h, _ => absurd rfl h
  | n + 1, ρ, h, k => by
    rw [Nat.add_right_comm]
    rw [whileF_succ] at h ⊢
    rw [whileF_succ]
    cases e : c ρ with
    | no => rfl
    | exc x d ρ1 => rfl
    | ok x ρ1 =>
      rw [e] at h
      simp only [Rs.out_ok] at h ⊢
      cases x with
      | false => rfl
      | true =>
        simp only [if_true] at h ⊢
        cases e2 : b ρ1 with
        | nx ρ2 => rw [e2] at h; exact whileF_mono h k
        | cnt ρ2 => rw [e2] at h; exact whileF_mono h k
        | brk ρ2 => rfl
        | no => rfl
        | exc => rfl
        | ret => rfl
theorem whileE_eq {c : Env → Rs Bool} {b : Env → Out} {n : Nat} {ρ : Env} (h : whileF c b n ρ ≠ .no) : whileE c b ρ = whileF c b n ρ := by
  have hx : ∃ n, whileF c b n ρ ≠ .no := ⟨n, h⟩
  unfold whileE
  rw [dif_pos hx]
  have h2 := Classical.choose_spec hx
  rw [← whileF_mono h2 n, ← whileF_mono h (Classical.choose hx), Nat.add_comm]
theorem while_step {c : Env → Rs Bool} {b : Env → Out} {ρ ρ1 ρ2 r : Env} (hc : c ρ = .ok true ρ1) (hb : b ρ1 = .nx ρ2) (h : whileE c b ρ2 = .nx r) : whileE c b ρ = .nx r := by
  have hn : ∃ n, whileF c b n ρ2 = .nx r := by
    unfold whileE at h
    split at h
    · exact ⟨_, h⟩
    · cases h
  obtain ⟨n, hn⟩ := hn
  have : whileF c b (n + 1) ρ = .nx r := by
    rw [whileF_succ, hc]
    simp only [Rs.out_ok, if_true, hb]
    exact hn
  rw [whileE_eq (n := n + 1) (by rw [this]; intro z; cases z), this]
theorem while_stop {c : Env → Rs Bool} {b : Env → Out} {ρ ρ1 : Env} (hc : c ρ = .ok false ρ1) : whileE c b ρ = .nx ρ1 := by
  have : whileF c b 1 ρ = .nx ρ1 := by rw [whileF_succ, hc]; rfl
  rw [whileE_eq (n := 1) (by rw [this]; intro z; cases z), this]
/-! ### lists -/
theorem ixD_nat {n i : Nat} (h : i < n) : ixD n (i : Int) = some i := by
  unfold ixD L2.ixN
  rw [if_pos (by omega), if_pos (by omega)]
  simp
theorem rngOk_nat {n : Nat} (h : n ≤ 1000000) : rngOk (n : Int) = true := by
  rw [rngOk_eq]
  simp only [Bool.and_eq_true, decide_eq_true_eq]
  omega
theorem rngD_nat (n : Nat) : rngD 0 (n : Int) = (List.range n).map fun i => PyData.int (i : Nat) := by
  unfold rngD
  simp
theorem rngD_at {n i : Nat} {d : PyData} (h : (rngD 0 (n : Int))[i]? = some d) : i < n ∧ d = .int i := by
  rw [rngD_nat, List.getElem?_map] at h
  by_cases hi : i < n
  · rw [List.getElem?_range hi] at h
    simp only [Option.map_some, Option.some.injEq] at h
    exact ⟨hi, h.symm⟩
  · rw [List.getElem?_eq_none (by simpa using hi)] at h
    cases h
end PD
set_option maxRecDepth 100000
set_option autoImplicit false
/-! the law's code, printed by gen.py -/
namespace LW
open PySem PySem.Spec PyProof.Rows L2 PD
def topS (i : Nat) : Stmt := PySem.Challenge.pw_tosstrees_k40_whole_texts_shown.main.body.getD i (.Pass ⟨0, 0, 0, 0⟩)
/-! joined -/
abbrev s0 : Stmt := topS 3
def n0 : List Str := ["signs", "sign"]
def p0 : List Str := ["signs"]
def c0_E1 : Ex := (.bi .str (.cons (.var 1) .nil))
def c0 : Sts := (.cons (.ret (.join (Str.ofString "") (.comp [1] c0_E1 (.nm 1) (.seq (.var 0)) .skip))) .nil)
/-! show_number -/
abbrev s1 : Stmt := topS 4
def n1 : List Str := ["number", "top", "bottom"]
def p1 : List Str := ["number"]
def c1 : Sts := (.cons (.asg (.tp [(.nm 1), (.nm 2)]) (.var 0)) (.cons (.ret (.ife (.cmp .eq (.var 2) (.lit (.int 1))) (.bi .str (.cons (.var 1) .nil)) (.bin .add (.bin .add (.bi .str (.cons (.var 1) .nil)) (.lit (.str (Str.ofString "/")))) (.bi .str (.cons (.var 2) .nil))))) .nil))
/-! show_shares -/
abbrev s2 : Stmt := topS 5
def n2 : List Str := ["shares", "share"]
def p2 : List Str := ["shares"]
def c2_E1 : Ex := (.callP 1 (.cons (.var 1) .nil))
def c2 : Sts := (.cons (.ret (.join (Str.ofString " ") (.comp [1] c2_E1 (.nm 1) (.seq (.var 0)) .skip))) .nil)
/-! show_figures -/
abbrev s3 : Stmt := topS 6
def n3 : List Str := ["told", "ahead", "again"]
def p3 : List Str := ["told"]
def c3 : Sts := (.cons (.asg (.tp [(.nm 1), (.nm 2)]) (.var 0)) (.cons (.ret (.bin .add (.bin .add (.bin .add (.callP 0 (.cons (.var 1) .nil)) (.lit (.str (Str.ofString "(")))) (.callP 0 (.cons (.var 2) .nil))) (.lit (.str (Str.ofString ")"))))) .nil))
/-! show_rows -/
abbrev s4 : Stmt := topS 7
def n4 : List Str := ["rows", "row", "many"]
def p4 : List Str := ["rows"]
def c4_E1 : Ex := (.bi .str (.cons (.var 2) .nil))
def c4_E2 : Ex := (.join (Str.ofString " ") (.comp [2] c4_E1 (.nm 2) (.seq (.var 1)) .skip))
def c4 : Sts := (.cons (.ret (.join (Str.ofString "; ") (.comp [1] c4_E2 (.nm 1) (.seq (.var 0)) .skip))) .nil)
/-! show_leaves -/
abbrev s5 : Stmt := topS 8
def n5 : List Str := ["leaves", "ahead", "again"]
def p5 : List Str := ["leaves"]
def c5 : Sts := (.cons (.asg (.tp [(.nm 1), (.nm 2)]) (.var 0)) (.cons (.ret (.bin .add (.bin .add (.ife (.cmp .gt (.bi .len (.cons (.var 1) .nil)) (.lit (.int 0))) (.callP 4 (.cons (.var 1) .nil)) (.glob (Str.ofString "NONE") (.str (Str.ofString "-")))) (.lit (.str (Str.ofString " | ")))) (.callP 4 (.cons (.var 2) .nil)))) .nil))
/-! show_place -/
abbrev s6 : Stmt := topS 9
def n6 : List Str := ["place"]
def p6 : List Str := ["place"]
def c6 : Sts := (.cons (.ret (.bin .add (.cdx (Str.ofString "SIGNS") [((Str.ofString "to"), (Str.ofString "s")), ((Str.ofString "is"), (Str.ofString "i"))] (.idx (.var 0) (.lit (.int 0)))) (.bi .str (.cons (.idx (.var 0) (.lit (.int 1))) .nil)))) .nil)
/-! show_machine -/
abbrev s7 : Stmt := topS 10
def n7 : List Str := ["machine", "lines", "n", "begin", "rows", "zero", "one"]
def p7 : List Str := ["machine"]
def c7_E1 : Ex := (.bin .add (.bin .add (.callP 6 (.cons (.var 5) .nil)) (.lit (.str (Str.ofString " ")))) (.callP 6 (.cons (.var 6) .nil)))
def c7 : Sts := (.cons (.asg (.tp [(.nm 2), (.nm 3), (.nm 4)]) (.var 0)) (.cons (.asg (.nm 1) (.comp [5, 6] c7_E1 (.tp [(.nm 5), (.nm 6)]) (.seq (.var 4)) .skip)) (.cons (.ret (.join (Str.ofString "\n") (.bin .add (.lst (.cons (.bin .add (.bin .add (.bin .add (.lit (.str (Str.ofString "machine "))) (.bi .str (.cons (.var 2) .nil))) (.lit (.str (Str.ofString " ")))) (.callP 6 (.cons (.var 3) .nil))) .nil)) (.var 1)))) .nil)))
/-! show_tosses -/
abbrev s8 : Stmt := topS 11
def n8 : List Str := ["tosses"]
def p8 : List Str := ["tosses"]
def c8 : Sts := (.cons (.ret (.ife (.cmp .gt (.bi .len (.cons (.var 0) .nil)) (.lit (.int 0))) (.callP 0 (.cons (.var 0) .nil)) (.glob (Str.ofString "NONE") (.str (Str.ofString "-"))))) .nil)
/-! show_table -/
abbrev s9 : Stmt := topS 12
def n9 : List Str := ["table", "i", "bar", "j"]
def p9 : List Str := ["table"]
def c9_E1 : Ex := (.bin .add (.bin .add (.bin .add (.bin .add (.bi .str (.cons (.var 1) .nil)) (.lit (.str (Str.ofString " ")))) (.callP 1 (.cons (.var 2) .nil))) (.lit (.str (Str.ofString " ")))) (.bi .str (.cons (.var 3) .nil)))
def c9 : Sts := (.cons (.ret (.join (Str.ofString ", ") (.comp [1, 2, 3] c9_E1 (.tp [(.nm 1), (.nm 2), (.nm 3)]) (.seq (.var 0)) .skip))) .nil)
/-! _law_well -/
abbrev s10 : Stmt := topS 14
def n10 : List Str := ["script", "place", "cell"]
def p10 : List Str := ["script", "place"]
def c10 : Sts := (.cons (.asg (.nm 2) (.ife (.cmp .lt (.var 1) (.bi .len (.cons (.var 0) .nil))) (.bi .int (.cons (.idx (.var 0) (.var 1)) .nil)) (.bin .add (.bin .mul (.var 1) (.lit (.int 104723))) (.bin .mul (.bi .len (.cons (.var 0) .nil)) (.lit (.int 15485863)))))) (.cons (.ret (.lst (.cons (.bi .max (.cons (.lit (.int 0)) (.cons (.bin .sub (.bi .abs (.cons (.var 2) .nil)) (.bin .pow (.lit (.int 10)) (.lit (.int 18)))) .nil))) (.cons (.bin .mod (.bi .int (.cons (.bin .add (.bin .add (.bin .mul (.var 2) (.lit (.int 86028157))) (.bin .mul (.var 1) (.lit (.int 179424691)))) (.lit (.int 7919))) .nil)) (.bin .add (.bin .pow (.lit (.int 10)) (.lit (.int 25))) (.lit (.int 13)))) (.cons (.lit (.int 0)) .nil))))) .nil))
/-! _law_draw -/
abbrev s11 : Stmt := topS 15
def n11 : List Str := ["well", "many", "mixed", "found"]
def p11 : List Str := ["well", "many"]
def c11 : Sts := (.cons (.ife (.cmp .gt (.idx (.var 0) (.lit (.int 0))) (.lit (.int 0))) (.cons (.asg (.nm 3) (.bin .mod (.bi .int (.cons (.idx (.var 0) (.lit (.int 0))) .nil)) (.var 1))) (.cons (.setI 0 (.lit (.int 0)) (.bin .fdiv (.idx (.var 0) (.lit (.int 0))) (.var 1))) (.cons (.ret (.var 3)) .nil))) .nil) (.cons (.setI 0 (.lit (.int 2)) (.bin .add (.idx (.var 0) (.lit (.int 2))) (.lit (.int 1)))) (.cons (.asg (.nm 2) (.bin .mod (.bi .int (.cons (.bin .pow (.bin .add (.idx (.var 0) (.lit (.int 1))) (.bin .mul (.lit (.int 49979693)) (.idx (.var 0) (.lit (.int 2))))) (.lit (.int 3))) .nil)) (.bin .add (.bin .pow (.lit (.int 10)) (.lit (.int 29))) (.lit (.int 319))))) (.cons (.asg (.nm 2) (.bin .mod (.bi .int (.cons (.bin .pow (.bin .add (.var 2) (.lit (.int 2038074751))) (.lit (.int 3))) .nil)) (.bin .add (.bin .pow (.lit (.int 10)) (.lit (.int 33))) (.lit (.int 33))))) (.cons (.ret (.bin .mod (.bi .int (.cons (.bin .fdiv (.var 2) (.bin .pow (.lit (.int 10)) (.lit (.int 6)))) .nil)) (.var 1))) .nil)))))
/-! _law_same -/
abbrev s12 : Stmt := topS 16
def n12 : List Str := ["told", "due", "k"]
def p12 : List Str := ["told", "due"]
def c12_E1 : Ex := (.callP 12 (.cons (.idx (.var 0) (.var 2)) (.cons (.idx (.var 1) (.var 2)) .nil)))
def c12 : Sts := (.cons (.ife (.cmp .isN (.var 1) (.lit .none)) (.cons (.ret (.cmp .isN (.var 0) (.lit .none))) .nil) .nil) (.cons (.ife (.isi (.var 1) ["bool"]) (.cons (.ret (.ife (.var 1) (.isB false (.var 0) true) (.isB false (.var 0) false))) .nil) .nil) (.cons (.ife (.isi (.var 1) ["int"]) (.cons (.ret (.and (.isi (.var 0) ["int"]) (.and (.not (.isi (.var 0) ["bool"])) (.cmp .eq (.var 0) (.var 1))))) .nil) .nil) (.cons (.ife (.isi (.var 1) ["str"]) (.cons (.ret (.and (.isi (.var 0) ["str"]) (.cmp .eq (.var 0) (.var 1)))) .nil) .nil) (.cons (.ife (.or (.cmp .ne (.isi (.var 1) ["tuple"]) (.isi (.var 0) ["tuple"])) (.cmp .ne (.isi (.var 1) ["list"]) (.isi (.var 0) ["list"]))) (.cons (.ret (.lit (.bool false))) .nil) .nil) (.cons (.ret (.and (.cmp .eq (.bi .len (.cons (.var 0) .nil)) (.bi .len (.cons (.var 1) .nil))) (.bi .all (.cons (.comp [2] c12_E1 (.nm 2) (.rng1 (.bi .len (.cons (.var 1) .nil))) .skip) .nil)))) .nil))))))
/-! _law_power -/
abbrev s13 : Stmt := topS 17
def n13 : List Str := ["b", "many", "found", "turn"]
def p13 : List Str := ["b", "many"]
def c13_L1 : Sts := (.cons (.asg (.nm 2) (.bin .mul (.var 2) (.var 0))) .nil)
def c13 : Sts := (.cons (.asg (.nm 2) (.lit (.int 1))) (.cons (.for (.nm 3) (.rng1 (.var 1)) c13_L1) (.cons (.ret (.var 2)) .nil)))
/-! _law_low -/
abbrev s14 : Stmt := topS 18
def n14 : List Str := ["top", "bottom", "one", "two"]
def p14 : List Str := ["top", "bottom"]
def c14_C1 : Ex := (.cmp .ne (.var 3) (.lit (.int 0)))
def c14_L1 : Sts := (.cons (.par [2, 3] (.cons (.var 3) (.cons (.bin .mod (.bi .int (.cons (.var 2) .nil)) (.var 3)) .nil))) .nil)
def c14 : Sts := (.cons (.par [2, 3] (.cons (.var 0) (.cons (.var 1) .nil))) (.cons (.whl c14_C1 c14_L1) (.cons (.ret (.tup (.cons (.bin .fdiv (.var 0) (.var 2)) (.cons (.bin .fdiv (.var 1) (.var 2)) .nil)))) .nil)))
/-! _law_integer -/
abbrev s15 : Stmt := topS 19
def n15 : List Str := ["well", "digits", "kind"]
def p15 : List Str := ["well", "digits"]
def c15 : Sts := (.cons (.asg (.nm 2) (.callP 11 (.cons (.var 0) (.cons (.lit (.int 5)) .nil)))) (.cons (.ife (.cmp .lt (.var 2) (.lit (.int 3))) (.cons (.ret (.callP 11 (.cons (.var 0) (.cons (.idx (.lst (.cons (.lit (.int 2)) (.cons (.lit (.int 7)) (.cons (.lit (.int 60)) .nil)))) (.var 2)) .nil)))) .nil) .nil) (.cons (.ife (.cmp .eq (.var 2) (.lit (.int 3))) (.cons (.ret (.bin .sub (.bin .sub (.callP 13 (.cons (.lit (.int 10)) (.cons (.var 1) .nil))) (.lit (.int 1))) (.callP 11 (.cons (.var 0) (.cons (.lit (.int 9)) .nil))))) .nil) .nil) (.cons (.ret (.callP 11 (.cons (.var 0) (.cons (.callP 13 (.cons (.lit (.int 10)) (.cons (.bin .add (.lit (.int 1)) (.callP 11 (.cons (.var 0) (.cons (.var 1) .nil)))) .nil))) .nil)))) .nil))))
/-! _law_number -/
abbrev s16 : Stmt := topS 20
def n16 : List Str := ["well", "digits", "bottom"]
def p16 : List Str := ["well", "digits"]
def c16 : Sts := (.cons (.asg (.nm 2) (.idx (.lst (.cons (.lit (.int 1)) (.cons (.bin .add (.lit (.int 1)) (.callP 11 (.cons (.var 0) (.cons (.lit (.int 60)) .nil)))) (.cons (.bi .max (.cons (.lit (.int 1)) (.cons (.callP 15 (.cons (.var 0) (.cons (.var 1) .nil))) .nil))) .nil)))) (.callP 11 (.cons (.var 0) (.cons (.lit (.int 3)) .nil))))) (.cons (.ret (.callP 14 (.cons (.callP 15 (.cons (.var 0) (.cons (.var 1) .nil))) (.cons (.var 2) .nil)))) .nil))
/-! _law_shares -/
abbrev s17 : Stmt := topS 21
def n17 : List Str := ["well", "many", "digits", "whole", "turn", "left", "found", "room", "weight"]
def p17 : List Str := ["well", "many", "digits"]
def c17_L1 : Sts := (.cons (.asg (.nm 7) (.bin .sub (.var 5) (.bin .sub (.bin .sub (.var 1) (.lit (.int 1))) (.var 4)))) (.cons (.asg (.nm 8) (.bin .add (.lit (.int 1)) (.callP 11 (.cons (.var 0) (.cons (.idx (.lst (.cons (.var 7) (.cons (.bi .min (.cons (.var 7) (.cons (.lit (.int 4)) .nil))) .nil))) (.callP 11 (.cons (.var 0) (.cons (.lit (.int 2)) .nil)))) .nil))))) (.cons (.app 6 (.callP 14 (.cons (.var 8) (.cons (.var 3) .nil)))) (.cons (.asg (.nm 5) (.bin .sub (.var 5) (.var 8))) .nil))))
def c17 : Sts := (.cons (.asg (.nm 3) (.bin .add (.var 1) (.idx (.lst (.cons (.callP 11 (.cons (.var 0) (.cons (.lit (.int 60)) .nil))) (.cons (.callP 15 (.cons (.var 0) (.cons (.var 2) .nil))) .nil))) (.callP 11 (.cons (.var 0) (.cons (.lit (.int 2)) .nil)))))) (.cons (.par [5, 6] (.cons (.var 3) (.cons (.lst .nil) .nil))) (.cons (.for (.nm 4) (.rng1 (.bin .sub (.var 1) (.lit (.int 1)))) c17_L1) (.cons (.ret (.bi .tuple (.cons (.bin .add (.var 6) (.lst (.cons (.callP 14 (.cons (.var 5) (.cons (.var 3) .nil))) .nil))) .nil))) .nil))))
/-! _law_signs -/
abbrev s18 : Stmt := topS 22
def n18 : List Str := ["well", "many", "alike", "turn"]
def p18 : List Str := ["well", "many"]
def c18_E1 : Ex := (.ife (.cmp .gt (.var 2) (.lit (.int 1))) (.callP 11 (.cons (.var 0) (.cons (.lit (.int 2)) .nil))) (.var 2))
def c18 : Sts := (.cons (.asg (.nm 2) (.callP 11 (.cons (.var 0) (.cons (.lit (.int 4)) .nil)))) (.cons (.ret (.bi .tuple (.cons (.comp [3] c18_E1 (.nm 3) (.rng1 (.var 1)) .skip) .nil))) .nil))
/-! _law_rows -/
abbrev s19 : Stmt := topS 23
def n19 : List Str := ["well", "many", "wide", "digits", "row", "turn"]
def p19 : List Str := ["well", "many", "wide", "digits"]
def c19_E1 : Ex := (.callP 15 (.cons (.var 0) (.cons (.var 3) .nil)))
def c19_E2 : Ex := (.bi .tuple (.cons (.comp [5] c19_E1 (.nm 5) (.rng1 (.var 2)) .skip) .nil))
def c19 : Sts := (.cons (.ret (.bi .tuple (.cons (.comp [4] c19_E2 (.nm 4) (.rng1 (.var 1)) .skip) .nil))) .nil)
/-! _law_place -/
abbrev s20 : Stmt := topS 24
def n20 : List Str := ["well", "things", "states"]
def p20 : List Str := ["well", "things", "states"]
def c20 : Sts := (.cons (.ife (.or (.cmp .eq (.var 2) (.lit (.int 0))) (.cmp .eq (.callP 11 (.cons (.var 0) (.cons (.lit (.int 2)) .nil))) (.lit (.int 0)))) (.cons (.ret (.tup (.cons (.lit (.str (Str.ofString "is"))) (.cons (.callP 11 (.cons (.var 0) (.cons (.var 1) .nil))) .nil)))) .nil) .nil) (.cons (.ret (.tup (.cons (.lit (.str (Str.ofString "to"))) (.cons (.callP 11 (.cons (.var 0) (.cons (.var 2) .nil))) .nil)))) .nil))
/-! _law_machine -/
abbrev s21 : Stmt := topS 25
def n21 : List Str := ["well", "most", "more", "rows", "things", "states", "row"]
def p21 : List Str := ["well", "most", "more"]
def c21_E1 : Ex := (.tup (.cons (.callP 20 (.cons (.var 0) (.cons (.var 4) (.cons (.var 5) .nil)))) (.cons (.callP 20 (.cons (.var 0) (.cons (.var 4) (.cons (.var 5) .nil)))) .nil)))
def c21 : Sts := (.cons (.parT [4, 5] (.cons (.bin .add (.lit (.int 1)) (.callP 11 (.cons (.var 0) (.cons (.var 1) .nil)))) (.cons (.callP 11 (.cons (.var 0) (.cons (.idx (.lst (.cons (.lit (.int 2)) (.cons (.lit (.int 5)) (.cons (.bin .add (.var 1) (.lit (.int 1))) (.cons (.bin .add (.var 2) (.lit (.int 1))) .nil))))) (.callP 11 (.cons (.var 0) (.cons (.lit (.int 4)) .nil)))) .nil))) .nil))) (.cons (.asg (.nm 3) (.comp [6] c21_E1 (.nm 6) (.rng1 (.var 5)) .skip)) (.cons (.ret (.tup (.cons (.var 4) (.cons (.callP 20 (.cons (.var 0) (.cons (.var 4) (.cons (.var 5) .nil)))) (.cons (.bi .tuple (.cons (.var 3) .nil)) .nil))))) .nil)))
/-! _law_cell -/
abbrev s22 : Stmt := topS 26
def n22 : List Str := ["well", "digits", "bottom", "bar", "j", "i", "far"]
def p22 : List Str := ["well", "digits"]
def c22 : Sts := (.cons (.par [5, 6] (.cons (.callP 15 (.cons (.var 0) (.cons (.var 1) .nil))) (.cons (.idx (.lst (.cons (.lit (.int 1)) (.cons (.lit (.int 12)) (.cons (.bin .sub (.callP 13 (.cons (.lit (.int 10)) (.cons (.var 1) .nil))) (.lit (.int 1))) .nil)))) (.callP 11 (.cons (.var 0) (.cons (.lit (.int 3)) .nil)))) .nil))) (.cons (.asg (.nm 2) (.bin .add (.lit (.int 1)) (.callP 11 (.cons (.var 0) (.cons (.var 6) .nil))))) (.cons (.asg (.nm 3) (.callP 14 (.cons (.bin .add (.lit (.int 1)) (.callP 11 (.cons (.var 0) (.cons (.var 2) .nil)))) (.cons (.var 2) .nil)))) (.cons (.ife (.cmp .eq (.var 3) (.tup (.cons (.lit (.int 1)) (.cons (.lit (.int 1)) .nil)))) (.cons (.ret (.tup (.cons (.var 5) (.cons (.var 3) (.cons (.var 5) .nil))))) .nil) .nil) (.cons (.asg (.nm 4) (.callP 15 (.cons (.var 0) (.cons (.var 1) .nil)))) (.cons (.ret (.tup (.cons (.var 5) (.cons (.var 3) (.cons (.ife (.cmp .ne (.var 4) (.var 5)) (.var 4) (.bin .add (.bi .max (.cons (.lit (.int 0)) (.cons (.bin .sub (.var 5) (.lit (.int 1))) .nil))) (.bin .mul (.lit (.int 2)) (.bi .int (.cons (.cmp .eq (.var 5) (.lit (.int 0))) .nil))))) .nil))))) .nil))))))
/-! _law_said_number -/
abbrev s23 : Stmt := topS 27
def n23 : List Str := ["number"]
def p23 : List Str := ["number"]
def c23 : Sts := (.cons (.ret (.ife (.cmp .eq (.idx (.var 0) (.lit (.int 1))) (.lit (.int 1))) (.bi .str (.cons (.idx (.var 0) (.lit (.int 0))) .nil)) (.bin .add (.bin .add (.bi .str (.cons (.idx (.var 0) (.lit (.int 0))) .nil)) (.lit (.str (Str.ofString "/")))) (.bi .str (.cons (.idx (.var 0) (.lit (.int 1))) .nil))))) .nil)
/-! _law_said_all -/
abbrev s24 : Stmt := topS 28
def n24 : List Str := ["numbers", "number"]
def p24 : List Str := ["numbers"]
def c24_E1 : Ex := (.callP 23 (.cons (.var 1) .nil))
def c24 : Sts := (.cons (.ret (.join (Str.ofString " ") (.comp [1] c24_E1 (.nm 1) (.seq (.var 0)) .skip))) .nil)
/-! _law_said_signs -/
abbrev s25 : Stmt := topS 29
def n25 : List Str := ["signs", "sign"]
def p25 : List Str := ["signs"]
def c25_E1 : Ex := (.bi .str (.cons (.var 1) .nil))
def c25 : Sts := (.cons (.ret (.join (Str.ofString "") (.comp [1] c25_E1 (.nm 1) (.seq (.var 0)) .skip))) .nil)
/-! _law_said_rows -/
abbrev s26 : Stmt := topS 30
def n26 : List Str := ["rows", "row", "one"]
def p26 : List Str := ["rows"]
def c26_E1 : Ex := (.bi .str (.cons (.var 2) .nil))
def c26_E2 : Ex := (.join (Str.ofString " ") (.comp [2] c26_E1 (.nm 2) (.seq (.var 1)) .skip))
def c26 : Sts := (.cons (.ret (.ife (.cmp .ne (.var 0) (.tup .nil)) (.join (Str.ofString "; ") (.comp [1] c26_E2 (.nm 1) (.seq (.var 0)) .skip)) (.lit (.str (Str.ofString "-"))))) .nil)
/-! _law_said_place -/
abbrev s27 : Stmt := topS 31
def n27 : List Str := ["place"]
def p27 : List Str := ["place"]
def c27 : Sts := (.cons (.ret (.bin .add (.idx (.dsp [((Str.ofString "to"), (Str.ofString "s")), ((Str.ofString "is"), (Str.ofString "i"))]) (.idx (.var 0) (.lit (.int 0)))) (.bi .str (.cons (.idx (.var 0) (.lit (.int 1))) .nil)))) .nil)
/-! _law_said_machine -/
abbrev s28 : Stmt := topS 32
def n28 : List Str := ["machine", "lines", "zero", "one"]
def p28 : List Str := ["machine"]
def c28_L1 : Sts := (.cons (.app 1 (.bin .add (.bin .add (.callP 27 (.cons (.var 2) .nil)) (.lit (.str (Str.ofString " ")))) (.callP 27 (.cons (.var 3) .nil)))) .nil)
def c28 : Sts := (.cons (.asg (.nm 1) (.lst (.cons (.bin .add (.bin .add (.bin .add (.lit (.str (Str.ofString "machine "))) (.bi .str (.cons (.idx (.var 0) (.lit (.int 0))) .nil))) (.lit (.str (Str.ofString " ")))) (.callP 27 (.cons (.idx (.var 0) (.lit (.int 1))) .nil))) .nil))) (.cons (.for (.tp [(.nm 2), (.nm 3)]) (.seq (.idx (.var 0) (.lit (.int 2)))) c28_L1) (.cons (.ret (.join (Str.ofString "\n") (.var 1))) .nil)))
/-! _law_said_table -/
abbrev s29 : Stmt := topS 33
def n29 : List Str := ["table", "i", "bar", "j"]
def p29 : List Str := ["table"]
def c29_E1 : Ex := (.bin .add (.bin .add (.bin .add (.bin .add (.bi .str (.cons (.var 1) .nil)) (.lit (.str (Str.ofString " ")))) (.callP 23 (.cons (.var 2) .nil))) (.lit (.str (Str.ofString " ")))) (.bi .str (.cons (.var 3) .nil)))
def c29 : Sts := (.cons (.ret (.join (Str.ofString ", ") (.comp [1, 2, 3] c29_E1 (.tp [(.nm 1), (.nm 2), (.nm 3)]) (.seq (.var 0)) .skip))) .nil)
/-! _law_door -/
abbrev s30 : Stmt := topS 34
def n30 : List Str := ["well", "door", "digits", "most", "many", "thing", "ahead", "again", "far", "figures", "first", "turn"]
def p30 : List Str := ["well", "door", "digits", "most"]
def c30_E1 : Ex := (.callP 22 (.cons (.var 0) (.cons (.idx (.lst (.cons (.lit (.int 1)) (.cons (.var 2) .nil))) (.callP 11 (.cons (.var 0) (.cons (.lit (.int 2)) .nil)))) .nil)))
def c30 : Sts := (.cons (.asg (.nm 4) (.bin .add (.lit (.int 1)) (.idx (.lst (.cons (.lit (.int 0)) (.cons (.lit (.int 1)) (.cons (.callP 11 (.cons (.var 0) (.cons (.lit (.int 6)) .nil))) (.cons (.callP 11 (.cons (.var 0) (.cons (.var 3) .nil))) (.cons (.bin .sub (.var 3) (.lit (.int 1))) .nil)))))) (.callP 11 (.cons (.var 0) (.cons (.lit (.int 5)) .nil)))))) (.cons (.ife (.cmp .eq (.var 1) (.lit (.int 0))) (.cons (.asg (.nm 5) (.callP 16 (.cons (.var 0) (.cons (.var 2) .nil)))) (.cons (.ret (.tup (.cons (.var 5) (.cons (.callP 23 (.cons (.var 5) .nil)) .nil)))) .nil)) .nil) (.cons (.ife (.cmp .eq (.var 1) (.lit (.int 1))) (.cons (.asg (.nm 5) (.callP 17 (.cons (.var 0) (.cons (.var 4) (.cons (.bin .sub (.var 2) (.lit (.int 1))) .nil))))) (.cons (.ret (.tup (.cons (.var 5) (.cons (.callP 24 (.cons (.var 5) .nil)) .nil)))) .nil)) .nil) (.cons (.ife (.cmp .eq (.var 1) (.lit (.int 2))) (.cons (.asg (.nm 6) (.callP 11 (.cons (.var 0) (.cons (.idx (.lst (.cons (.lit (.int 2)) (.cons (.lit (.int 9)) (.cons (.lit (.int 100)) .nil)))) (.callP 11 (.cons (.var 0) (.cons (.lit (.int 3)) .nil)))) .nil)))) (.cons (.asg (.nm 7) (.bin .add (.lit (.int 1)) (.callP 11 (.cons (.var 0) (.cons (.idx (.lst (.cons (.lit (.int 1)) (.cons (.lit (.int 9)) (.cons (.bin .sub (.lit (.int 200)) (.var 6)) .nil)))) (.callP 11 (.cons (.var 0) (.cons (.lit (.int 3)) .nil)))) .nil))))) (.cons (.asg (.nm 5) (.tup (.cons (.callP 18 (.cons (.var 0) (.cons (.var 6) .nil))) (.cons (.callP 18 (.cons (.var 0) (.cons (.var 7) .nil))) .nil)))) (.cons (.ret (.tup (.cons (.var 5) (.cons (.bin .add (.bin .add (.bin .add (.callP 25 (.cons (.idx (.var 5) (.lit (.int 0))) .nil)) (.lit (.str (Str.ofString "(")))) (.callP 25 (.cons (.idx (.var 5) (.lit (.int 1))) .nil))) (.lit (.str (Str.ofString ")")))) .nil)))) .nil)))) .nil) (.cons (.ife (.cmp .eq (.var 1) (.lit (.int 3))) (.cons (.par [9, 10] (.cons (.idx (.lst (.cons (.lit (.int 1)) (.cons (.var 2) .nil))) (.callP 11 (.cons (.var 0) (.cons (.lit (.int 2)) .nil)))) (.cons (.callP 11 (.cons (.var 0) (.cons (.idx (.lst (.cons (.lit (.int 2)) (.cons (.lit (.int 5)) (.cons (.lit (.int 51)) .nil)))) (.callP 11 (.cons (.var 0) (.cons (.lit (.int 3)) .nil)))) .nil))) .nil))) (.cons (.asg (.nm 6) (.callP 19 (.cons (.var 0) (.cons (.var 10) (.cons (.var 4) (.cons (.var 9) .nil)))))) (.cons (.asg (.nm 5) (.tup (.cons (.var 6) (.cons (.callP 19 (.cons (.var 0) (.cons (.bin .add (.lit (.int 1)) (.callP 11 (.cons (.var 0) (.cons (.idx (.lst (.cons (.lit (.int 1)) (.cons (.lit (.int 4)) (.cons (.lit (.int 50)) .nil)))) (.callP 11 (.cons (.var 0) (.cons (.lit (.int 3)) .nil)))) .nil)))) (.cons (.var 4) (.cons (.var 9) .nil))))) .nil)))) (.cons (.ret (.tup (.cons (.var 5) (.cons (.bin .add (.bin .add (.callP 26 (.cons (.idx (.var 5) (.lit (.int 0))) .nil)) (.lit (.str (Str.ofString " | ")))) (.callP 26 (.cons (.idx (.var 5) (.lit (.int 1))) .nil))) .nil)))) .nil)))) .nil) (.cons (.ife (.cmp .eq (.var 1) (.lit (.int 4))) (.cons (.asg (.nm 5) (.callP 18 (.cons (.var 0) (.cons (.callP 11 (.cons (.var 0) (.cons (.idx (.lst (.cons (.lit (.int 2)) (.cons (.lit (.int 9)) (.cons (.lit (.int 301)) .nil)))) (.callP 11 (.cons (.var 0) (.cons (.lit (.int 3)) .nil)))) .nil))) .nil)))) (.cons (.ret (.tup (.cons (.var 5) (.cons (.ife (.cmp .ne (.var 5) (.tup .nil)) (.callP 25 (.cons (.var 5) .nil)) (.lit (.str (Str.ofString "-")))) .nil)))) .nil)) .nil) (.cons (.ife (.cmp .eq (.var 1) (.lit (.int 5))) (.cons (.asg (.nm 8) (.idx (.lst (.cons (.lit (.int 1)) (.cons (.lit (.int 3)) .nil))) (.callP 11 (.cons (.var 0) (.cons (.lit (.int 2)) .nil))))) (.cons (.asg (.nm 5) (.bi .tuple (.cons (.comp [11] c30_E1 (.nm 11) (.rng1 (.bi .min (.cons (.lit (.int 60)) (.cons (.bin .mul (.var 4) (.var 8)) .nil)))) .skip) .nil))) (.cons (.ret (.tup (.cons (.var 5) (.cons (.callP 29 (.cons (.var 5) .nil)) .nil)))) .nil))) .nil) (.cons (.asg (.nm 5) (.callP 21 (.cons (.var 0) (.cons (.var 3) (.cons (.lit (.int 180)) .nil))))) (.cons (.ret (.tup (.cons (.var 5) (.cons (.callP 28 (.cons (.var 5) .nil)) .nil)))) .nil)))))))))
/-! _law_shown -/
abbrev s31 : Stmt := topS 35
def n31 : List Str := ["door", "thing", "named"]
def p31 : List Str := ["door", "thing", "named"]
def c31 : Sts := (.cons (.ife (.cmp .eq (.var 0) (.lit (.int 0))) (.cons (.ret (.ife (.var 2) (.call 1 [0] .nil (.cons (.var 1) .nil)) (.callP 1 (.cons (.var 1) .nil)))) .nil) .nil) (.cons (.ife (.cmp .eq (.var 0) (.lit (.int 1))) (.cons (.ret (.ife (.var 2) (.call 2 [0] .nil (.cons (.var 1) .nil)) (.callP 2 (.cons (.var 1) .nil)))) .nil) .nil) (.cons (.ife (.cmp .eq (.var 0) (.lit (.int 2))) (.cons (.ret (.ife (.var 2) (.call 3 [0] .nil (.cons (.var 1) .nil)) (.callP 3 (.cons (.var 1) .nil)))) .nil) .nil) (.cons (.ife (.cmp .eq (.var 0) (.lit (.int 3))) (.cons (.ret (.ife (.var 2) (.call 5 [0] .nil (.cons (.var 1) .nil)) (.callP 5 (.cons (.var 1) .nil)))) .nil) .nil) (.cons (.ife (.cmp .eq (.var 0) (.lit (.int 4))) (.cons (.ret (.ife (.var 2) (.call 8 [0] .nil (.cons (.var 1) .nil)) (.callP 8 (.cons (.var 1) .nil)))) .nil) .nil) (.cons (.ife (.cmp .eq (.var 0) (.lit (.int 5))) (.cons (.ret (.ife (.var 2) (.call 9 [0] .nil (.cons (.var 1) .nil)) (.callP 9 (.cons (.var 1) .nil)))) .nil) .nil) (.cons (.ret (.ife (.var 2) (.call 7 [0] .nil (.cons (.var 1) .nil)) (.callP 7 (.cons (.var 1) .nil)))) .nil)))))))
/-! law -/
abbrev s32 : Stmt := topS 36
def n32 : List Str := ["script", "rows", "place", "well", "door", "thing", "said"]
def p32 : List Str := ["script"]
def c32_L1 : Sts := (.cons (.ife (.not (.callP 12 (.cons (.callP 31 (.cons (.var 4) (.cons (.var 5) (.cons (.cmp .lt (.bi .len (.cons (.var 6) .nil)) (.lit (.int 9))) .nil)))) (.cons (.var 6) .nil)))) (.cons (.ret (.lit (.bool false))) .nil) .nil) .nil)
def c32_L2 : Sts := (.cons (.asg (.tp [(.nm 5), (.nm 6)]) (.callP 30 (.cons (.var 3) (.cons (.var 4) (.cons (.idx (.lst (.cons (.lit (.int 30)) (.cons (.lit (.int 30)) (.cons (.lit (.int 60)) .nil)))) (.callP 11 (.cons (.var 3) (.cons (.lit (.int 3)) .nil)))) (.cons (.lit (.int 40)) .nil)))))) (.cons (.ife (.and (.cmp .eq (.var 4) (.lit (.int 0))) (.and (.cmp .gt (.idx (.var 5) (.lit (.int 0))) (.lit (.int 0))) (.cmp .eq (.callP 11 (.cons (.var 3) (.cons (.lit (.int 3)) .nil))) (.lit (.int 0))))) (.cons (.par [5, 6] (.cons (.tup (.cons (.bin .sub (.lit (.int 0)) (.idx (.var 5) (.lit (.int 0)))) (.cons (.idx (.var 5) (.lit (.int 1))) .nil))) (.cons (.bin .add (.lit (.str (Str.ofString "-"))) (.var 6)) .nil))) .nil) .nil) (.cons (.ife (.not (.callP 12 (.cons (.callP 31 (.cons (.var 4) (.cons (.var 5) (.cons (.cmp .eq (.callP 11 (.cons (.var 3) (.cons (.lit (.int 2)) .nil))) (.lit (.int 0))) .nil)))) (.cons (.var 6) .nil)))) (.cons (.ret (.lit (.bool false))) .nil) .nil) (.cons (.app 1 (.tup (.cons (.var 4) (.cons (.var 5) (.cons (.var 6) .nil))))) .nil))))
def c32_L3 : Sts := (.cons (.asg (.nm 3) (.callP 10 (.cons (.var 0) (.cons (.var 2) .nil)))) (.cons (.for (.nm 4) (.rng1 (.lit (.int 7))) c32_L2) .nil))
def c32 : Sts := (.cons (.asg (.nm 1) (.lst .nil)) (.cons (.for (.nm 2) (.rng1 (.bi .max (.cons (.lit (.int 1)) (.cons (.bi .min (.cons (.lit (.int 6)) (.cons (.bi .len (.cons (.var 0) .nil)) .nil))) .nil)))) c32_L3) (.cons (.for (.tp [(.nm 4), (.nm 5), (.nm 6)]) (.seq (.rev (.var 1))) c32_L1) (.cons (.ret (.lit (.bool true))) .nil))))
def T : Prog := [⟨[false], 2, c0⟩, ⟨[false], 3, c1⟩, ⟨[false], 2, c2⟩, ⟨[false], 3, c3⟩, ⟨[false], 3, c4⟩, ⟨[false], 3, c5⟩, ⟨[false], 1, c6⟩, ⟨[false], 7, c7⟩, ⟨[false], 1, c8⟩, ⟨[false], 4, c9⟩, ⟨[false, false], 3, c10⟩, ⟨[true, false], 4, c11⟩, ⟨[false, false], 3, c12⟩, ⟨[false, false], 4, c13⟩, ⟨[false, false], 4, c14⟩, ⟨[true, false], 3, c15⟩, ⟨[true, false], 3, c16⟩, ⟨[true, false, false], 9, c17⟩, ⟨[true, false], 4, c18⟩, ⟨[true, false, false, false], 6, c19⟩, ⟨[true, false, false], 3, c20⟩, ⟨[true, false, false], 7, c21⟩, ⟨[true, false], 7, c22⟩, ⟨[false], 1, c23⟩, ⟨[false], 2, c24⟩, ⟨[false], 2, c25⟩, ⟨[false], 3, c26⟩, ⟨[false], 1, c27⟩, ⟨[false], 4, c28⟩, ⟨[false], 4, c29⟩, ⟨[true, false, false, false], 12, c30⟩, ⟨[false, false, false], 3, c31⟩, ⟨[false], 7, c32⟩]
def G : GT := [(Str.ofString "joined", GK.fn 0), (Str.ofString "show_number", GK.fn 1), (Str.ofString "show_shares", GK.fn 2), (Str.ofString "show_figures", GK.fn 3), (Str.ofString "show_rows", GK.fn 4), (Str.ofString "show_leaves", GK.fn 5), (Str.ofString "show_place", GK.fn 6), (Str.ofString "show_machine", GK.fn 7), (Str.ofString "show_tosses", GK.fn 8), (Str.ofString "show_table", GK.fn 9), (Str.ofString "_law_well", GK.fn 10), (Str.ofString "_law_draw", GK.fn 11), (Str.ofString "_law_same", GK.fn 12), (Str.ofString "_law_power", GK.fn 13), (Str.ofString "_law_low", GK.fn 14), (Str.ofString "_law_integer", GK.fn 15), (Str.ofString "_law_number", GK.fn 16), (Str.ofString "_law_shares", GK.fn 17), (Str.ofString "_law_signs", GK.fn 18), (Str.ofString "_law_rows", GK.fn 19), (Str.ofString "_law_place", GK.fn 20), (Str.ofString "_law_machine", GK.fn 21), (Str.ofString "_law_cell", GK.fn 22), (Str.ofString "_law_said_number", GK.fn 23), (Str.ofString "_law_said_all", GK.fn 24), (Str.ofString "_law_said_signs", GK.fn 25), (Str.ofString "_law_said_rows", GK.fn 26), (Str.ofString "_law_said_place", GK.fn 27), (Str.ofString "_law_said_machine", GK.fn 28), (Str.ofString "_law_said_table", GK.fn 29), (Str.ofString "_law_door", GK.fn 30), (Str.ofString "_law_shown", GK.fn 31), (Str.ofString "law", GK.fn 32), (Str.ofString "NONE", GK.cst (.str (Str.ofString "-"))), (Str.ofString "SIGNS", GK.cdt [((Str.ofString "to"), (Str.ofString "s")), ((Str.ofString "is"), (Str.ofString "i"))])]
def KWs : KwT := [(7, 0, ["machine"], [0]), (9, 0, ["table"], [0]), (8, 0, ["tosses"], [0]), (5, 0, ["leaves"], [0]), (3, 0, ["told"], [0]), (2, 0, ["shares"], [0]), (1, 0, ["number"], [0])]
def BLs : List Str := ["str", "len", "int", "max", "abs", "all", "range", "isinstance", "tuple", "list", "bool", "min"]
def CLs : List Str := []
def cf : Cfg := ⟨T, G, KWs, BLs, CLs, 1⟩
theorem sc0 : FnScope n0 p0 (defScope s0) := ⟨rfl, rfl, rfl, by decide +kernel, rfl, by decide +kernel, by decide +kernel⟩
theorem ok0 : chkTs1 cf (ioIx [false] 0) ⟨n0, (defScope s0).names⟩ c0 (defBody s0) = true := by decide +kernel
theorem sc1 : FnScope n1 p1 (defScope s1) := ⟨rfl, rfl, rfl, by decide +kernel, rfl, by decide +kernel, by decide +kernel⟩
theorem ok1 : chkTs1 cf (ioIx [false] 0) ⟨n1, (defScope s1).names⟩ c1 (defBody s1) = true := by decide +kernel
theorem sc2 : FnScope n2 p2 (defScope s2) := ⟨rfl, rfl, rfl, by decide +kernel, rfl, by decide +kernel, by decide +kernel⟩
theorem ok2 : chkTs1 cf (ioIx [false] 0) ⟨n2, (defScope s2).names⟩ c2 (defBody s2) = true := by decide +kernel
theorem sc3 : FnScope n3 p3 (defScope s3) := ⟨rfl, rfl, rfl, by decide +kernel, rfl, by decide +kernel, by decide +kernel⟩
theorem ok3 : chkTs1 cf (ioIx [false] 0) ⟨n3, (defScope s3).names⟩ c3 (defBody s3) = true := by decide +kernel
theorem sc4 : FnScope n4 p4 (defScope s4) := ⟨rfl, rfl, rfl, by decide +kernel, rfl, by decide +kernel, by decide +kernel⟩
theorem ok4 : chkTs1 cf (ioIx [false] 0) ⟨n4, (defScope s4).names⟩ c4 (defBody s4) = true := by decide +kernel
theorem sc5 : FnScope n5 p5 (defScope s5) := ⟨rfl, rfl, rfl, by decide +kernel, rfl, by decide +kernel, by decide +kernel⟩
theorem ok5 : chkTs1 cf (ioIx [false] 0) ⟨n5, (defScope s5).names⟩ c5 (defBody s5) = true := by decide +kernel
theorem sc6 : FnScope n6 p6 (defScope s6) := ⟨rfl, rfl, rfl, by decide +kernel, rfl, by decide +kernel, by decide +kernel⟩
theorem ok6 : chkTs1 cf (ioIx [false] 0) ⟨n6, (defScope s6).names⟩ c6 (defBody s6) = true := by decide +kernel
theorem sc7 : FnScope n7 p7 (defScope s7) := ⟨rfl, rfl, rfl, by decide +kernel, rfl, by decide +kernel, by decide +kernel⟩
theorem ok7 : chkTs1 cf (ioIx [false] 0) ⟨n7, (defScope s7).names⟩ c7 (defBody s7) = true := by decide +kernel
theorem sc8 : FnScope n8 p8 (defScope s8) := ⟨rfl, rfl, rfl, by decide +kernel, rfl, by decide +kernel, by decide +kernel⟩
theorem ok8 : chkTs1 cf (ioIx [false] 0) ⟨n8, (defScope s8).names⟩ c8 (defBody s8) = true := by decide +kernel
theorem sc9 : FnScope n9 p9 (defScope s9) := ⟨rfl, rfl, rfl, by decide +kernel, rfl, by decide +kernel, by decide +kernel⟩
theorem ok9 : chkTs1 cf (ioIx [false] 0) ⟨n9, (defScope s9).names⟩ c9 (defBody s9) = true := by decide +kernel
theorem sc10 : FnScope n10 p10 (defScope s10) := ⟨rfl, rfl, rfl, by decide +kernel, rfl, by decide +kernel, by decide +kernel⟩
theorem ok10 : chkTs1 cf (ioIx [false, false] 0) ⟨n10, (defScope s10).names⟩ c10 (defBody s10) = true := by decide +kernel
theorem sc11 : FnScope n11 p11 (defScope s11) := ⟨rfl, rfl, rfl, by decide +kernel, rfl, by decide +kernel, by decide +kernel⟩
theorem ok11 : chkTs1 cf (ioIx [true, false] 0) ⟨n11, (defScope s11).names⟩ c11 (defBody s11) = true := by decide +kernel
theorem sc12 : FnScope n12 p12 (defScope s12) := ⟨rfl, rfl, rfl, by decide +kernel, rfl, by decide +kernel, by decide +kernel⟩
theorem ok12 : chkTs1 cf (ioIx [false, false] 0) ⟨n12, (defScope s12).names⟩ c12 (defBody s12) = true := by decide +kernel
theorem sc13 : FnScope n13 p13 (defScope s13) := ⟨rfl, rfl, rfl, by decide +kernel, rfl, by decide +kernel, by decide +kernel⟩
theorem ok13 : chkTs1 cf (ioIx [false, false] 0) ⟨n13, (defScope s13).names⟩ c13 (defBody s13) = true := by decide +kernel
theorem sc14 : FnScope n14 p14 (defScope s14) := ⟨rfl, rfl, rfl, by decide +kernel, rfl, by decide +kernel, by decide +kernel⟩
theorem ok14 : chkTs1 cf (ioIx [false, false] 0) ⟨n14, (defScope s14).names⟩ c14 (defBody s14) = true := by decide +kernel
theorem sc15 : FnScope n15 p15 (defScope s15) := ⟨rfl, rfl, rfl, by decide +kernel, rfl, by decide +kernel, by decide +kernel⟩
theorem ok15 : chkTs1 cf (ioIx [true, false] 0) ⟨n15, (defScope s15).names⟩ c15 (defBody s15) = true := by decide +kernel
theorem sc16 : FnScope n16 p16 (defScope s16) := ⟨rfl, rfl, rfl, by decide +kernel, rfl, by decide +kernel, by decide +kernel⟩
theorem ok16 : chkTs1 cf (ioIx [true, false] 0) ⟨n16, (defScope s16).names⟩ c16 (defBody s16) = true := by decide +kernel
theorem sc17 : FnScope n17 p17 (defScope s17) := ⟨rfl, rfl, rfl, by decide +kernel, rfl, by decide +kernel, by decide +kernel⟩
theorem ok17 : chkTs1 cf (ioIx [true, false, false] 0) ⟨n17, (defScope s17).names⟩ c17 (defBody s17) = true := by decide +kernel
theorem sc18 : FnScope n18 p18 (defScope s18) := ⟨rfl, rfl, rfl, by decide +kernel, rfl, by decide +kernel, by decide +kernel⟩
theorem ok18 : chkTs1 cf (ioIx [true, false] 0) ⟨n18, (defScope s18).names⟩ c18 (defBody s18) = true := by decide +kernel
theorem sc19 : FnScope n19 p19 (defScope s19) := ⟨rfl, rfl, rfl, by decide +kernel, rfl, by decide +kernel, by decide +kernel⟩
theorem ok19 : chkTs1 cf (ioIx [true, false, false, false] 0) ⟨n19, (defScope s19).names⟩ c19 (defBody s19) = true := by decide +kernel
theorem sc20 : FnScope n20 p20 (defScope s20) := ⟨rfl, rfl, rfl, by decide +kernel, rfl, by decide +kernel, by decide +kernel⟩
theorem ok20 : chkTs1 cf (ioIx [true, false, false] 0) ⟨n20, (defScope s20).names⟩ c20 (defBody s20) = true := by decide +kernel
theorem sc21 : FnScope n21 p21 (defScope s21) := ⟨rfl, rfl, rfl, by decide +kernel, rfl, by decide +kernel, by decide +kernel⟩
theorem ok21 : chkTs1 cf (ioIx [true, false, false] 0) ⟨n21, (defScope s21).names⟩ c21 (defBody s21) = true := by decide +kernel
theorem sc22 : FnScope n22 p22 (defScope s22) := ⟨rfl, rfl, rfl, by decide +kernel, rfl, by decide +kernel, by decide +kernel⟩
theorem ok22 : chkTs1 cf (ioIx [true, false] 0) ⟨n22, (defScope s22).names⟩ c22 (defBody s22) = true := by decide +kernel
theorem sc23 : FnScope n23 p23 (defScope s23) := ⟨rfl, rfl, rfl, by decide +kernel, rfl, by decide +kernel, by decide +kernel⟩
theorem ok23 : chkTs1 cf (ioIx [false] 0) ⟨n23, (defScope s23).names⟩ c23 (defBody s23) = true := by decide +kernel
theorem sc24 : FnScope n24 p24 (defScope s24) := ⟨rfl, rfl, rfl, by decide +kernel, rfl, by decide +kernel, by decide +kernel⟩
theorem ok24 : chkTs1 cf (ioIx [false] 0) ⟨n24, (defScope s24).names⟩ c24 (defBody s24) = true := by decide +kernel
theorem sc25 : FnScope n25 p25 (defScope s25) := ⟨rfl, rfl, rfl, by decide +kernel, rfl, by decide +kernel, by decide +kernel⟩
theorem ok25 : chkTs1 cf (ioIx [false] 0) ⟨n25, (defScope s25).names⟩ c25 (defBody s25) = true := by decide +kernel
theorem sc26 : FnScope n26 p26 (defScope s26) := ⟨rfl, rfl, rfl, by decide +kernel, rfl, by decide +kernel, by decide +kernel⟩
theorem ok26 : chkTs1 cf (ioIx [false] 0) ⟨n26, (defScope s26).names⟩ c26 (defBody s26) = true := by decide +kernel
theorem sc27 : FnScope n27 p27 (defScope s27) := ⟨rfl, rfl, rfl, by decide +kernel, rfl, by decide +kernel, by decide +kernel⟩
theorem ok27 : chkTs1 cf (ioIx [false] 0) ⟨n27, (defScope s27).names⟩ c27 (defBody s27) = true := by decide +kernel
theorem sc28 : FnScope n28 p28 (defScope s28) := ⟨rfl, rfl, rfl, by decide +kernel, rfl, by decide +kernel, by decide +kernel⟩
theorem ok28 : chkTs1 cf (ioIx [false] 0) ⟨n28, (defScope s28).names⟩ c28 (defBody s28) = true := by decide +kernel
theorem sc29 : FnScope n29 p29 (defScope s29) := ⟨rfl, rfl, rfl, by decide +kernel, rfl, by decide +kernel, by decide +kernel⟩
theorem ok29 : chkTs1 cf (ioIx [false] 0) ⟨n29, (defScope s29).names⟩ c29 (defBody s29) = true := by decide +kernel
theorem sc30 : FnScope n30 p30 (defScope s30) := ⟨rfl, rfl, rfl, by decide +kernel, rfl, by decide +kernel, by decide +kernel⟩
theorem ok30 : chkTs1 cf (ioIx [true, false, false, false] 0) ⟨n30, (defScope s30).names⟩ c30 (defBody s30) = true := by decide +kernel
theorem sc31 : FnScope n31 p31 (defScope s31) := ⟨rfl, rfl, rfl, by decide +kernel, rfl, by decide +kernel, by decide +kernel⟩
theorem ok31 : chkTs1 cf (ioIx [false, false, false] 0) ⟨n31, (defScope s31).names⟩ c31 (defBody s31) = true := by decide +kernel
theorem sc32 : FnScope n32 p32 (defScope s32) := ⟨rfl, rfl, rfl, by decide +kernel, rfl, by decide +kernel, by decide +kernel⟩
theorem ok32 : chkTs1 cf (ioIx [false] 0) ⟨n32, (defScope s32).names⟩ c32 (defBody s32) = true := by decide +kernel
theorem G_look {x : Str} {g : GK} (e : G.lookup x = some g) : (x, g) ∈ G := look_mem e
theorem G_fn {x : Str} {k : Nat} (e : cf.G.lookup x = some (.fn k)) : (x = "joined" ∧ k = 0) ∨ (x = "show_number" ∧ k = 1) ∨ (x = "show_shares" ∧ k = 2) ∨ (x = "show_figures" ∧ k = 3) ∨ (x = "show_rows" ∧ k = 4) ∨ (x = "show_leaves" ∧ k = 5) ∨ (x = "show_place" ∧ k = 6) ∨ (x = "show_machine" ∧ k = 7) ∨ (x = "show_tosses" ∧ k = 8) ∨ (x = "show_table" ∧ k = 9) ∨ (x = "_law_well" ∧ k = 10) ∨ (x = "_law_draw" ∧ k = 11) ∨ (x = "_law_same" ∧ k = 12) ∨ (x = "_law_power" ∧ k = 13) ∨ (x = "_law_low" ∧ k = 14) ∨ (x = "_law_integer" ∧ k = 15) ∨ (x = "_law_number" ∧ k = 16) ∨ (x = "_law_shares" ∧ k = 17) ∨ (x = "_law_signs" ∧ k = 18) ∨ (x = "_law_rows" ∧ k = 19) ∨ (x = "_law_place" ∧ k = 20) ∨ (x = "_law_machine" ∧ k = 21) ∨ (x = "_law_cell" ∧ k = 22) ∨ (x = "_law_said_number" ∧ k = 23) ∨ (x = "_law_said_all" ∧ k = 24) ∨ (x = "_law_said_signs" ∧ k = 25) ∨ (x = "_law_said_rows" ∧ k = 26) ∨ (x = "_law_said_place" ∧ k = 27) ∨ (x = "_law_said_machine" ∧ k = 28) ∨ (x = "_law_said_table" ∧ k = 29) ∨ (x = "_law_door" ∧ k = 30) ∨ (x = "_law_shown" ∧ k = 31) ∨ (x = "law" ∧ k = 32) := by
  have m := G_look e
  simpa only [G, List.mem_cons, List.not_mem_nil, or_false, Prod.mk.injEq, GK.fn.injEq, reduceCtorEq, and_false, false_or] using m
theorem G_cst {x : Str} {d : PyData} (e : cf.G.lookup x = some (.cst d)) : (x = "NONE" ∧ d = (.str (Str.ofString "-"))) := by
  have m := G_look e
  simpa only [G, List.mem_cons, List.not_mem_nil, or_false, Prod.mk.injEq, GK.cst.injEq, reduceCtorEq, and_false, false_or] using m
theorem G_cdt {x : Str} {d : List (Str × Str)} (e : cf.G.lookup x = some (.cdt d)) : (x = "SIGNS" ∧ d = [((Str.ofString "to"), (Str.ofString "s")), ((Str.ofString "is"), (Str.ofString "i"))]) := by
  have m := G_look e
  simpa only [G, List.mem_cons, List.not_mem_nil, or_false, Prod.mk.injEq, GK.cdt.injEq, reduceCtorEq, and_false, false_or] using m
theorem G_bfn {x : Str} {i : String} (e : cf.G.lookup x = some (.bfn i)) : False := by
  have m := G_look e
  simpa only [G, List.mem_cons, List.not_mem_nil, or_false, Prod.mk.injEq, GK.bfn.injEq, reduceCtorEq, and_false, false_or] using m
section
variable [WW]
variable {K : PySem.W.Frag} {mg : Str → Option Value}
theorem b0 {f : Addr} {fd : FuncData} (F : Fun K "joined" "joined" s0 f fd) : Binds K fd p0 [] := F.binds fun _ _ _ _ _ _ us hl => match us, hl with | [_], _ => rfl
theorem k0 {f : Addr} {fd : FuncData} (F : Fun K "joined" "joined" s0 f fd) (np : Nat) (ks : List Str) (perm : List Nat) (h : (0, np, ks, perm) ∈ cf.KW) : KBinds K fd p0 ks (gP np ks.length perm) (gP np ks.length perm) := by
  simp only [cf, KWs, List.mem_cons, List.not_mem_nil, or_false, Prod.mk.injEq] at h
  rcases h with h | h | h | h | h | h | h
  · exact absurd h.1 (by decide)
  · exact absurd h.1 (by decide)
  · exact absurd h.1 (by decide)
  · exact absurd h.1 (by decide)
  · exact absurd h.1 (by decide)
  · exact absurd h.1 (by decide)
  · exact absurd h.1 (by decide)
theorem b1 {f : Addr} {fd : FuncData} (F : Fun K "show_number" "show_number" s1 f fd) : Binds K fd p1 [] := F.binds fun _ _ _ _ _ _ us hl => match us, hl with | [_], _ => rfl
theorem k1 {f : Addr} {fd : FuncData} (F : Fun K "show_number" "show_number" s1 f fd) (np : Nat) (ks : List Str) (perm : List Nat) (h : (1, np, ks, perm) ∈ cf.KW) : KBinds K fd p1 ks (gP np ks.length perm) (gP np ks.length perm) := by
  simp only [cf, KWs, List.mem_cons, List.not_mem_nil, or_false, Prod.mk.injEq] at h
  rcases h with h | h | h | h | h | h | h
  · exact absurd h.1 (by decide)
  · exact absurd h.1 (by decide)
  · exact absurd h.1 (by decide)
  · exact absurd h.1 (by decide)
  · exact absurd h.1 (by decide)
  · exact absurd h.1 (by decide)
  · obtain ⟨_, rfl, rfl, rfl⟩ := h
    exact kb_mk F (by decide) fun _ _ _ _ _ _ us ws h1 h2 => match us, ws, h1, h2 with | [], [_], _, _ => rfl
theorem b2 {f : Addr} {fd : FuncData} (F : Fun K "show_shares" "show_shares" s2 f fd) : Binds K fd p2 [] := F.binds fun _ _ _ _ _ _ us hl => match us, hl with | [_], _ => rfl
theorem k2 {f : Addr} {fd : FuncData} (F : Fun K "show_shares" "show_shares" s2 f fd) (np : Nat) (ks : List Str) (perm : List Nat) (h : (2, np, ks, perm) ∈ cf.KW) : KBinds K fd p2 ks (gP np ks.length perm) (gP np ks.length perm) := by
  simp only [cf, KWs, List.mem_cons, List.not_mem_nil, or_false, Prod.mk.injEq] at h
  rcases h with h | h | h | h | h | h | h
  · exact absurd h.1 (by decide)
  · exact absurd h.1 (by decide)
  · exact absurd h.1 (by decide)
  · exact absurd h.1 (by decide)
  · exact absurd h.1 (by decide)
  · obtain ⟨_, rfl, rfl, rfl⟩ := h
    exact kb_mk F (by decide) fun _ _ _ _ _ _ us ws h1 h2 => match us, ws, h1, h2 with | [], [_], _, _ => rfl
  · exact absurd h.1 (by decide)
theorem b3 {f : Addr} {fd : FuncData} (F : Fun K "show_figures" "show_figures" s3 f fd) : Binds K fd p3 [] := F.binds fun _ _ _ _ _ _ us hl => match us, hl with | [_], _ => rfl
theorem k3 {f : Addr} {fd : FuncData} (F : Fun K "show_figures" "show_figures" s3 f fd) (np : Nat) (ks : List Str) (perm : List Nat) (h : (3, np, ks, perm) ∈ cf.KW) : KBinds K fd p3 ks (gP np ks.length perm) (gP np ks.length perm) := by
  simp only [cf, KWs, List.mem_cons, List.not_mem_nil, or_false, Prod.mk.injEq] at h
  rcases h with h | h | h | h | h | h | h
  · exact absurd h.1 (by decide)
  · exact absurd h.1 (by decide)
  · exact absurd h.1 (by decide)
  · exact absurd h.1 (by decide)
  · obtain ⟨_, rfl, rfl, rfl⟩ := h
    exact kb_mk F (by decide) fun _ _ _ _ _ _ us ws h1 h2 => match us, ws, h1, h2 with | [], [_], _, _ => rfl
  · exact absurd h.1 (by decide)
  · exact absurd h.1 (by decide)
theorem b4 {f : Addr} {fd : FuncData} (F : Fun K "show_rows" "show_rows" s4 f fd) : Binds K fd p4 [] := F.binds fun _ _ _ _ _ _ us hl => match us, hl with | [_], _ => rfl
theorem k4 {f : Addr} {fd : FuncData} (F : Fun K "show_rows" "show_rows" s4 f fd) (np : Nat) (ks : List Str) (perm : List Nat) (h : (4, np, ks, perm) ∈ cf.KW) : KBinds K fd p4 ks (gP np ks.length perm) (gP np ks.length perm) := by
  simp only [cf, KWs, List.mem_cons, List.not_mem_nil, or_false, Prod.mk.injEq] at h
  rcases h with h | h | h | h | h | h | h
  · exact absurd h.1 (by decide)
  · exact absurd h.1 (by decide)
  · exact absurd h.1 (by decide)
  · exact absurd h.1 (by decide)
  · exact absurd h.1 (by decide)
  · exact absurd h.1 (by decide)
  · exact absurd h.1 (by decide)
theorem b5 {f : Addr} {fd : FuncData} (F : Fun K "show_leaves" "show_leaves" s5 f fd) : Binds K fd p5 [] := F.binds fun _ _ _ _ _ _ us hl => match us, hl with | [_], _ => rfl
theorem k5 {f : Addr} {fd : FuncData} (F : Fun K "show_leaves" "show_leaves" s5 f fd) (np : Nat) (ks : List Str) (perm : List Nat) (h : (5, np, ks, perm) ∈ cf.KW) : KBinds K fd p5 ks (gP np ks.length perm) (gP np ks.length perm) := by
  simp only [cf, KWs, List.mem_cons, List.not_mem_nil, or_false, Prod.mk.injEq] at h
  rcases h with h | h | h | h | h | h | h
  · exact absurd h.1 (by decide)
  · exact absurd h.1 (by decide)
  · exact absurd h.1 (by decide)
  · obtain ⟨_, rfl, rfl, rfl⟩ := h
    exact kb_mk F (by decide) fun _ _ _ _ _ _ us ws h1 h2 => match us, ws, h1, h2 with | [], [_], _, _ => rfl
  · exact absurd h.1 (by decide)
  · exact absurd h.1 (by decide)
  · exact absurd h.1 (by decide)
theorem b6 {f : Addr} {fd : FuncData} (F : Fun K "show_place" "show_place" s6 f fd) : Binds K fd p6 [] := F.binds fun _ _ _ _ _ _ us hl => match us, hl with | [_], _ => rfl
theorem k6 {f : Addr} {fd : FuncData} (F : Fun K "show_place" "show_place" s6 f fd) (np : Nat) (ks : List Str) (perm : List Nat) (h : (6, np, ks, perm) ∈ cf.KW) : KBinds K fd p6 ks (gP np ks.length perm) (gP np ks.length perm) := by
  simp only [cf, KWs, List.mem_cons, List.not_mem_nil, or_false, Prod.mk.injEq] at h
  rcases h with h | h | h | h | h | h | h
  · exact absurd h.1 (by decide)
  · exact absurd h.1 (by decide)
  · exact absurd h.1 (by decide)
  · exact absurd h.1 (by decide)
  · exact absurd h.1 (by decide)
  · exact absurd h.1 (by decide)
  · exact absurd h.1 (by decide)
theorem b7 {f : Addr} {fd : FuncData} (F : Fun K "show_machine" "show_machine" s7 f fd) : Binds K fd p7 [] := F.binds fun _ _ _ _ _ _ us hl => match us, hl with | [_], _ => rfl
theorem k7 {f : Addr} {fd : FuncData} (F : Fun K "show_machine" "show_machine" s7 f fd) (np : Nat) (ks : List Str) (perm : List Nat) (h : (7, np, ks, perm) ∈ cf.KW) : KBinds K fd p7 ks (gP np ks.length perm) (gP np ks.length perm) := by
  simp only [cf, KWs, List.mem_cons, List.not_mem_nil, or_false, Prod.mk.injEq] at h
  rcases h with h | h | h | h | h | h | h
  · obtain ⟨_, rfl, rfl, rfl⟩ := h
    exact kb_mk F (by decide) fun _ _ _ _ _ _ us ws h1 h2 => match us, ws, h1, h2 with | [], [_], _, _ => rfl
  · exact absurd h.1 (by decide)
  · exact absurd h.1 (by decide)
  · exact absurd h.1 (by decide)
  · exact absurd h.1 (by decide)
  · exact absurd h.1 (by decide)
  · exact absurd h.1 (by decide)
theorem b8 {f : Addr} {fd : FuncData} (F : Fun K "show_tosses" "show_tosses" s8 f fd) : Binds K fd p8 [] := F.binds fun _ _ _ _ _ _ us hl => match us, hl with | [_], _ => rfl
theorem k8 {f : Addr} {fd : FuncData} (F : Fun K "show_tosses" "show_tosses" s8 f fd) (np : Nat) (ks : List Str) (perm : List Nat) (h : (8, np, ks, perm) ∈ cf.KW) : KBinds K fd p8 ks (gP np ks.length perm) (gP np ks.length perm) := by
  simp only [cf, KWs, List.mem_cons, List.not_mem_nil, or_false, Prod.mk.injEq] at h
  rcases h with h | h | h | h | h | h | h
  · exact absurd h.1 (by decide)
  · exact absurd h.1 (by decide)
  · obtain ⟨_, rfl, rfl, rfl⟩ := h
    exact kb_mk F (by decide) fun _ _ _ _ _ _ us ws h1 h2 => match us, ws, h1, h2 with | [], [_], _, _ => rfl
  · exact absurd h.1 (by decide)
  · exact absurd h.1 (by decide)
  · exact absurd h.1 (by decide)
  · exact absurd h.1 (by decide)
theorem b9 {f : Addr} {fd : FuncData} (F : Fun K "show_table" "show_table" s9 f fd) : Binds K fd p9 [] := F.binds fun _ _ _ _ _ _ us hl => match us, hl with | [_], _ => rfl
theorem k9 {f : Addr} {fd : FuncData} (F : Fun K "show_table" "show_table" s9 f fd) (np : Nat) (ks : List Str) (perm : List Nat) (h : (9, np, ks, perm) ∈ cf.KW) : KBinds K fd p9 ks (gP np ks.length perm) (gP np ks.length perm) := by
  simp only [cf, KWs, List.mem_cons, List.not_mem_nil, or_false, Prod.mk.injEq] at h
  rcases h with h | h | h | h | h | h | h
  · exact absurd h.1 (by decide)
  · obtain ⟨_, rfl, rfl, rfl⟩ := h
    exact kb_mk F (by decide) fun _ _ _ _ _ _ us ws h1 h2 => match us, ws, h1, h2 with | [], [_], _, _ => rfl
  · exact absurd h.1 (by decide)
  · exact absurd h.1 (by decide)
  · exact absurd h.1 (by decide)
  · exact absurd h.1 (by decide)
  · exact absurd h.1 (by decide)
theorem b10 {f : Addr} {fd : FuncData} (F : Fun K "_law_well" "_law_well" s10 f fd) : Binds K fd p10 [] := F.binds fun _ _ _ _ _ _ us hl => match us, hl with | [_, _], _ => rfl
theorem k10 {f : Addr} {fd : FuncData} (F : Fun K "_law_well" "_law_well" s10 f fd) (np : Nat) (ks : List Str) (perm : List Nat) (h : (10, np, ks, perm) ∈ cf.KW) : KBinds K fd p10 ks (gP np ks.length perm) (gP np ks.length perm) := by
  simp only [cf, KWs, List.mem_cons, List.not_mem_nil, or_false, Prod.mk.injEq] at h
  rcases h with h | h | h | h | h | h | h
  · exact absurd h.1 (by decide)
  · exact absurd h.1 (by decide)
  · exact absurd h.1 (by decide)
  · exact absurd h.1 (by decide)
  · exact absurd h.1 (by decide)
  · exact absurd h.1 (by decide)
  · exact absurd h.1 (by decide)
theorem b11 {f : Addr} {fd : FuncData} (F : Fun K "_law_draw" "_law_draw" s11 f fd) : Binds K fd p11 [] := F.binds fun _ _ _ _ _ _ us hl => match us, hl with | [_, _], _ => rfl
theorem k11 {f : Addr} {fd : FuncData} (F : Fun K "_law_draw" "_law_draw" s11 f fd) (np : Nat) (ks : List Str) (perm : List Nat) (h : (11, np, ks, perm) ∈ cf.KW) : KBinds K fd p11 ks (gP np ks.length perm) (gP np ks.length perm) := by
  simp only [cf, KWs, List.mem_cons, List.not_mem_nil, or_false, Prod.mk.injEq] at h
  rcases h with h | h | h | h | h | h | h
  · exact absurd h.1 (by decide)
  · exact absurd h.1 (by decide)
  · exact absurd h.1 (by decide)
  · exact absurd h.1 (by decide)
  · exact absurd h.1 (by decide)
  · exact absurd h.1 (by decide)
  · exact absurd h.1 (by decide)
theorem b12 {f : Addr} {fd : FuncData} (F : Fun K "_law_same" "_law_same" s12 f fd) : Binds K fd p12 [] := F.binds fun _ _ _ _ _ _ us hl => match us, hl with | [_, _], _ => rfl
theorem k12 {f : Addr} {fd : FuncData} (F : Fun K "_law_same" "_law_same" s12 f fd) (np : Nat) (ks : List Str) (perm : List Nat) (h : (12, np, ks, perm) ∈ cf.KW) : KBinds K fd p12 ks (gP np ks.length perm) (gP np ks.length perm) := by
  simp only [cf, KWs, List.mem_cons, List.not_mem_nil, or_false, Prod.mk.injEq] at h
  rcases h with h | h | h | h | h | h | h
  · exact absurd h.1 (by decide)
  · exact absurd h.1 (by decide)
  · exact absurd h.1 (by decide)
  · exact absurd h.1 (by decide)
  · exact absurd h.1 (by decide)
  · exact absurd h.1 (by decide)
  · exact absurd h.1 (by decide)
theorem b13 {f : Addr} {fd : FuncData} (F : Fun K "_law_power" "_law_power" s13 f fd) : Binds K fd p13 [] := F.binds fun _ _ _ _ _ _ us hl => match us, hl with | [_, _], _ => rfl
theorem k13 {f : Addr} {fd : FuncData} (F : Fun K "_law_power" "_law_power" s13 f fd) (np : Nat) (ks : List Str) (perm : List Nat) (h : (13, np, ks, perm) ∈ cf.KW) : KBinds K fd p13 ks (gP np ks.length perm) (gP np ks.length perm) := by
  simp only [cf, KWs, List.mem_cons, List.not_mem_nil, or_false, Prod.mk.injEq] at h
  rcases h with h | h | h | h | h | h | h
  · exact absurd h.1 (by decide)
  · exact absurd h.1 (by decide)
  · exact absurd h.1 (by decide)
  · exact absurd h.1 (by decide)
  · exact absurd h.1 (by decide)
  · exact absurd h.1 (by decide)
  · exact absurd h.1 (by decide)
theorem b14 {f : Addr} {fd : FuncData} (F : Fun K "_law_low" "_law_low" s14 f fd) : Binds K fd p14 [] := F.binds fun _ _ _ _ _ _ us hl => match us, hl with | [_, _], _ => rfl
theorem k14 {f : Addr} {fd : FuncData} (F : Fun K "_law_low" "_law_low" s14 f fd) (np : Nat) (ks : List Str) (perm : List Nat) (h : (14, np, ks, perm) ∈ cf.KW) : KBinds K fd p14 ks (gP np ks.length perm) (gP np ks.length perm) := by
  simp only [cf, KWs, List.mem_cons, List.not_mem_nil, or_false, Prod.mk.injEq] at h
  rcases h with h | h | h | h | h | h | h
  · exact absurd h.1 (by decide)
  · exact absurd h.1 (by decide)
  · exact absurd h.1 (by decide)
  · exact absurd h.1 (by decide)
  · exact absurd h.1 (by decide)
  · exact absurd h.1 (by decide)
  · exact absurd h.1 (by decide)
theorem b15 {f : Addr} {fd : FuncData} (F : Fun K "_law_integer" "_law_integer" s15 f fd) : Binds K fd p15 [] := F.binds fun _ _ _ _ _ _ us hl => match us, hl with | [_, _], _ => rfl
theorem k15 {f : Addr} {fd : FuncData} (F : Fun K "_law_integer" "_law_integer" s15 f fd) (np : Nat) (ks : List Str) (perm : List Nat) (h : (15, np, ks, perm) ∈ cf.KW) : KBinds K fd p15 ks (gP np ks.length perm) (gP np ks.length perm) := by
  simp only [cf, KWs, List.mem_cons, List.not_mem_nil, or_false, Prod.mk.injEq] at h
  rcases h with h | h | h | h | h | h | h
  · exact absurd h.1 (by decide)
  · exact absurd h.1 (by decide)
  · exact absurd h.1 (by decide)
  · exact absurd h.1 (by decide)
  · exact absurd h.1 (by decide)
  · exact absurd h.1 (by decide)
  · exact absurd h.1 (by decide)
theorem b16 {f : Addr} {fd : FuncData} (F : Fun K "_law_number" "_law_number" s16 f fd) : Binds K fd p16 [] := F.binds fun _ _ _ _ _ _ us hl => match us, hl with | [_, _], _ => rfl
theorem k16 {f : Addr} {fd : FuncData} (F : Fun K "_law_number" "_law_number" s16 f fd) (np : Nat) (ks : List Str) (perm : List Nat) (h : (16, np, ks, perm) ∈ cf.KW) : KBinds K fd p16 ks (gP np ks.length perm) (gP np ks.length perm) := by
  simp only [cf, KWs, List.mem_cons, List.not_mem_nil, or_false, Prod.mk.injEq] at h
  rcases h with h | h | h | h | h | h | h
  · exact absurd h.1 (by decide)
  · exact absurd h.1 (by decide)
  · exact absurd h.1 (by decide)
  · exact absurd h.1 (by decide)
  · exact absurd h.1 (by decide)
  · exact absurd h.1 (by decide)
  · exact absurd h.1 (by decide)
theorem b17 {f : Addr} {fd : FuncData} (F : Fun K "_law_shares" "_law_shares" s17 f fd) : Binds K fd p17 [] := F.binds fun _ _ _ _ _ _ us hl => match us, hl with | [_, _, _], _ => rfl
theorem k17 {f : Addr} {fd : FuncData} (F : Fun K "_law_shares" "_law_shares" s17 f fd) (np : Nat) (ks : List Str) (perm : List Nat) (h : (17, np, ks, perm) ∈ cf.KW) : KBinds K fd p17 ks (gP np ks.length perm) (gP np ks.length perm) := by
  simp only [cf, KWs, List.mem_cons, List.not_mem_nil, or_false, Prod.mk.injEq] at h
  rcases h with h | h | h | h | h | h | h
  · exact absurd h.1 (by decide)
  · exact absurd h.1 (by decide)
  · exact absurd h.1 (by decide)
  · exact absurd h.1 (by decide)
  · exact absurd h.1 (by decide)
  · exact absurd h.1 (by decide)
  · exact absurd h.1 (by decide)
theorem b18 {f : Addr} {fd : FuncData} (F : Fun K "_law_signs" "_law_signs" s18 f fd) : Binds K fd p18 [] := F.binds fun _ _ _ _ _ _ us hl => match us, hl with | [_, _], _ => rfl
theorem k18 {f : Addr} {fd : FuncData} (F : Fun K "_law_signs" "_law_signs" s18 f fd) (np : Nat) (ks : List Str) (perm : List Nat) (h : (18, np, ks, perm) ∈ cf.KW) : KBinds K fd p18 ks (gP np ks.length perm) (gP np ks.length perm) := by
  simp only [cf, KWs, List.mem_cons, List.not_mem_nil, or_false, Prod.mk.injEq] at h
  rcases h with h | h | h | h | h | h | h
  · exact absurd h.1 (by decide)
  · exact absurd h.1 (by decide)
  · exact absurd h.1 (by decide)
  · exact absurd h.1 (by decide)
  · exact absurd h.1 (by decide)
  · exact absurd h.1 (by decide)
  · exact absurd h.1 (by decide)
theorem b19 {f : Addr} {fd : FuncData} (F : Fun K "_law_rows" "_law_rows" s19 f fd) : Binds K fd p19 [] := F.binds fun _ _ _ _ _ _ us hl => match us, hl with | [_, _, _, _], _ => rfl
theorem k19 {f : Addr} {fd : FuncData} (F : Fun K "_law_rows" "_law_rows" s19 f fd) (np : Nat) (ks : List Str) (perm : List Nat) (h : (19, np, ks, perm) ∈ cf.KW) : KBinds K fd p19 ks (gP np ks.length perm) (gP np ks.length perm) := by
  simp only [cf, KWs, List.mem_cons, List.not_mem_nil, or_false, Prod.mk.injEq] at h
  rcases h with h | h | h | h | h | h | h
  · exact absurd h.1 (by decide)
  · exact absurd h.1 (by decide)
  · exact absurd h.1 (by decide)
  · exact absurd h.1 (by decide)
  · exact absurd h.1 (by decide)
  · exact absurd h.1 (by decide)
  · exact absurd h.1 (by decide)
theorem b20 {f : Addr} {fd : FuncData} (F : Fun K "_law_place" "_law_place" s20 f fd) : Binds K fd p20 [] := F.binds fun _ _ _ _ _ _ us hl => match us, hl with | [_, _, _], _ => rfl
theorem k20 {f : Addr} {fd : FuncData} (F : Fun K "_law_place" "_law_place" s20 f fd) (np : Nat) (ks : List Str) (perm : List Nat) (h : (20, np, ks, perm) ∈ cf.KW) : KBinds K fd p20 ks (gP np ks.length perm) (gP np ks.length perm) := by
  simp only [cf, KWs, List.mem_cons, List.not_mem_nil, or_false, Prod.mk.injEq] at h
  rcases h with h | h | h | h | h | h | h
  · exact absurd h.1 (by decide)
  · exact absurd h.1 (by decide)
  · exact absurd h.1 (by decide)
  · exact absurd h.1 (by decide)
  · exact absurd h.1 (by decide)
  · exact absurd h.1 (by decide)
  · exact absurd h.1 (by decide)
theorem b21 {f : Addr} {fd : FuncData} (F : Fun K "_law_machine" "_law_machine" s21 f fd) : Binds K fd p21 [] := F.binds fun _ _ _ _ _ _ us hl => match us, hl with | [_, _, _], _ => rfl
theorem k21 {f : Addr} {fd : FuncData} (F : Fun K "_law_machine" "_law_machine" s21 f fd) (np : Nat) (ks : List Str) (perm : List Nat) (h : (21, np, ks, perm) ∈ cf.KW) : KBinds K fd p21 ks (gP np ks.length perm) (gP np ks.length perm) := by
  simp only [cf, KWs, List.mem_cons, List.not_mem_nil, or_false, Prod.mk.injEq] at h
  rcases h with h | h | h | h | h | h | h
  · exact absurd h.1 (by decide)
  · exact absurd h.1 (by decide)
  · exact absurd h.1 (by decide)
  · exact absurd h.1 (by decide)
  · exact absurd h.1 (by decide)
  · exact absurd h.1 (by decide)
  · exact absurd h.1 (by decide)
theorem b22 {f : Addr} {fd : FuncData} (F : Fun K "_law_cell" "_law_cell" s22 f fd) : Binds K fd p22 [] := F.binds fun _ _ _ _ _ _ us hl => match us, hl with | [_, _], _ => rfl
theorem k22 {f : Addr} {fd : FuncData} (F : Fun K "_law_cell" "_law_cell" s22 f fd) (np : Nat) (ks : List Str) (perm : List Nat) (h : (22, np, ks, perm) ∈ cf.KW) : KBinds K fd p22 ks (gP np ks.length perm) (gP np ks.length perm) := by
  simp only [cf, KWs, List.mem_cons, List.not_mem_nil, or_false, Prod.mk.injEq] at h
  rcases h with h | h | h | h | h | h | h
  · exact absurd h.1 (by decide)
  · exact absurd h.1 (by decide)
  · exact absurd h.1 (by decide)
  · exact absurd h.1 (by decide)
  · exact absurd h.1 (by decide)
  · exact absurd h.1 (by decide)
  · exact absurd h.1 (by decide)
theorem b23 {f : Addr} {fd : FuncData} (F : Fun K "_law_said_number" "_law_said_number" s23 f fd) : Binds K fd p23 [] := F.binds fun _ _ _ _ _ _ us hl => match us, hl with | [_], _ => rfl
theorem k23 {f : Addr} {fd : FuncData} (F : Fun K "_law_said_number" "_law_said_number" s23 f fd) (np : Nat) (ks : List Str) (perm : List Nat) (h : (23, np, ks, perm) ∈ cf.KW) : KBinds K fd p23 ks (gP np ks.length perm) (gP np ks.length perm) := by
  simp only [cf, KWs, List.mem_cons, List.not_mem_nil, or_false, Prod.mk.injEq] at h
  rcases h with h | h | h | h | h | h | h
  · exact absurd h.1 (by decide)
  · exact absurd h.1 (by decide)
  · exact absurd h.1 (by decide)
  · exact absurd h.1 (by decide)
  · exact absurd h.1 (by decide)
  · exact absurd h.1 (by decide)
  · exact absurd h.1 (by decide)
theorem b24 {f : Addr} {fd : FuncData} (F : Fun K "_law_said_all" "_law_said_all" s24 f fd) : Binds K fd p24 [] := F.binds fun _ _ _ _ _ _ us hl => match us, hl with | [_], _ => rfl
theorem k24 {f : Addr} {fd : FuncData} (F : Fun K "_law_said_all" "_law_said_all" s24 f fd) (np : Nat) (ks : List Str) (perm : List Nat) (h : (24, np, ks, perm) ∈ cf.KW) : KBinds K fd p24 ks (gP np ks.length perm) (gP np ks.length perm) := by
  simp only [cf, KWs, List.mem_cons, List.not_mem_nil, or_false, Prod.mk.injEq] at h
  rcases h with h | h | h | h | h | h | h
  · exact absurd h.1 (by decide)
  · exact absurd h.1 (by decide)
  · exact absurd h.1 (by decide)
  · exact absurd h.1 (by decide)
  · exact absurd h.1 (by decide)
  · exact absurd h.1 (by decide)
  · exact absurd h.1 (by decide)
theorem b25 {f : Addr} {fd : FuncData} (F : Fun K "_law_said_signs" "_law_said_signs" s25 f fd) : Binds K fd p25 [] := F.binds fun _ _ _ _ _ _ us hl => match us, hl with | [_], _ => rfl
theorem k25 {f : Addr} {fd : FuncData} (F : Fun K "_law_said_signs" "_law_said_signs" s25 f fd) (np : Nat) (ks : List Str) (perm : List Nat) (h : (25, np, ks, perm) ∈ cf.KW) : KBinds K fd p25 ks (gP np ks.length perm) (gP np ks.length perm) := by
  simp only [cf, KWs, List.mem_cons, List.not_mem_nil, or_false, Prod.mk.injEq] at h
  rcases h with h | h | h | h | h | h | h
  · exact absurd h.1 (by decide)
  · exact absurd h.1 (by decide)
  · exact absurd h.1 (by decide)
  · exact absurd h.1 (by decide)
  · exact absurd h.1 (by decide)
  · exact absurd h.1 (by decide)
  · exact absurd h.1 (by decide)
theorem b26 {f : Addr} {fd : FuncData} (F : Fun K "_law_said_rows" "_law_said_rows" s26 f fd) : Binds K fd p26 [] := F.binds fun _ _ _ _ _ _ us hl => match us, hl with | [_], _ => rfl
theorem k26 {f : Addr} {fd : FuncData} (F : Fun K "_law_said_rows" "_law_said_rows" s26 f fd) (np : Nat) (ks : List Str) (perm : List Nat) (h : (26, np, ks, perm) ∈ cf.KW) : KBinds K fd p26 ks (gP np ks.length perm) (gP np ks.length perm) := by
  simp only [cf, KWs, List.mem_cons, List.not_mem_nil, or_false, Prod.mk.injEq] at h
  rcases h with h | h | h | h | h | h | h
  · exact absurd h.1 (by decide)
  · exact absurd h.1 (by decide)
  · exact absurd h.1 (by decide)
  · exact absurd h.1 (by decide)
  · exact absurd h.1 (by decide)
  · exact absurd h.1 (by decide)
  · exact absurd h.1 (by decide)
theorem b27 {f : Addr} {fd : FuncData} (F : Fun K "_law_said_place" "_law_said_place" s27 f fd) : Binds K fd p27 [] := F.binds fun _ _ _ _ _ _ us hl => match us, hl with | [_], _ => rfl
theorem k27 {f : Addr} {fd : FuncData} (F : Fun K "_law_said_place" "_law_said_place" s27 f fd) (np : Nat) (ks : List Str) (perm : List Nat) (h : (27, np, ks, perm) ∈ cf.KW) : KBinds K fd p27 ks (gP np ks.length perm) (gP np ks.length perm) := by
  simp only [cf, KWs, List.mem_cons, List.not_mem_nil, or_false, Prod.mk.injEq] at h
  rcases h with h | h | h | h | h | h | h
  · exact absurd h.1 (by decide)
  · exact absurd h.1 (by decide)
  · exact absurd h.1 (by decide)
  · exact absurd h.1 (by decide)
  · exact absurd h.1 (by decide)
  · exact absurd h.1 (by decide)
  · exact absurd h.1 (by decide)
theorem b28 {f : Addr} {fd : FuncData} (F : Fun K "_law_said_machine" "_law_said_machine" s28 f fd) : Binds K fd p28 [] := F.binds fun _ _ _ _ _ _ us hl => match us, hl with | [_], _ => rfl
theorem k28 {f : Addr} {fd : FuncData} (F : Fun K "_law_said_machine" "_law_said_machine" s28 f fd) (np : Nat) (ks : List Str) (perm : List Nat) (h : (28, np, ks, perm) ∈ cf.KW) : KBinds K fd p28 ks (gP np ks.length perm) (gP np ks.length perm) := by
  simp only [cf, KWs, List.mem_cons, List.not_mem_nil, or_false, Prod.mk.injEq] at h
  rcases h with h | h | h | h | h | h | h
  · exact absurd h.1 (by decide)
  · exact absurd h.1 (by decide)
  · exact absurd h.1 (by decide)
  · exact absurd h.1 (by decide)
  · exact absurd h.1 (by decide)
  · exact absurd h.1 (by decide)
  · exact absurd h.1 (by decide)
theorem b29 {f : Addr} {fd : FuncData} (F : Fun K "_law_said_table" "_law_said_table" s29 f fd) : Binds K fd p29 [] := F.binds fun _ _ _ _ _ _ us hl => match us, hl with | [_], _ => rfl
theorem k29 {f : Addr} {fd : FuncData} (F : Fun K "_law_said_table" "_law_said_table" s29 f fd) (np : Nat) (ks : List Str) (perm : List Nat) (h : (29, np, ks, perm) ∈ cf.KW) : KBinds K fd p29 ks (gP np ks.length perm) (gP np ks.length perm) := by
  simp only [cf, KWs, List.mem_cons, List.not_mem_nil, or_false, Prod.mk.injEq] at h
  rcases h with h | h | h | h | h | h | h
  · exact absurd h.1 (by decide)
  · exact absurd h.1 (by decide)
  · exact absurd h.1 (by decide)
  · exact absurd h.1 (by decide)
  · exact absurd h.1 (by decide)
  · exact absurd h.1 (by decide)
  · exact absurd h.1 (by decide)
theorem b30 {f : Addr} {fd : FuncData} (F : Fun K "_law_door" "_law_door" s30 f fd) : Binds K fd p30 [] := F.binds fun _ _ _ _ _ _ us hl => match us, hl with | [_, _, _, _], _ => rfl
theorem k30 {f : Addr} {fd : FuncData} (F : Fun K "_law_door" "_law_door" s30 f fd) (np : Nat) (ks : List Str) (perm : List Nat) (h : (30, np, ks, perm) ∈ cf.KW) : KBinds K fd p30 ks (gP np ks.length perm) (gP np ks.length perm) := by
  simp only [cf, KWs, List.mem_cons, List.not_mem_nil, or_false, Prod.mk.injEq] at h
  rcases h with h | h | h | h | h | h | h
  · exact absurd h.1 (by decide)
  · exact absurd h.1 (by decide)
  · exact absurd h.1 (by decide)
  · exact absurd h.1 (by decide)
  · exact absurd h.1 (by decide)
  · exact absurd h.1 (by decide)
  · exact absurd h.1 (by decide)
theorem b31 {f : Addr} {fd : FuncData} (F : Fun K "_law_shown" "_law_shown" s31 f fd) : Binds K fd p31 [] := F.binds fun _ _ _ _ _ _ us hl => match us, hl with | [_, _, _], _ => rfl
theorem k31 {f : Addr} {fd : FuncData} (F : Fun K "_law_shown" "_law_shown" s31 f fd) (np : Nat) (ks : List Str) (perm : List Nat) (h : (31, np, ks, perm) ∈ cf.KW) : KBinds K fd p31 ks (gP np ks.length perm) (gP np ks.length perm) := by
  simp only [cf, KWs, List.mem_cons, List.not_mem_nil, or_false, Prod.mk.injEq] at h
  rcases h with h | h | h | h | h | h | h
  · exact absurd h.1 (by decide)
  · exact absurd h.1 (by decide)
  · exact absurd h.1 (by decide)
  · exact absurd h.1 (by decide)
  · exact absurd h.1 (by decide)
  · exact absurd h.1 (by decide)
  · exact absurd h.1 (by decide)
theorem b32 {f : Addr} {fd : FuncData} (F : Fun K "law" "law" s32 f fd) : Binds K fd p32 [] := F.binds fun _ _ _ _ _ _ us hl => match us, hl with | [_], _ => rfl
theorem k32 {f : Addr} {fd : FuncData} (F : Fun K "law" "law" s32 f fd) (np : Nat) (ks : List Str) (perm : List Nat) (h : (32, np, ks, perm) ∈ cf.KW) : KBinds K fd p32 ks (gP np ks.length perm) (gP np ks.length perm) := by
  simp only [cf, KWs, List.mem_cons, List.not_mem_nil, or_false, Prod.mk.injEq] at h
  rcases h with h | h | h | h | h | h | h
  · exact absurd h.1 (by decide)
  · exact absurd h.1 (by decide)
  · exact absurd h.1 (by decide)
  · exact absurd h.1 (by decide)
  · exact absurd h.1 (by decide)
  · exact absurd h.1 (by decide)
  · exact absurd h.1 (by decide)
theorem facts {w : World} {h : Heap} (X : K.In h) (N : h.Ns mainGlobals mg)
    {od0 an0 : Option Addr} {sl0 : Array (Option Value)} {oc0 kV0 dc0 pm0 cd0 ct0 : Value} {f0 : Addr}
    (hA0 : PySem.W.nsIn K mainGlobals "joined" = some (some (.ref f0))) (hL0 : K.lookup f0 = some ⟨oc0, od0, .func (PySem.W.fnOf "joined" "joined" (defArgs s0) (defBody s0) (defScope s0) .none kV0 dc0 pm0 an0 cd0 ct0), sl0⟩) (hC0 : PySem.W.codeIn K cd0 "joined" = true) (hK0 : PySem.W.keepIn K (.ref f0) = true)
    {od1 an1 : Option Addr} {sl1 : Array (Option Value)} {oc1 kV1 dc1 pm1 cd1 ct1 : Value} {f1 : Addr}
    (hA1 : PySem.W.nsIn K mainGlobals "show_number" = some (some (.ref f1))) (hL1 : K.lookup f1 = some ⟨oc1, od1, .func (PySem.W.fnOf "show_number" "show_number" (defArgs s1) (defBody s1) (defScope s1) .none kV1 dc1 pm1 an1 cd1 ct1), sl1⟩) (hC1 : PySem.W.codeIn K cd1 "show_number" = true) (hK1 : PySem.W.keepIn K (.ref f1) = true)
    {od2 an2 : Option Addr} {sl2 : Array (Option Value)} {oc2 kV2 dc2 pm2 cd2 ct2 : Value} {f2 : Addr}
    (hA2 : PySem.W.nsIn K mainGlobals "show_shares" = some (some (.ref f2))) (hL2 : K.lookup f2 = some ⟨oc2, od2, .func (PySem.W.fnOf "show_shares" "show_shares" (defArgs s2) (defBody s2) (defScope s2) .none kV2 dc2 pm2 an2 cd2 ct2), sl2⟩) (hC2 : PySem.W.codeIn K cd2 "show_shares" = true) (hK2 : PySem.W.keepIn K (.ref f2) = true)
    {od3 an3 : Option Addr} {sl3 : Array (Option Value)} {oc3 kV3 dc3 pm3 cd3 ct3 : Value} {f3 : Addr}
    (hA3 : PySem.W.nsIn K mainGlobals "show_figures" = some (some (.ref f3))) (hL3 : K.lookup f3 = some ⟨oc3, od3, .func (PySem.W.fnOf "show_figures" "show_figures" (defArgs s3) (defBody s3) (defScope s3) .none kV3 dc3 pm3 an3 cd3 ct3), sl3⟩) (hC3 : PySem.W.codeIn K cd3 "show_figures" = true) (hK3 : PySem.W.keepIn K (.ref f3) = true)
    {od4 an4 : Option Addr} {sl4 : Array (Option Value)} {oc4 kV4 dc4 pm4 cd4 ct4 : Value} {f4 : Addr}
    (hA4 : PySem.W.nsIn K mainGlobals "show_rows" = some (some (.ref f4))) (hL4 : K.lookup f4 = some ⟨oc4, od4, .func (PySem.W.fnOf "show_rows" "show_rows" (defArgs s4) (defBody s4) (defScope s4) .none kV4 dc4 pm4 an4 cd4 ct4), sl4⟩) (hC4 : PySem.W.codeIn K cd4 "show_rows" = true) (hK4 : PySem.W.keepIn K (.ref f4) = true)
    {od5 an5 : Option Addr} {sl5 : Array (Option Value)} {oc5 kV5 dc5 pm5 cd5 ct5 : Value} {f5 : Addr}
    (hA5 : PySem.W.nsIn K mainGlobals "show_leaves" = some (some (.ref f5))) (hL5 : K.lookup f5 = some ⟨oc5, od5, .func (PySem.W.fnOf "show_leaves" "show_leaves" (defArgs s5) (defBody s5) (defScope s5) .none kV5 dc5 pm5 an5 cd5 ct5), sl5⟩) (hC5 : PySem.W.codeIn K cd5 "show_leaves" = true) (hK5 : PySem.W.keepIn K (.ref f5) = true)
    {od6 an6 : Option Addr} {sl6 : Array (Option Value)} {oc6 kV6 dc6 pm6 cd6 ct6 : Value} {f6 : Addr}
    (hA6 : PySem.W.nsIn K mainGlobals "show_place" = some (some (.ref f6))) (hL6 : K.lookup f6 = some ⟨oc6, od6, .func (PySem.W.fnOf "show_place" "show_place" (defArgs s6) (defBody s6) (defScope s6) .none kV6 dc6 pm6 an6 cd6 ct6), sl6⟩) (hC6 : PySem.W.codeIn K cd6 "show_place" = true) (hK6 : PySem.W.keepIn K (.ref f6) = true)
    {od7 an7 : Option Addr} {sl7 : Array (Option Value)} {oc7 kV7 dc7 pm7 cd7 ct7 : Value} {f7 : Addr}
    (hA7 : PySem.W.nsIn K mainGlobals "show_machine" = some (some (.ref f7))) (hL7 : K.lookup f7 = some ⟨oc7, od7, .func (PySem.W.fnOf "show_machine" "show_machine" (defArgs s7) (defBody s7) (defScope s7) .none kV7 dc7 pm7 an7 cd7 ct7), sl7⟩) (hC7 : PySem.W.codeIn K cd7 "show_machine" = true) (hK7 : PySem.W.keepIn K (.ref f7) = true)
    {od8 an8 : Option Addr} {sl8 : Array (Option Value)} {oc8 kV8 dc8 pm8 cd8 ct8 : Value} {f8 : Addr}
    (hA8 : PySem.W.nsIn K mainGlobals "show_tosses" = some (some (.ref f8))) (hL8 : K.lookup f8 = some ⟨oc8, od8, .func (PySem.W.fnOf "show_tosses" "show_tosses" (defArgs s8) (defBody s8) (defScope s8) .none kV8 dc8 pm8 an8 cd8 ct8), sl8⟩) (hC8 : PySem.W.codeIn K cd8 "show_tosses" = true) (hK8 : PySem.W.keepIn K (.ref f8) = true)
    {od9 an9 : Option Addr} {sl9 : Array (Option Value)} {oc9 kV9 dc9 pm9 cd9 ct9 : Value} {f9 : Addr}
    (hA9 : PySem.W.nsIn K mainGlobals "show_table" = some (some (.ref f9))) (hL9 : K.lookup f9 = some ⟨oc9, od9, .func (PySem.W.fnOf "show_table" "show_table" (defArgs s9) (defBody s9) (defScope s9) .none kV9 dc9 pm9 an9 cd9 ct9), sl9⟩) (hC9 : PySem.W.codeIn K cd9 "show_table" = true) (hK9 : PySem.W.keepIn K (.ref f9) = true)
    {od10 an10 : Option Addr} {sl10 : Array (Option Value)} {oc10 kV10 dc10 pm10 cd10 ct10 : Value} {f10 : Addr}
    (hA10 : PySem.W.nsIn K mainGlobals "_law_well" = some (some (.ref f10))) (hL10 : K.lookup f10 = some ⟨oc10, od10, .func (PySem.W.fnOf "_law_well" "_law_well" (defArgs s10) (defBody s10) (defScope s10) .none kV10 dc10 pm10 an10 cd10 ct10), sl10⟩) (hC10 : PySem.W.codeIn K cd10 "_law_well" = true) (hK10 : PySem.W.keepIn K (.ref f10) = true)
    {od11 an11 : Option Addr} {sl11 : Array (Option Value)} {oc11 kV11 dc11 pm11 cd11 ct11 : Value} {f11 : Addr}
    (hA11 : PySem.W.nsIn K mainGlobals "_law_draw" = some (some (.ref f11))) (hL11 : K.lookup f11 = some ⟨oc11, od11, .func (PySem.W.fnOf "_law_draw" "_law_draw" (defArgs s11) (defBody s11) (defScope s11) .none kV11 dc11 pm11 an11 cd11 ct11), sl11⟩) (hC11 : PySem.W.codeIn K cd11 "_law_draw" = true) (hK11 : PySem.W.keepIn K (.ref f11) = true)
    {od12 an12 : Option Addr} {sl12 : Array (Option Value)} {oc12 kV12 dc12 pm12 cd12 ct12 : Value} {f12 : Addr}
    (hA12 : PySem.W.nsIn K mainGlobals "_law_same" = some (some (.ref f12))) (hL12 : K.lookup f12 = some ⟨oc12, od12, .func (PySem.W.fnOf "_law_same" "_law_same" (defArgs s12) (defBody s12) (defScope s12) .none kV12 dc12 pm12 an12 cd12 ct12), sl12⟩) (hC12 : PySem.W.codeIn K cd12 "_law_same" = true) (hK12 : PySem.W.keepIn K (.ref f12) = true)
    {od13 an13 : Option Addr} {sl13 : Array (Option Value)} {oc13 kV13 dc13 pm13 cd13 ct13 : Value} {f13 : Addr}
    (hA13 : PySem.W.nsIn K mainGlobals "_law_power" = some (some (.ref f13))) (hL13 : K.lookup f13 = some ⟨oc13, od13, .func (PySem.W.fnOf "_law_power" "_law_power" (defArgs s13) (defBody s13) (defScope s13) .none kV13 dc13 pm13 an13 cd13 ct13), sl13⟩) (hC13 : PySem.W.codeIn K cd13 "_law_power" = true) (hK13 : PySem.W.keepIn K (.ref f13) = true)
    {od14 an14 : Option Addr} {sl14 : Array (Option Value)} {oc14 kV14 dc14 pm14 cd14 ct14 : Value} {f14 : Addr}
    (hA14 : PySem.W.nsIn K mainGlobals "_law_low" = some (some (.ref f14))) (hL14 : K.lookup f14 = some ⟨oc14, od14, .func (PySem.W.fnOf "_law_low" "_law_low" (defArgs s14) (defBody s14) (defScope s14) .none kV14 dc14 pm14 an14 cd14 ct14), sl14⟩) (hC14 : PySem.W.codeIn K cd14 "_law_low" = true) (hK14 : PySem.W.keepIn K (.ref f14) = true)
    {od15 an15 : Option Addr} {sl15 : Array (Option Value)} {oc15 kV15 dc15 pm15 cd15 ct15 : Value} {f15 : Addr}
    (hA15 : PySem.W.nsIn K mainGlobals "_law_integer" = some (some (.ref f15))) (hL15 : K.lookup f15 = some ⟨oc15, od15, .func (PySem.W.fnOf "_law_integer" "_law_integer" (defArgs s15) (defBody s15) (defScope s15) .none kV15 dc15 pm15 an15 cd15 ct15), sl15⟩) (hC15 : PySem.W.codeIn K cd15 "_law_integer" = true) (hK15 : PySem.W.keepIn K (.ref f15) = true)
    {od16 an16 : Option Addr} {sl16 : Array (Option Value)} {oc16 kV16 dc16 pm16 cd16 ct16 : Value} {f16 : Addr}
    (hA16 : PySem.W.nsIn K mainGlobals "_law_number" = some (some (.ref f16))) (hL16 : K.lookup f16 = some ⟨oc16, od16, .func (PySem.W.fnOf "_law_number" "_law_number" (defArgs s16) (defBody s16) (defScope s16) .none kV16 dc16 pm16 an16 cd16 ct16), sl16⟩) (hC16 : PySem.W.codeIn K cd16 "_law_number" = true) (hK16 : PySem.W.keepIn K (.ref f16) = true)
    {od17 an17 : Option Addr} {sl17 : Array (Option Value)} {oc17 kV17 dc17 pm17 cd17 ct17 : Value} {f17 : Addr}
    (hA17 : PySem.W.nsIn K mainGlobals "_law_shares" = some (some (.ref f17))) (hL17 : K.lookup f17 = some ⟨oc17, od17, .func (PySem.W.fnOf "_law_shares" "_law_shares" (defArgs s17) (defBody s17) (defScope s17) .none kV17 dc17 pm17 an17 cd17 ct17), sl17⟩) (hC17 : PySem.W.codeIn K cd17 "_law_shares" = true) (hK17 : PySem.W.keepIn K (.ref f17) = true)
    {od18 an18 : Option Addr} {sl18 : Array (Option Value)} {oc18 kV18 dc18 pm18 cd18 ct18 : Value} {f18 : Addr}
    (hA18 : PySem.W.nsIn K mainGlobals "_law_signs" = some (some (.ref f18))) (hL18 : K.lookup f18 = some ⟨oc18, od18, .func (PySem.W.fnOf "_law_signs" "_law_signs" (defArgs s18) (defBody s18) (defScope s18) .none kV18 dc18 pm18 an18 cd18 ct18), sl18⟩) (hC18 : PySem.W.codeIn K cd18 "_law_signs" = true) (hK18 : PySem.W.keepIn K (.ref f18) = true)
    {od19 an19 : Option Addr} {sl19 : Array (Option Value)} {oc19 kV19 dc19 pm19 cd19 ct19 : Value} {f19 : Addr}
    (hA19 : PySem.W.nsIn K mainGlobals "_law_rows" = some (some (.ref f19))) (hL19 : K.lookup f19 = some ⟨oc19, od19, .func (PySem.W.fnOf "_law_rows" "_law_rows" (defArgs s19) (defBody s19) (defScope s19) .none kV19 dc19 pm19 an19 cd19 ct19), sl19⟩) (hC19 : PySem.W.codeIn K cd19 "_law_rows" = true) (hK19 : PySem.W.keepIn K (.ref f19) = true)
    {od20 an20 : Option Addr} {sl20 : Array (Option Value)} {oc20 kV20 dc20 pm20 cd20 ct20 : Value} {f20 : Addr}
    (hA20 : PySem.W.nsIn K mainGlobals "_law_place" = some (some (.ref f20))) (hL20 : K.lookup f20 = some ⟨oc20, od20, .func (PySem.W.fnOf "_law_place" "_law_place" (defArgs s20) (defBody s20) (defScope s20) .none kV20 dc20 pm20 an20 cd20 ct20), sl20⟩) (hC20 : PySem.W.codeIn K cd20 "_law_place" = true) (hK20 : PySem.W.keepIn K (.ref f20) = true)
    {od21 an21 : Option Addr} {sl21 : Array (Option Value)} {oc21 kV21 dc21 pm21 cd21 ct21 : Value} {f21 : Addr}
    (hA21 : PySem.W.nsIn K mainGlobals "_law_machine" = some (some (.ref f21))) (hL21 : K.lookup f21 = some ⟨oc21, od21, .func (PySem.W.fnOf "_law_machine" "_law_machine" (defArgs s21) (defBody s21) (defScope s21) .none kV21 dc21 pm21 an21 cd21 ct21), sl21⟩) (hC21 : PySem.W.codeIn K cd21 "_law_machine" = true) (hK21 : PySem.W.keepIn K (.ref f21) = true)
    {od22 an22 : Option Addr} {sl22 : Array (Option Value)} {oc22 kV22 dc22 pm22 cd22 ct22 : Value} {f22 : Addr}
    (hA22 : PySem.W.nsIn K mainGlobals "_law_cell" = some (some (.ref f22))) (hL22 : K.lookup f22 = some ⟨oc22, od22, .func (PySem.W.fnOf "_law_cell" "_law_cell" (defArgs s22) (defBody s22) (defScope s22) .none kV22 dc22 pm22 an22 cd22 ct22), sl22⟩) (hC22 : PySem.W.codeIn K cd22 "_law_cell" = true) (hK22 : PySem.W.keepIn K (.ref f22) = true)
    {od23 an23 : Option Addr} {sl23 : Array (Option Value)} {oc23 kV23 dc23 pm23 cd23 ct23 : Value} {f23 : Addr}
    (hA23 : PySem.W.nsIn K mainGlobals "_law_said_number" = some (some (.ref f23))) (hL23 : K.lookup f23 = some ⟨oc23, od23, .func (PySem.W.fnOf "_law_said_number" "_law_said_number" (defArgs s23) (defBody s23) (defScope s23) .none kV23 dc23 pm23 an23 cd23 ct23), sl23⟩) (hC23 : PySem.W.codeIn K cd23 "_law_said_number" = true) (hK23 : PySem.W.keepIn K (.ref f23) = true)
    {od24 an24 : Option Addr} {sl24 : Array (Option Value)} {oc24 kV24 dc24 pm24 cd24 ct24 : Value} {f24 : Addr}
    (hA24 : PySem.W.nsIn K mainGlobals "_law_said_all" = some (some (.ref f24))) (hL24 : K.lookup f24 = some ⟨oc24, od24, .func (PySem.W.fnOf "_law_said_all" "_law_said_all" (defArgs s24) (defBody s24) (defScope s24) .none kV24 dc24 pm24 an24 cd24 ct24), sl24⟩) (hC24 : PySem.W.codeIn K cd24 "_law_said_all" = true) (hK24 : PySem.W.keepIn K (.ref f24) = true)
    {od25 an25 : Option Addr} {sl25 : Array (Option Value)} {oc25 kV25 dc25 pm25 cd25 ct25 : Value} {f25 : Addr}
    (hA25 : PySem.W.nsIn K mainGlobals "_law_said_signs" = some (some (.ref f25))) (hL25 : K.lookup f25 = some ⟨oc25, od25, .func (PySem.W.fnOf "_law_said_signs" "_law_said_signs" (defArgs s25) (defBody s25) (defScope s25) .none kV25 dc25 pm25 an25 cd25 ct25), sl25⟩) (hC25 : PySem.W.codeIn K cd25 "_law_said_signs" = true) (hK25 : PySem.W.keepIn K (.ref f25) = true)
    {od26 an26 : Option Addr} {sl26 : Array (Option Value)} {oc26 kV26 dc26 pm26 cd26 ct26 : Value} {f26 : Addr}
    (hA26 : PySem.W.nsIn K mainGlobals "_law_said_rows" = some (some (.ref f26))) (hL26 : K.lookup f26 = some ⟨oc26, od26, .func (PySem.W.fnOf "_law_said_rows" "_law_said_rows" (defArgs s26) (defBody s26) (defScope s26) .none kV26 dc26 pm26 an26 cd26 ct26), sl26⟩) (hC26 : PySem.W.codeIn K cd26 "_law_said_rows" = true) (hK26 : PySem.W.keepIn K (.ref f26) = true)
    {od27 an27 : Option Addr} {sl27 : Array (Option Value)} {oc27 kV27 dc27 pm27 cd27 ct27 : Value} {f27 : Addr}
    (hA27 : PySem.W.nsIn K mainGlobals "_law_said_place" = some (some (.ref f27))) (hL27 : K.lookup f27 = some ⟨oc27, od27, .func (PySem.W.fnOf "_law_said_place" "_law_said_place" (defArgs s27) (defBody s27) (defScope s27) .none kV27 dc27 pm27 an27 cd27 ct27), sl27⟩) (hC27 : PySem.W.codeIn K cd27 "_law_said_place" = true) (hK27 : PySem.W.keepIn K (.ref f27) = true)
    {od28 an28 : Option Addr} {sl28 : Array (Option Value)} {oc28 kV28 dc28 pm28 cd28 ct28 : Value} {f28 : Addr}
    (hA28 : PySem.W.nsIn K mainGlobals "_law_said_machine" = some (some (.ref f28))) (hL28 : K.lookup f28 = some ⟨oc28, od28, .func (PySem.W.fnOf "_law_said_machine" "_law_said_machine" (defArgs s28) (defBody s28) (defScope s28) .none kV28 dc28 pm28 an28 cd28 ct28), sl28⟩) (hC28 : PySem.W.codeIn K cd28 "_law_said_machine" = true) (hK28 : PySem.W.keepIn K (.ref f28) = true)
    {od29 an29 : Option Addr} {sl29 : Array (Option Value)} {oc29 kV29 dc29 pm29 cd29 ct29 : Value} {f29 : Addr}
    (hA29 : PySem.W.nsIn K mainGlobals "_law_said_table" = some (some (.ref f29))) (hL29 : K.lookup f29 = some ⟨oc29, od29, .func (PySem.W.fnOf "_law_said_table" "_law_said_table" (defArgs s29) (defBody s29) (defScope s29) .none kV29 dc29 pm29 an29 cd29 ct29), sl29⟩) (hC29 : PySem.W.codeIn K cd29 "_law_said_table" = true) (hK29 : PySem.W.keepIn K (.ref f29) = true)
    {od30 an30 : Option Addr} {sl30 : Array (Option Value)} {oc30 kV30 dc30 pm30 cd30 ct30 : Value} {f30 : Addr}
    (hA30 : PySem.W.nsIn K mainGlobals "_law_door" = some (some (.ref f30))) (hL30 : K.lookup f30 = some ⟨oc30, od30, .func (PySem.W.fnOf "_law_door" "_law_door" (defArgs s30) (defBody s30) (defScope s30) .none kV30 dc30 pm30 an30 cd30 ct30), sl30⟩) (hC30 : PySem.W.codeIn K cd30 "_law_door" = true) (hK30 : PySem.W.keepIn K (.ref f30) = true)
    {od31 an31 : Option Addr} {sl31 : Array (Option Value)} {oc31 kV31 dc31 pm31 cd31 ct31 : Value} {f31 : Addr}
    (hA31 : PySem.W.nsIn K mainGlobals "_law_shown" = some (some (.ref f31))) (hL31 : K.lookup f31 = some ⟨oc31, od31, .func (PySem.W.fnOf "_law_shown" "_law_shown" (defArgs s31) (defBody s31) (defScope s31) .none kV31 dc31 pm31 an31 cd31 ct31), sl31⟩) (hC31 : PySem.W.codeIn K cd31 "_law_shown" = true) (hK31 : PySem.W.keepIn K (.ref f31) = true)
    {od32 an32 : Option Addr} {sl32 : Array (Option Value)} {oc32 kV32 dc32 pm32 cd32 ct32 : Value} {f32 : Addr}
    (hA32 : PySem.W.nsIn K mainGlobals "law" = some (some (.ref f32))) (hL32 : K.lookup f32 = some ⟨oc32, od32, .func (PySem.W.fnOf "law" "law" (defArgs s32) (defBody s32) (defScope s32) .none kV32 dc32 pm32 an32 cd32 ct32), sl32⟩) (hC32 : PySem.W.codeIn K cd32 "law" = true) (hK32 : PySem.W.keepIn K (.ref f32) = true)
    {nC0 : Nat} (aC0 : PySem.W.nsIn K mainGlobals "NONE" = some (some (.str (Str.ofString "-") nC0)))
    {tD0 : Addr} {esD0 : Array DictEntry} {nD0 q100_0 q100_1 : Nat}
    (aD0 : PySem.W.nsIn K mainGlobals "SIGNS" = some (some (.ref tD0))) (lD0 : K.lookup tD0 = some ⟨.type "dict", none, .dict esD0 nD0, #[]⟩) (kD0 : PySem.W.KeysLit w.params esD0.toList) (vD0_0 : PySem.W.nsIn K tD0 "to" = some (some (.str (Str.ofString "s") q100_0))) (vD0_1 : PySem.W.nsIn K tD0 "is" = some (some (.str (Str.ofString "i") q100_1)))
    (z0 : PySem.W.nsIn K mainGlobals "str" = some none)
    (z1 : PySem.W.nsIn K mainGlobals "len" = some none)
    (z2 : PySem.W.nsIn K mainGlobals "int" = some none)
    (z3 : PySem.W.nsIn K mainGlobals "max" = some none)
    (z4 : PySem.W.nsIn K mainGlobals "abs" = some none)
    (z5 : PySem.W.nsIn K mainGlobals "all" = some none)
    (z6 : PySem.W.nsIn K mainGlobals "range" = some none)
    (z7 : PySem.W.nsIn K mainGlobals "isinstance" = some none)
    (z8 : PySem.W.nsIn K mainGlobals "tuple" = some none)
    (z9 : PySem.W.nsIn K mainGlobals "list" = some none)
    (z10 : PySem.W.nsIn K mainGlobals "bool" = some none)
    (z11 : PySem.W.nsIn K mainGlobals "min" = some none)
    : Facts K w mg (fun c => ([] : List Addr).getD c 0) cf := by
  refine ⟨fun x k e => ?_, fun x d e => ?_, fun x id e => ?_, fun x e m => ?_, fun x kvs e => ?_, fun x c e l => ?_, fun c h1 l1 hc l2 hh => ?_⟩
  · rcases G_fn e with ⟨rfl, rfl⟩ | ⟨rfl, rfl⟩ | ⟨rfl, rfl⟩ | ⟨rfl, rfl⟩ | ⟨rfl, rfl⟩ | ⟨rfl, rfl⟩ | ⟨rfl, rfl⟩ | ⟨rfl, rfl⟩ | ⟨rfl, rfl⟩ | ⟨rfl, rfl⟩ | ⟨rfl, rfl⟩ | ⟨rfl, rfl⟩ | ⟨rfl, rfl⟩ | ⟨rfl, rfl⟩ | ⟨rfl, rfl⟩ | ⟨rfl, rfl⟩ | ⟨rfl, rfl⟩ | ⟨rfl, rfl⟩ | ⟨rfl, rfl⟩ | ⟨rfl, rfl⟩ | ⟨rfl, rfl⟩ | ⟨rfl, rfl⟩ | ⟨rfl, rfl⟩ | ⟨rfl, rfl⟩ | ⟨rfl, rfl⟩ | ⟨rfl, rfl⟩ | ⟨rfl, rfl⟩ | ⟨rfl, rfl⟩ | ⟨rfl, rfl⟩ | ⟨rfl, rfl⟩ | ⟨rfl, rfl⟩ | ⟨rfl, rfl⟩ | ⟨rfl, rfl⟩
    · exact ⟨"joined", "joined", s0, f0, _, n0, p0, [false], c0, fun_mk hL0 hC0 hK0, PySem.W.mg_of X N hA0, sc0, b0 (fun_mk hL0 hC0 hK0), rfl, rfl, ok0, k0 (fun_mk hL0 hC0 hK0)⟩
    · exact ⟨"show_number", "show_number", s1, f1, _, n1, p1, [false], c1, fun_mk hL1 hC1 hK1, PySem.W.mg_of X N hA1, sc1, b1 (fun_mk hL1 hC1 hK1), rfl, rfl, ok1, k1 (fun_mk hL1 hC1 hK1)⟩
    · exact ⟨"show_shares", "show_shares", s2, f2, _, n2, p2, [false], c2, fun_mk hL2 hC2 hK2, PySem.W.mg_of X N hA2, sc2, b2 (fun_mk hL2 hC2 hK2), rfl, rfl, ok2, k2 (fun_mk hL2 hC2 hK2)⟩
    · exact ⟨"show_figures", "show_figures", s3, f3, _, n3, p3, [false], c3, fun_mk hL3 hC3 hK3, PySem.W.mg_of X N hA3, sc3, b3 (fun_mk hL3 hC3 hK3), rfl, rfl, ok3, k3 (fun_mk hL3 hC3 hK3)⟩
    · exact ⟨"show_rows", "show_rows", s4, f4, _, n4, p4, [false], c4, fun_mk hL4 hC4 hK4, PySem.W.mg_of X N hA4, sc4, b4 (fun_mk hL4 hC4 hK4), rfl, rfl, ok4, k4 (fun_mk hL4 hC4 hK4)⟩
    · exact ⟨"show_leaves", "show_leaves", s5, f5, _, n5, p5, [false], c5, fun_mk hL5 hC5 hK5, PySem.W.mg_of X N hA5, sc5, b5 (fun_mk hL5 hC5 hK5), rfl, rfl, ok5, k5 (fun_mk hL5 hC5 hK5)⟩
    · exact ⟨"show_place", "show_place", s6, f6, _, n6, p6, [false], c6, fun_mk hL6 hC6 hK6, PySem.W.mg_of X N hA6, sc6, b6 (fun_mk hL6 hC6 hK6), rfl, rfl, ok6, k6 (fun_mk hL6 hC6 hK6)⟩
    · exact ⟨"show_machine", "show_machine", s7, f7, _, n7, p7, [false], c7, fun_mk hL7 hC7 hK7, PySem.W.mg_of X N hA7, sc7, b7 (fun_mk hL7 hC7 hK7), rfl, rfl, ok7, k7 (fun_mk hL7 hC7 hK7)⟩
    · exact ⟨"show_tosses", "show_tosses", s8, f8, _, n8, p8, [false], c8, fun_mk hL8 hC8 hK8, PySem.W.mg_of X N hA8, sc8, b8 (fun_mk hL8 hC8 hK8), rfl, rfl, ok8, k8 (fun_mk hL8 hC8 hK8)⟩
    · exact ⟨"show_table", "show_table", s9, f9, _, n9, p9, [false], c9, fun_mk hL9 hC9 hK9, PySem.W.mg_of X N hA9, sc9, b9 (fun_mk hL9 hC9 hK9), rfl, rfl, ok9, k9 (fun_mk hL9 hC9 hK9)⟩
    · exact ⟨"_law_well", "_law_well", s10, f10, _, n10, p10, [false, false], c10, fun_mk hL10 hC10 hK10, PySem.W.mg_of X N hA10, sc10, b10 (fun_mk hL10 hC10 hK10), rfl, rfl, ok10, k10 (fun_mk hL10 hC10 hK10)⟩
    · exact ⟨"_law_draw", "_law_draw", s11, f11, _, n11, p11, [true, false], c11, fun_mk hL11 hC11 hK11, PySem.W.mg_of X N hA11, sc11, b11 (fun_mk hL11 hC11 hK11), rfl, rfl, ok11, k11 (fun_mk hL11 hC11 hK11)⟩
    · exact ⟨"_law_same", "_law_same", s12, f12, _, n12, p12, [false, false], c12, fun_mk hL12 hC12 hK12, PySem.W.mg_of X N hA12, sc12, b12 (fun_mk hL12 hC12 hK12), rfl, rfl, ok12, k12 (fun_mk hL12 hC12 hK12)⟩
    · exact ⟨"_law_power", "_law_power", s13, f13, _, n13, p13, [false, false], c13, fun_mk hL13 hC13 hK13, PySem.W.mg_of X N hA13, sc13, b13 (fun_mk hL13 hC13 hK13), rfl, rfl, ok13, k13 (fun_mk hL13 hC13 hK13)⟩
    · exact ⟨"_law_low", "_law_low", s14, f14, _, n14, p14, [false, false], c14, fun_mk hL14 hC14 hK14, PySem.W.mg_of X N hA14, sc14, b14 (fun_mk hL14 hC14 hK14), rfl, rfl, ok14, k14 (fun_mk hL14 hC14 hK14)⟩
    · exact ⟨"_law_integer", "_law_integer", s15, f15, _, n15, p15, [true, false], c15, fun_mk hL15 hC15 hK15, PySem.W.mg_of X N hA15, sc15, b15 (fun_mk hL15 hC15 hK15), rfl, rfl, ok15, k15 (fun_mk hL15 hC15 hK15)⟩
    · exact ⟨"_law_number", "_law_number", s16, f16, _, n16, p16, [true, false], c16, fun_mk hL16 hC16 hK16, PySem.W.mg_of X N hA16, sc16, b16 (fun_mk hL16 hC16 hK16), rfl, rfl, ok16, k16 (fun_mk hL16 hC16 hK16)⟩
    · exact ⟨"_law_shares", "_law_shares", s17, f17, _, n17, p17, [true, false, false], c17, fun_mk hL17 hC17 hK17, PySem.W.mg_of X N hA17, sc17, b17 (fun_mk hL17 hC17 hK17), rfl, rfl, ok17, k17 (fun_mk hL17 hC17 hK17)⟩
    · exact ⟨"_law_signs", "_law_signs", s18, f18, _, n18, p18, [true, false], c18, fun_mk hL18 hC18 hK18, PySem.W.mg_of X N hA18, sc18, b18 (fun_mk hL18 hC18 hK18), rfl, rfl, ok18, k18 (fun_mk hL18 hC18 hK18)⟩
    · exact ⟨"_law_rows", "_law_rows", s19, f19, _, n19, p19, [true, false, false, false], c19, fun_mk hL19 hC19 hK19, PySem.W.mg_of X N hA19, sc19, b19 (fun_mk hL19 hC19 hK19), rfl, rfl, ok19, k19 (fun_mk hL19 hC19 hK19)⟩
    · exact ⟨"_law_place", "_law_place", s20, f20, _, n20, p20, [true, false, false], c20, fun_mk hL20 hC20 hK20, PySem.W.mg_of X N hA20, sc20, b20 (fun_mk hL20 hC20 hK20), rfl, rfl, ok20, k20 (fun_mk hL20 hC20 hK20)⟩
    · exact ⟨"_law_machine", "_law_machine", s21, f21, _, n21, p21, [true, false, false], c21, fun_mk hL21 hC21 hK21, PySem.W.mg_of X N hA21, sc21, b21 (fun_mk hL21 hC21 hK21), rfl, rfl, ok21, k21 (fun_mk hL21 hC21 hK21)⟩
    · exact ⟨"_law_cell", "_law_cell", s22, f22, _, n22, p22, [true, false], c22, fun_mk hL22 hC22 hK22, PySem.W.mg_of X N hA22, sc22, b22 (fun_mk hL22 hC22 hK22), rfl, rfl, ok22, k22 (fun_mk hL22 hC22 hK22)⟩
    · exact ⟨"_law_said_number", "_law_said_number", s23, f23, _, n23, p23, [false], c23, fun_mk hL23 hC23 hK23, PySem.W.mg_of X N hA23, sc23, b23 (fun_mk hL23 hC23 hK23), rfl, rfl, ok23, k23 (fun_mk hL23 hC23 hK23)⟩
    · exact ⟨"_law_said_all", "_law_said_all", s24, f24, _, n24, p24, [false], c24, fun_mk hL24 hC24 hK24, PySem.W.mg_of X N hA24, sc24, b24 (fun_mk hL24 hC24 hK24), rfl, rfl, ok24, k24 (fun_mk hL24 hC24 hK24)⟩
    · exact ⟨"_law_said_signs", "_law_said_signs", s25, f25, _, n25, p25, [false], c25, fun_mk hL25 hC25 hK25, PySem.W.mg_of X N hA25, sc25, b25 (fun_mk hL25 hC25 hK25), rfl, rfl, ok25, k25 (fun_mk hL25 hC25 hK25)⟩
    · exact ⟨"_law_said_rows", "_law_said_rows", s26, f26, _, n26, p26, [false], c26, fun_mk hL26 hC26 hK26, PySem.W.mg_of X N hA26, sc26, b26 (fun_mk hL26 hC26 hK26), rfl, rfl, ok26, k26 (fun_mk hL26 hC26 hK26)⟩
    · exact ⟨"_law_said_place", "_law_said_place", s27, f27, _, n27, p27, [false], c27, fun_mk hL27 hC27 hK27, PySem.W.mg_of X N hA27, sc27, b27 (fun_mk hL27 hC27 hK27), rfl, rfl, ok27, k27 (fun_mk hL27 hC27 hK27)⟩
    · exact ⟨"_law_said_machine", "_law_said_machine", s28, f28, _, n28, p28, [false], c28, fun_mk hL28 hC28 hK28, PySem.W.mg_of X N hA28, sc28, b28 (fun_mk hL28 hC28 hK28), rfl, rfl, ok28, k28 (fun_mk hL28 hC28 hK28)⟩
    · exact ⟨"_law_said_table", "_law_said_table", s29, f29, _, n29, p29, [false], c29, fun_mk hL29 hC29 hK29, PySem.W.mg_of X N hA29, sc29, b29 (fun_mk hL29 hC29 hK29), rfl, rfl, ok29, k29 (fun_mk hL29 hC29 hK29)⟩
    · exact ⟨"_law_door", "_law_door", s30, f30, _, n30, p30, [true, false, false, false], c30, fun_mk hL30 hC30 hK30, PySem.W.mg_of X N hA30, sc30, b30 (fun_mk hL30 hC30 hK30), rfl, rfl, ok30, k30 (fun_mk hL30 hC30 hK30)⟩
    · exact ⟨"_law_shown", "_law_shown", s31, f31, _, n31, p31, [false, false, false], c31, fun_mk hL31 hC31 hK31, PySem.W.mg_of X N hA31, sc31, b31 (fun_mk hL31 hC31 hK31), rfl, rfl, ok31, k31 (fun_mk hL31 hC31 hK31)⟩
    · exact ⟨"law", "law", s32, f32, _, n32, p32, [false], c32, fun_mk hL32 hC32 hK32, PySem.W.mg_of X N hA32, sc32, b32 (fun_mk hL32 hC32 hK32), rfl, rfl, ok32, k32 (fun_mk hL32 hC32 hK32)⟩
  · rcases G_cst e with ⟨rfl, rfl⟩
    · exact cst_str (PySem.W.mg_of X N aC0)
  · exact (G_bfn e).elim
  · simp only [cf, BLs, List.mem_cons, List.not_mem_nil, or_false] at m
    rcases m with rfl | rfl | rfl | rfl | rfl | rfl | rfl | rfl | rfl | rfl | rfl | rfl
    · exact PySem.W.mg_none_of X N z0
    · exact PySem.W.mg_none_of X N z1
    · exact PySem.W.mg_none_of X N z2
    · exact PySem.W.mg_none_of X N z3
    · exact PySem.W.mg_none_of X N z4
    · exact PySem.W.mg_none_of X N z5
    · exact PySem.W.mg_none_of X N z6
    · exact PySem.W.mg_none_of X N z7
    · exact PySem.W.mg_none_of X N z8
    · exact PySem.W.mg_none_of X N z9
    · exact PySem.W.mg_none_of X N z10
    · exact PySem.W.mg_none_of X N z11
  · rcases G_cdt e with ⟨rfl, rfl⟩
    · refine ⟨tD0, PySem.W.mg_of X N aD0, fun k v hm => ?_⟩
      simp only [List.mem_cons, List.not_mem_nil, or_false, Prod.mk.injEq] at hm
      rcases hm with ⟨rfl, rfl⟩ | ⟨rfl, rfl⟩
      · exact ⟨esD0, nD0, _, lD0, kD0, vD0_0, ⟨_, rfl⟩⟩
      · exact ⟨esD0, nD0, _, lD0, kD0, vD0_1, ⟨_, rfl⟩⟩
  · exact absurd e (by simp [cf, CLs])
  · exact absurd hc (by simp [cf, CLs])
end
end LW
set_option maxRecDepth 100000
set_option maxHeartbeats 0
set_option exponentiation.threshold 10000
/-! PR: numbers as pairs, sizes, sums: no program here. -/
namespace LW
open PySem PD
def P (q : Rat) : PyData := .tuple [.int q.num, .int (q.den : Nat)]
/-- of at most m bits -/
def Sz (m : Nat) (q : Rat) : Prop := q.num.natAbs < 2 ^ m ∧ q.den < 2 ^ m
theorem log2_le {n m : Nat} (h : n < 2 ^ m) (h0 : 0 < m) : n.log2 < m := by
  by_cases e : n = 0
  · subst e; simpa using h0
  · exact (Nat.log2_lt e).mpr h
theorem mulOk_of {i j : Int} {a b : Nat} (ha : i.natAbs < 2 ^ a) (hb : j.natAbs < 2 ^ b) (h0 : 0 < a) (h1 : 0 < b) (h : a + b ≤ 1000000) : mulOk i j = true := by
  unfold mulOk
  have h2 := log2_le ha h0
  have h3 := log2_le hb h1
  rw [Bool.or_eq_true, decide_eq_true_eq]
  exact .inl (by omega)
theorem mulOk_l {i j : Int} (h : i.natAbs < 2 ^ 64) : mulOk i j = true := by
  unfold mulOk
  rw [decide_eq_true h]
  simp
theorem mulOk_r {i j : Int} (h : j.natAbs < 2 ^ 64) : mulOk i j = true := by
  unfold mulOk
  rw [decide_eq_true h]
  simp
theorem divOk_of {j : Int} {b : Nat} (h : 0 < j) (hb : j.natAbs < 2 ^ b) (h1 : 0 < b) (h9 : b ≤ 9000) : divOk j = true := by
  unfold divOk
  have h3 := log2_le hb h1
  simp only [Bool.and_eq_true, decide_eq_true_eq]
  exact ⟨h, by omega⟩
theorem powOk_of {i : Int} {n b : Nat} (h : i.natAbs < 2 ^ b) (h0 : 0 < b) (hn : b * n ≤ 134217728) : powOk i (n : Int) = true := by
  have := log2_le h h0
  show decide _ = true
  rw [decide_eq_true_eq]
  exact Nat.le_trans (Nat.mul_le_mul_right n (by omega)) hn
theorem nat_lt {n : Nat} {i : Int} {a : Nat} (hi : 0 ≤ i) (ha : i < 2 ^ a) : i.natAbs < 2 ^ a := by
  have : (i.natAbs : Int) < ((2 ^ a : Nat) : Int) := by rw [Int.natAbs_of_nonneg hi]; push_cast; exact ha
  exact_mod_cast this
theorem mul_small {i j : Int} {a b : Nat} (hi : 0 ≤ i) (ha : i < 2 ^ a) (hj : 0 ≤ j) (hb : j < 2 ^ b) (h0 : 0 < a) (h1 : 0 < b) (h : a + b ≤ 1000000) : mulOk i j = true :=
  mulOk_of (nat_lt (n := 0) hi ha) (nat_lt (n := 0) hj hb) h0 h1 h
theorem mk_num {n : Int} {d : Nat} (h : d ≠ 0) : (mkRat n d).num = n / (n.natAbs.gcd d : Nat) ∧ (mkRat n d).den = d / n.natAbs.gcd d := by
  rw [← Rat.normalize_eq_mkRat h, Rat.normalize_eq h]
  exact ⟨rfl, rfl⟩
theorem gcd_pos {n d : Nat} (h : d ≠ 0) : 0 < n.gcd d := Nat.gcd_pos_of_pos_right _ (Nat.pos_of_ne_zero h)
theorem sz_mul {a b : Rat} {x y : Nat} (ha : Sz x a) (hb : Sz y b) : a.den * b.den < 2 ^ (x + y) := by
  rw [Nat.pow_add]; exact Nat.mul_lt_mul'' ha.2 hb.2
theorem Sz.add {a b : Rat} {x y : Nat} (ha : Sz x a) (hb : Sz y b) : Sz (x + y + 1) (a + b) := by
  rw [Rat.add_def']
  have h0 : a.den * b.den ≠ 0 := Nat.mul_ne_zero a.den_nz b.den_nz
  obtain ⟨h1, h2⟩ := mk_num (n := a.num * b.den + b.num * a.den) h0
  have hg := gcd_pos (n := (a.num * b.den + b.num * a.den).natAbs) h0
  refine ⟨?_, ?_⟩
  · rw [h1]
    refine Nat.lt_of_le_of_lt (Int.natAbs_ediv_le_natAbs _ _) ?_
    refine Nat.lt_of_le_of_lt (Int.natAbs_add_le _ _) ?_
    rw [Int.natAbs_mul, Int.natAbs_mul, Int.natAbs_natCast, Int.natAbs_natCast]
    have q1 := Nat.mul_lt_mul'' ha.1 hb.2
    have q2 := Nat.mul_lt_mul'' hb.1 ha.2
    rw [← Nat.pow_add] at q1 q2
    rw [Nat.add_comm y x] at q2
    rw [Nat.pow_succ]
    omega
  · rw [h2]
    refine Nat.lt_of_le_of_lt (Nat.div_le_self _ _) ?_
    exact Nat.lt_trans (sz_mul ha hb) (Nat.pow_lt_pow_right (by decide) (by omega))
theorem Sz.mul {a b : Rat} {x y : Nat} (ha : Sz x a) (hb : Sz y b) : Sz (x + y) (a * b) := by
  rw [Rat.mul_def']
  have h0 : a.den * b.den ≠ 0 := Nat.mul_ne_zero a.den_nz b.den_nz
  obtain ⟨h1, h2⟩ := mk_num (n := a.num * b.num) h0
  refine ⟨?_, ?_⟩
  · rw [h1]
    refine Nat.lt_of_le_of_lt (Int.natAbs_ediv_le_natAbs _ _) ?_
    rw [Int.natAbs_mul, Nat.pow_add]
    exact Nat.mul_lt_mul'' ha.1 hb.1
  · rw [h2]
    exact Nat.lt_of_le_of_lt (Nat.div_le_self _ _) (sz_mul ha hb)
theorem Sz.le {a : Rat} {x y : Nat} (h : Sz x a) (l : x ≤ y) : Sz y a := ⟨Nat.lt_of_lt_of_le h.1 (Nat.pow_le_pow_right (by decide) l), Nat.lt_of_lt_of_le h.2 (Nat.pow_le_pow_right (by decide) l)⟩
theorem sz_mk {w : Int} {d : Nat} (h : d ≠ 0) {m : Nat} (hw : w.natAbs < 2 ^ m) (hd : d < 2 ^ m) : Sz m (mkRat w d) := by
  obtain ⟨h1, h2⟩ := mk_num (n := w) h
  refine ⟨?_, ?_⟩
  · rw [h1]; exact Nat.lt_of_le_of_lt (Int.natAbs_ediv_le_natAbs _ _) hw
  · rw [h2]; exact Nat.lt_of_le_of_lt (Nat.div_le_self _ _) hd
theorem Sz.mono0 : Sz 1 (0 : Rat) := ⟨by decide, by decide⟩
theorem mk_pos {w : Int} {d : Nat} (h : d ≠ 0) (hw : 0 < w) : 0 < mkRat w d := by
  obtain ⟨h1, h2⟩ := mk_num (n := w) h
  have h0 : 0 ≤ (mkRat w d).num := by
    rw [h1]; exact Int.ediv_nonneg (by omega) (by omega)
  have h3 : 0 ≤ mkRat w d := Rat.num_nonneg.mp h0
  have h4 : mkRat w d ≠ 0 := fun e => by
    have := (Rat.mkRat_eq_zero h).mp e
    omega
  exact Rat.lt_of_le_of_ne h3 (Ne.symm h4)
theorem mk_add (a b : Int) {d : Nat} (h : d ≠ 0) : mkRat a d + mkRat b d = mkRat (a + b) d := by
  rw [Rat.mkRat_add_mkRat _ _ h h, ← Int.add_mul, Rat.mkRat_mul_right h]
theorem mk_one {d : Nat} (h : d ≠ 0) : mkRat (d : Int) d = 1 := by
  have h2 := Rat.mkRat_mul_right (n := 1) (d := 1) h
  have h1 : mkRat 1 1 = (1 : Rat) := by rfl
  rw [h1, Int.one_mul, Nat.one_mul] at h2
  exact h2
theorem mk_eq {a b : Int} {d e : Nat} (hd : d ≠ 0) (he : e ≠ 0) (h : a * e = b * d) : mkRat a d = mkRat b e := (Rat.mkRat_eq_iff hd he).mpr h
theorem num_pos {q : Rat} (h : 0 < q) : 0 < q.num := by
  have h1 : 0 ≤ q.num := Rat.num_nonneg.mpr (Rat.le_of_lt h)
  have h2 : q.num ≠ 0 := fun e => by
    have := Rat.num_eq_zero.mp e
    rw [this] at h
    exact absurd h (Rat.lt_irrefl)
  omega
theorem P0 : (PyData.tuple [.int 0, .int 1]) = P 0 := rfl
theorem P1 : (PyData.tuple [.int 1, .int 1]) = P 1 := rfl
@[simp] theorem frozen_P (q : Rat) : frozen (P q) = true := rfl
@[simp] theorem frozen_bool (b : Bool) : frozen (.bool b) = true := rfl
@[simp] theorem frozen_int (i : Int) : frozen (.int i) = true := rfl
@[simp] theorem frozen_none : frozen .none = true := rfl
/-! ### sums -/
def PT (l : List Rat) : PyData := .tuple (l.map P)
def rs (l : List Rat) : Rat := l.foldl (· + ·) 0
theorem rs_take {l : List Rat} {i : Nat} {q : Rat} (h : l[i]? = some q) : rs (l.take (i + 1)) = rs (l.take i) + q := by
  unfold rs
  rw [List.take_add_one, h, List.foldl_append]
  rfl
theorem map_at {l : List Rat} {i : Nat} {d : PyData} (h : (l.map P)[i]? = some d) : ∃ q, l[i]? = some q ∧ d = P q := by
  rw [List.getElem?_map] at h
  cases e : l[i]? with
  | none => rw [e] at h; cases h
  | some q => rw [e] at h; exact ⟨q, rfl, (Option.some.inj h).symm⟩
theorem sz_rs {l : List Rat} {m : Nat} (h : ∀ q ∈ l, Sz m q) : ∀ i, Sz (i * (m + 1) + 1) (rs (l.take i))
  | 0 => by simpa [rs] using Sz.mono0
  | i + 1 => by
    cases e : l[i]? with
    | none =>
      have : l.take (i + 1) = l.take i := by rw [List.take_add_one, e]; simp
      rw [this]
      exact (sz_rs h i).le (by rw [Nat.add_mul]; omega)
    | some q =>
      rw [rs_take e]
      have := (sz_rs h i).add (h q (List.mem_of_getElem? e))
      refine this.le ?_
      rw [Nat.add_mul]; omega
theorem foldl_rs (l : List Rat) : ∀ a : Rat, l.foldl (· + ·) a = a + rs l := by
  induction l with
  | nil => intro a; simp [rs, Rat.add_zero]
  | cons q l ih =>
    intro a
    unfold rs
    rw [List.foldl_cons, List.foldl_cons, ih, ih (0 + q), Rat.zero_add, Rat.add_assoc]
theorem rs_cons (q : Rat) (l : List Rat) : rs (q :: l) = q + rs l := by
  unfold rs
  rw [List.foldl_cons, foldl_rs, Rat.zero_add]
  rfl
theorem rs_append (a b : List Rat) : rs (a ++ b) = rs a + rs b := by
  induction a with
  | nil => simp [rs, Rat.zero_add]
  | cons q a ih => rw [List.cons_append, rs_cons, rs_cons, ih, Rat.add_assoc]
theorem rs_map_mul (u : Rat) (l : List Rat) : rs (l.map (u * ·)) = u * rs l := by
  induction l with
  | nil => simp [rs, Rat.mul_zero]
  | cons q l ih => rw [List.map_cons, rs_cons, rs_cons, ih, Rat.mul_add]
/-! ### lists that loops walk -/
theorem rngD_len (a b : Int) : (rngD a b).length = (b - a).toNat := by unfold rngD; rw [List.length_map, List.length_range]
/-! ### targets -/
theorem asgT_nm (lk : List Nat) (i : Nat) (d : PyData) (ρ : PD.Env) : asgT lk (.nm i) d ρ = if i ∈ lk ∨ ¬ i < ρ.length then none else some (ρ.set i (some (false, d))) := by simp only [asgT]
theorem asgT_tp (lk : List Nat) (ts : List Tg) (ds : List PyData) (ρ : PD.Env) : asgT lk (.tp ts) (.tuple ds) ρ = asgTs lk ts ds ρ := by simp only [asgT]
theorem asgTs_nil (lk : List Nat) (ρ : PD.Env) : asgTs lk [] [] ρ = some ρ := by simp only [asgTs]
theorem asgTs_cons (lk : List Nat) (t : Tg) (ts : List Tg) (d : PyData) (ds : List PyData) (ρ : PD.Env) : asgTs lk (t :: ts) (d :: ds) ρ = match asgT lk t d ρ with
    | some ρ1 => asgTs lk ts ds ρ1
    | none => none := by
  first
    | (simp only [asgTs]; done)
    | (simp only [asgTs]; cases asgT lk t d ρ <;> rfl)
/-! ### the evaluator's loops once more -/
theorem boolsOf_true : ∀ n : Nat, boolsOf (List.replicate n (.bool true)) = some (List.replicate n true)
  | 0 => rfl
  | n + 1 => by simp [List.replicate_succ, boolsOf, boolsOf_true n]
/-- [f(x) for x in l], all of them True -/
theorem comp_true {lk own : List Nat} {ρ0 ρ : PD.Env} {t : Tg} {c : PD.Env → Rs Bool} {e : PD.Env → Rs Rv} {ds : List PyData} (hl : ds.length ≤ 1000000) (h : ∀ d ∈ ds, ∃ ρ1, asgT lk t d (wipeE ρ own) = some ρ1 ∧ c ρ1 = .ok true ρ1 ∧ e ρ1 = .ok (.val (.bool true)) ρ1 ∧ backE ρ0 ρ1 own = ρ) :
    compL lk own ρ0 t c e ds [] ρ = .ok (List.replicate ds.length (.bool true)) ρ := by
  rw [compL_map (fun _ => true) (fun _ => .bool true) (by simpa using hl) fun d hd => by
    obtain ⟨ρ1, h1, h2, h3, h4⟩ := h d hd
    exact ⟨ρ1, h1, h2, fun _ => ⟨_, h3, rfl⟩, h4⟩]
  simp [List.map_const']
theorem rng1_ok {io : Nat → List Bool} {cf : Nat → List PyData → FR} {lk : List Nat} {a : Ex} {ρ ρ1 : PD.Env} {i : Int} (h : evE io cf lk a ρ = .ok (.val (.int i)) ρ1) (hr : rngOk i = true) : evS io cf lk (.rng1 a) ρ = .ok (rngD 0 i) ρ1 := by
  rw [evS, h, Rs.bind_ok]
  exact if_pos hr
theorem abs_int (t : Int) : (if t < 0 then -t else t) = (t.natAbs : Nat) := by
  split <;> omega
theorem ints_all : ∀ ws : List Int, intsOf (ws.map .int) = some ws
  | [] => rfl
  | w :: ws => by simp [intsOf, ints_all ws]
@[simp] theorem lay_P (q : Rat) : PyData.canLay0 (P q) = true := rfl
@[simp] theorem depth_P (q : Rat) : PyData.depth (P q) = 1 := rfl
@[simp] theorem eqv_P (a b : Rat) : PyData.eqv (P a) (P b) = decide (a = b) := by
  simp only [P, PyData.eqv, PyData.eqvAll, Bool.and_true]
  rw [Bool.eq_iff_iff]
  simp only [Bool.and_eq_true, beq_iff_eq, decide_eq_true_eq]
  constructor
  · rintro ⟨h1, h2⟩
    exact Rat.ext h1 (by exact_mod_cast h2)
  · rintro rfl
    exact ⟨rfl, rfl⟩
theorem lay_ints : ∀ ts : List Int, PyData.canLayAll0 (ts.map .int) = true ∧ PyData.depthAll (ts.map .int) = 0
  | [] => ⟨rfl, rfl⟩
  | t :: ts => by simp [PyData.canLayAll0, PyData.canLay0, PyData.depthAll, PyData.depth, lay_ints ts]
theorem depth_at : ∀ {ds : List PyData} {d : PyData}, d ∈ ds → d.depth ≤ PyData.depthAll ds
  | a :: ds, d, h => by
    simp only [PyData.depthAll]
    rcases List.mem_cons.mp h with e | h
    · subst e; omega
    · have := depth_at h; omega
theorem depth_le {k : Nat} : ∀ {ds : List PyData}, (∀ d ∈ ds, d.depth ≤ k) → PyData.depthAll ds ≤ k
  | [], _ => by simp [PyData.depthAll]
  | d :: ds, h => by
    have h1 := h d List.mem_cons_self
    have h2 := depth_le (ds := ds) fun x hx => h x (List.mem_cons_of_mem _ hx)
    simp only [PyData.depthAll]
    omega
theorem cut_take (xs : List PyData) (i : Nat) (h : i ≤ xs.length) : cutD xs none (some (i : Int)) = xs.take i := by
  unfold cutD
  rw [HT.sIx_none, HT.sIx_nat]
  simp [Nat.min_eq_left h]
theorem cut_drop0 (xs : List PyData) (i : Nat) (h : i ≤ xs.length) : cutD xs (some (i : Int)) none = xs.drop i := by
  unfold cutD
  rw [HT.sIx_none, HT.sIx_nat]
  rw [Nat.min_eq_left h]
  exact List.take_of_length_le (by simp)
theorem cut_drop (xs : List PyData) (i : Nat) (h : i < xs.length) : cutD xs (some ((i : Int) + 1)) none = xs.drop (i + 1) := by
  rw [show ((i : Int) + 1) = ((i + 1 : Nat) : Int) by omega]
  exact cut_drop0 xs (i + 1) h
/-! ### dicts of ints -/
@[simp] theorem kDic_nil : kDic [] = true := rfl
@[simp] theorem fitD_int (ds : List (PyData × PyData)) (i : Int) : fitD ds (.int i) = kDic ds := rfl
@[simp] theorem fitD_str (ds : List (PyData × PyData)) (x : Str) : fitD ds (.str x) = kDic ds := rfl
theorem dLook_cons (c d : PyData) (ds : List (PyData × PyData)) (k : PyData) : dLook ((c, d) :: ds) k = if kEq c k = true then some d else dLook ds k := by
  unfold dLook
  rw [List.find?_cons]
  cases kEq c k <;> simp
theorem dLook_nil (k : PyData) : dLook [] k = none := rfl
theorem dLook_miss {k : PyData} : ∀ {ds : List (PyData × PyData)}, ¬ (ds.any fun p => kEq p.1 k) = true → dLook ds k = none
  | [], _ => rfl
  | (c, d) :: ds, h => by
    rw [List.any_cons, Bool.or_eq_true] at h
    rw [dLook_cons, if_neg fun z => h (.inl z), dLook_miss fun z => h (.inr z)]
theorem dLook_app (ds : List (PyData × PyData)) (c d k : PyData) : dLook (ds ++ [(c, d)]) k = if (dLook ds k).isSome then dLook ds k else if kEq c k = true then some d else none := by
  induction ds with
  | nil => rw [List.nil_append, dLook_cons, dLook_nil]; simp
  | cons p ds ih =>
    obtain ⟨x, y⟩ := p
    rw [List.cons_append, dLook_cons, dLook_cons, ih]
    by_cases h : kEq x k = true
    · rw [if_pos h, if_pos h]; simp
    · rw [if_neg h, if_neg h]
theorem dLook_put (ds : List (PyData × PyData)) (k j : Int) (v : PyData) : dLook (dPut ds (.int k) v) (.int j) = if j = k then some v else dLook ds (.int j) := by
  have key : ∀ (c : PyData), kEq c (.int k) = true → kEq c (.int j) = decide (j = k) := fun c h => by
    cases c <;> simp [kEq] at h ⊢
    subst h
    exact ⟨fun h => h.symm, fun h => h.symm⟩
  unfold dPut
  split
  · rename_i h
    induction ds with
    | nil => simp at h
    | cons p ds ih =>
      obtain ⟨c, d⟩ := p
      have more : ∀ ds : List (PyData × PyData), dLook (ds.map fun p => if kEq p.1 (.int k) = true then (p.1, v) else p) (.int j) = if j = k then (if (ds.any fun p => kEq p.1 (.int k)) = true then some v else dLook ds (.int j)) else dLook ds (.int j) := by
        intro ds
        induction ds with
        | nil => simp [dLook_nil]
        | cons q ds ih2 =>
          obtain ⟨x, y⟩ := q
          rw [List.map_cons, List.any_cons]
          by_cases hq : kEq x (.int k) = true
          · rw [if_pos hq, dLook_cons, dLook_cons, key x hq, ih2]
            by_cases hj : j = k
            · simp [hj, hq]
            · simp [hj]
          · rw [if_neg hq, dLook_cons, dLook_cons, ih2]
            have hq' : kEq x (.int k) = false := by simpa using hq
            by_cases hj : j = k
            · subst hj
              rw [hq', Bool.false_or, if_pos rfl, if_pos rfl]
              simp only [Bool.false_eq_true, if_false]
            · simp [hj]
      rw [more, if_pos h]
  · rename_i h
    rw [dLook_app]
    by_cases hj : j = k
    · subst hj
      rw [dLook_miss h]
      simp [kEq]
    · have : kEq (PyData.int k) (PyData.int j) = false := by simp [kEq]; exact fun z => hj z.symm
      rw [this, if_neg hj]
      cases dLook ds (.int j) <;> simp
theorem kDic_put {ds : List (PyData × PyData)} {k : Int} {v : PyData} (h : kDic ds = true) : kDic (dPut ds (.int k) v) = true := by
  unfold dPut
  split
  · cases ds with
    | nil => rfl
    | cons p ds =>
      obtain ⟨c, d⟩ := p
      rw [List.map_cons]
      by_cases e : kEq c (.int k) = true
      · rw [if_pos e]
        cases c <;> simp [kDic] at h ⊢
      · rw [if_neg e]
        cases c <;> simp [kDic] at h ⊢
  · cases ds with
    | nil => rfl
    | cons p ds =>
      obtain ⟨c, d⟩ := p
      cases c <;> simp [kDic] at h ⊢
theorem dPut_new {ds : List (PyData × PyData)} {k : Int} {v : PyData} (h : dLook ds (.int k) = none) : dPut ds (.int k) v = ds ++ [(.int k, v)] := by
  unfold dPut
  rw [if_neg]
  intro z
  obtain ⟨p, hp, e⟩ := List.any_eq_true.mp z
  unfold dLook at h
  rw [Option.map_eq_none_iff, List.find?_eq_none] at h
  exact h p hp e
end LW
set_option maxRecDepth 100000
set_option maxHeartbeats 0
set_option exponentiation.threshold 10000
/-! PE: the evaluator, construct by construct. -/
namespace PD
open PySem
section
variable {io : Nat → List Bool} {cf : Nat → List PyData → FR} {lk : List Nat} {a b c : Ex} {ρ ρ1 ρ2 ρ3 : Env} {x y z r : Rv} {d e f : PyData} {d0 e0 : PyData}
theorem ev_var {i : Nat} (h : ρ[i]? = some (some (false, d))) : evE io cf lk (.var i) ρ = .ok (.val d) ρ := by
  rw [evE, h]
theorem ev_own {i : Nat} (h : ρ[i]? = some (some (true, d))) : evE io cf lk (.var i) ρ = .ok (.sl i) ρ := by
  rw [evE, h]
theorem ev_lit : evE io cf lk (.lit d) ρ = .ok (.val d) ρ := by rw [evE]
theorem dat_sl {i : Nat} {m : Bool} (h : ρ[i]? = some (some (m, d))) : dat ρ (.sl i) = some d := by
  simp only [dat, slotD, h]
theorem ev_bin {o : BO} (h1 : evE io cf lk a ρ = .ok x ρ1) (h2 : evE io cf lk b ρ1 = .ok y ρ2) (h3 : dat ρ2 x = some d) (h4 : dat ρ2 y = some e) (h5 : binD o d e = some r) : evE io cf lk (.bin o a b) ρ = .ok r ρ2 := by
  rw [evE, h1, Rs.bind_ok, h2, Rs.bind_ok, h3, h4]
  simp only [h5, liftR_some]
theorem ev_cmp {o : CO} {t : Bool} (h1 : evE io cf lk a ρ = .ok x ρ1) (h2 : evE io cf lk b ρ1 = .ok y ρ2) (h3 : dat ρ2 x = some d) (h4 : dat ρ2 y = some e) (h5 : cmpD o d e = some t) : evE io cf lk (.cmp o a b) ρ = .ok (.val (.bool t)) ρ2 := by
  rw [evE, h1, Rs.bind_ok, h2, Rs.bind_ok, h3, h4]
  simp only [h5, Option.map_some, liftR_some]
theorem ev_idx (h1 : evE io cf lk a ρ = .ok x ρ1) (h2 : evE io cf lk b ρ1 = .ok y ρ2) (h3 : dat ρ2 x = some d) (h4 : dat ρ2 y = some e) (h5 : idxD d e = some r) : evE io cf lk (.idx a b) ρ = .ok r ρ2 := by
  rw [evE, h1, Rs.bind_ok, h2, Rs.bind_ok, h3, h4]
  simp only [h5, liftR_some]
theorem ev_slcH {k : Int} (h1 : evE io cf lk a ρ = .ok x ρ1) (hs : isSkip b = false) (h2 : evE io cf lk b ρ1 = .ok (.val (.int k)) ρ2) (h3 : dat ρ2 x = some d) (h5 : slcD d none (some k) = some r) : evE io cf lk (.slc a .skip b) ρ = .ok r ρ2 := by
  have v : evE io cf lk .skip ρ1 = .ok (.val (.bool true)) ρ1 := by rw [evE]
  rw [evE, h1, Rs.bind_ok, v]
  have hk : isSkip Ex.skip = true := rfl
  simp only [endR, hk, if_true, Rs.bind_ok, hs, h2, Bool.false_eq_true, if_false, h3, h5, liftR_some]
theorem ev_slcL {k : Int} (h1 : evE io cf lk a ρ = .ok x ρ1) (hs : isSkip b = false) (h2 : evE io cf lk b ρ1 = .ok (.val (.int k)) ρ2) (h3 : dat ρ2 x = some d) (h5 : slcD d (some k) none = some r) : evE io cf lk (.slc a b .skip) ρ = .ok r ρ2 := by
  have v : evE io cf lk .skip ρ2 = .ok (.val (.bool true)) ρ2 := by rw [evE]
  rw [evE, h1, Rs.bind_ok, h2]
  have hk : isSkip Ex.skip = true := rfl
  simp only [endR, hk, if_true, Rs.bind_ok, hs, h2, Bool.false_eq_true, if_false, h3, h5, liftR_some]
theorem ev_slcB {k l : Int} (h1 : evE io cf lk a ρ = .ok x ρ1) (hs : isSkip b = false) (hs2 : isSkip c = false) (h2 : evE io cf lk b ρ1 = .ok (.val (.int k)) ρ2) (h6 : evE io cf lk c ρ2 = .ok (.val (.int l)) ρ3) (h3 : dat ρ3 x = some d) (h5 : slcD d (some k) (some l) = some r) : evE io cf lk (.slc a b c) ρ = .ok r ρ3 := by
  rw [evE, h1, Rs.bind_ok, h2]
  simp only [endR, Rs.bind_ok, hs, hs2, h2, h6, Bool.false_eq_true, if_false, h3, h5, liftR_some]
theorem ev_and_t (h1 : evE io cf lk a ρ = .ok (.val (.bool true)) ρ1) (h2 : evE io cf lk b ρ1 = .ok r ρ2) : evE io cf lk (.and a b) ρ = .ok r ρ2 := by
  rw [evE, h1, Rs.bind_ok]
  exact h2
theorem ev_and_f (h1 : evE io cf lk a ρ = .ok (.val (.bool false)) ρ1) : evE io cf lk (.and a b) ρ = .ok (.val (.bool false)) ρ1 := by
  rw [evE, h1, Rs.bind_ok]
theorem ev_or_f (h1 : evE io cf lk a ρ = .ok (.val (.bool false)) ρ1) (h2 : evE io cf lk b ρ1 = .ok r ρ2) : evE io cf lk (.or a b) ρ = .ok r ρ2 := by
  rw [evE, h1, Rs.bind_ok]
  exact h2
theorem ev_or_t (h1 : evE io cf lk a ρ = .ok (.val (.bool true)) ρ1) : evE io cf lk (.or a b) ρ = .ok (.val (.bool true)) ρ1 := by
  rw [evE, h1, Rs.bind_ok]
theorem ev_not {t : Bool} (h1 : evE io cf lk a ρ = .ok (.val (.bool t)) ρ1) : evE io cf lk (.not a) ρ = .ok (.val (.bool !t)) ρ1 := by
  rw [evE, h1, Rs.bind_ok]
theorem ev_neg {i : Int} (h1 : evE io cf lk a ρ = .ok x ρ1) (h3 : dat ρ1 x = some (.int i)) : evE io cf lk (.neg a) ρ = .ok (.val (.int (-i))) ρ1 := by
  rw [evE, h1, Rs.bind_ok, h3]
theorem ev_ife_t (h1 : evE io cf lk c ρ = .ok (.val (.bool true)) ρ1) (h2 : evE io cf lk a ρ1 = .ok r ρ2) : evE io cf lk (.ife c a b) ρ = .ok r ρ2 := by
  rw [evE, h1, Rs.bind_ok]
  exact h2
theorem ev_ife_f (h1 : evE io cf lk c ρ = .ok (.val (.bool false)) ρ1) (h2 : evE io cf lk b ρ1 = .ok r ρ2) : evE io cf lk (.ife c a b) ρ = .ok r ρ2 := by
  rw [evE, h1, Rs.bind_ok]
  exact h2
theorem ev_bi1 {o : Bi} (h1 : evE io cf lk a ρ = .ok x ρ1) (h3 : dat ρ1 x = some d) (h5 : biD o [d] = some r) : evE io cf lk (.bi o (.cons a .nil)) ρ = .ok r ρ1 := by
  rw [evE, evEs, h1, Rs.bind_ok, evEs, Rs.bind_ok, Rs.bind_ok]
  simp only [dats, h3, h5, liftR_some]
theorem ev_bi2 {o : Bi} (h1 : evE io cf lk a ρ = .ok x ρ1) (h2 : evE io cf lk b ρ1 = .ok y ρ2) (h3 : dat ρ2 x = some d) (h4 : dat ρ2 y = some e) (h5 : biD o [d, e] = some r) : evE io cf lk (.bi o (.cons a (.cons b .nil))) ρ = .ok r ρ2 := by
  rw [evE, evEs, h1, Rs.bind_ok, evEs, h2, Rs.bind_ok, evEs, Rs.bind_ok, Rs.bind_ok, Rs.bind_ok]
  simp only [dats, h3, h4, h5, liftR_some]
theorem ev_es0 : evEs io cf lk .nil ρ = .ok [] ρ := by rw [evEs]
theorem ev_es {es : Exs} {rs : List Rv} (h1 : evE io cf lk a ρ = .ok x ρ1) (h2 : evEs io cf lk es ρ1 = .ok rs ρ2) : evEs io cf lk (.cons a es) ρ = .ok (x :: rs) ρ2 := by
  rw [evEs, h1, Rs.bind_ok, h2, Rs.bind_ok]
theorem ev_lst {es : Exs} {rs : List Rv} {ds : List PyData} (h1 : evEs io cf lk es ρ = .ok rs ρ1) (h2 : keepVs lk rs ρ1 = .ok ds ρ2) (h3 : lenOk ds.length = true) : evE io cf lk (.lst es) ρ = .ok (.own (.list ds)) ρ2 := by
  rw [evE, h1, Rs.bind_ok, h2, Rs.bind_ok, if_pos h3]
theorem ev_tup {es : Exs} {rs : List Rv} {ds : List PyData} (h1 : evEs io cf lk es ρ = .ok rs ρ1) (h2 : keepVs lk rs ρ1 = .ok ds ρ2) (h3 : lenOk ds.length = true) : evE io cf lk (.tup es) ρ = .ok (.val (.tuple ds)) ρ2 := by
  rw [evE, h1, Rs.bind_ok, h2, Rs.bind_ok, if_pos h3]
theorem ev_call {f : Nat} {es : Exs} {rs : List Rv} (h1 : evEs io cf lk es ρ = .ok rs ρ1) (h2 : callP io cf f rs ρ1 = .ok r ρ2) : evE io cf lk (.callP f es) ρ = .ok r ρ2 := by
  rw [evE, h1, Rs.bind_ok]
  exact h2
theorem evT_of {t : Bool} (h1 : evE io cf lk a ρ = .ok (.val (.bool t)) ρ1) : evT io cf lk a ρ = .ok t ρ1 := by
  rw [evT, h1, Rs.bind_ok]
theorem evS_seqL {ds : List PyData} (h1 : evE io cf lk a ρ = .ok x ρ1) (h2 : keepV lk x ρ1 = .ok (.list ds) ρ2) : evS io cf lk (.seq a) ρ = .ok ds ρ2 := by
  rw [evS, h1, Rs.bind_ok, h2, Rs.bind_ok]
theorem evS_seqT {ds : List PyData} (h1 : evE io cf lk a ρ = .ok x ρ1) (h2 : keepV lk x ρ1 = .ok (.tuple ds) ρ2) : evS io cf lk (.seq a) ρ = .ok ds ρ2 := by
  rw [evS, h1, Rs.bind_ok, h2, Rs.bind_ok]
theorem evS_rng2 {i j : Int} (h1 : evE io cf lk a ρ = .ok (.val (.int i)) ρ1) (h2 : evE io cf lk b ρ1 = .ok (.val (.int j)) ρ2) (hi : rngOk i = true) (hj : rngOk j = true) : evS io cf lk (.rng2 a b) ρ = .ok (rngD i j) ρ2 := by
  rw [evS, h1, Rs.bind_ok, h2, Rs.bind_ok]
  simp only [hi, hj, Bool.and_self, if_true]
end
end PD
set_option maxRecDepth 100000
set_option autoImplicit false
set_option maxHeartbeats 2000000
set_option exponentiation.threshold 10000
/-! TX: texts. -/
namespace PD
open PySem
/-- the text of an integer -/
def ti (i : Int) : Str := Str.ofString (toString i)
theorem strOk_of (s : String) : PyData.strOk (Str.ofString s) = true := by
  unfold PyData.strOk
  rw [Str.ofString_eq_toList]
  rw [← Array.all_toList, List.all_eq_true]
  intro k hk
  rw [List.mem_map] at hk
  obtain ⟨c, _, rfl⟩ := hk
  have := c.valid
  have h : c.toNat < 0x110000 := by
    rcases c.valid with h | h
    · have : c.toNat < 0xd800 := h
      omega
    · exact h.2
  simpa using h
theorem strOk_app {x y : Str} (hx : PyData.strOk x = true) (hy : PyData.strOk y = true) : PyData.strOk (x ++ y) = true := by
  unfold PyData.strOk at *
  rw [Str.cps_append, Array.all_append, hx, hy]
  rfl
/-- a text that is fit, and how long it is at most -/
structure Fit (x : Str) (n : Nat) : Prop where
  ok : PyData.strOk x = true
  le : x.length ≤ n
theorem Fit.mono {x : Str} {n m : Nat} (h : Fit x n) (l : n ≤ m) : Fit x m := ⟨h.ok, Nat.le_trans h.le l⟩
theorem Fit.app {x y : Str} {n m : Nat} (hx : Fit x n) (hy : Fit y m) : Fit (x ++ y) (n + m) := ⟨strOk_app hx.ok hy.ok, by rw [Str.length_append]; have := hx.le; have := hy.le; omega⟩
theorem fit_lit (s : String) : Fit (Str.ofString s) (s.toList.length) := ⟨strOk_of s, by rw [PyProof.Rows.ofString_length]; exact Nat.le_refl _⟩
def big : Nat := 10 ^ 61
theorem fit_ti {n : Nat} (h : n < big) : Fit (ti (n : Nat)) 61 := ⟨strOk_of _, PyProof.Rows.toString_length_le (by omega) (by decide) (by
  have : ((10 : Int) ^ 61) = ((10 ^ 61 : Nat) : Int) := by norm_cast
  rw [this]
  exact_mod_cast h)⟩
theorem fit_join {sep : Str} {a b : Nat} (hs : Fit sep a) : ∀ {ys : List Str}, (∀ y ∈ ys, Fit y b) → Fit (Txt.join sep ys) (ys.length * (b + a)) ∧ (ys.map (·.length)).sum + ys.length * sep.length ≤ ys.length * (b + a) := by
  intro ys h
  have len : (ys.map (·.length)).sum + ys.length * sep.length ≤ ys.length * (b + a) := by
    induction ys with
    | nil => simp
    | cons y ys ih =>
      have := ih fun z hz => h z (List.mem_cons_of_mem _ hz)
      have h1 := (h y List.mem_cons_self).le
      have h2 := hs.le
      simp only [List.map_cons, List.sum_cons, List.length_cons, Nat.succ_mul]
      omega
  refine ⟨⟨?_, ?_⟩, len⟩
  · show PyData.strOk (Builtin.Str.glued sep ys) = true
    rw [StrLaws.glued_eq_join]
    clear len
    induction ys with
    | nil => exact (strOk_of "" : _)
    | cons y ys ih =>
      cases ys with
      | nil => exact (h y List.mem_cons_self).ok
      | cons z ys =>
        show PyData.strOk (y ++ sep ++ Str.join sep (z :: ys)) = true
        exact strOk_app (strOk_app (h y List.mem_cons_self).ok hs.ok) (ih fun w hw => h w (List.mem_cons_of_mem _ hw))
  · show (Builtin.Str.glued sep ys).length ≤ _
    rw [StrLaws.glued_eq_join]
    exact Nat.le_trans (StrLaws.join_length_le sep ys) len
theorem ti_neg {n : Nat} (h : 0 < n) : ti (0 - (n : Int)) = Str.ofString "-" ++ ti (n : Nat) := by
  have e := PyProof.Rows.toString_neg (n := 0 - (n : Int)) (by omega)
  unfold ti
  rw [e, show (0 : Int) - (0 - (n : Int)) = (n : Int) by omega]
  rw [Str.ofString_eq_toList, Str.ofString_eq_toList, Str.ofString_eq_toList]
  apply Str.ext'
  simp [Str.cps_append, String.toList_append]
section
variable {io : Nat → List Bool} {cf : Nat → List PyData → FR} {lk : List Nat} {a b c : Ex} {ρ ρ1 ρ2 ρ3 : Env} {x y : Str} {r : Rv}
theorem ev_cat (h1 : evE io cf lk a ρ = .ok (.val (.str x)) ρ1) (h2 : evE io cf lk b ρ1 = .ok (.val (.str y)) ρ2) (hl : x.length + y.length ≤ 1000000) : evE io cf lk (.bin .add a b) ρ = .ok (.val (.str (x ++ y))) ρ2 :=
  ev_bin h1 h2 rfl rfl (by
    have : lenOk (x.length + y.length) = true := decide_eq_true hl
    simp only [binD, this, if_true])
theorem log_big {i : Int} (h : i.natAbs < big) : i.natAbs.log2 < 1920 := by
  by_cases h0 : i.natAbs = 0
  · rw [h0]; decide
  · exact (Nat.log2_lt h0).mpr (Nat.lt_trans h (by unfold big; decide +kernel))
theorem ev_str {i : Int} (h1 : evE io cf lk a ρ = .ok r ρ1) (hd : dat ρ1 r = some (.int i)) (h : i.natAbs < big) : evE io cf lk (.bi .str (.cons a .nil)) ρ = .ok (.val (.str (ti i))) ρ1 :=
  ev_bi1 h1 hd (by
    have := log_big h
    simp only [biD, this, if_true]
    rfl)
theorem strsOf_map : ∀ ys : List Str, strsOf (ys.map .str) = some ys
  | [] => rfl
  | y :: ys => by simp only [List.map_cons, strsOf, strsOf_map ys, Option.map_some]
theorem ev_join {sep : Str} {ys : List Str} {n m : Nat} (hs : Fit sep n) (hy : ∀ y ∈ ys, Fit y m) (hl : ys.length * (m + n) ≤ 1000000) (h1 : evE io cf lk a ρ = .ok r ρ1) (hd : dat ρ1 r = some (.list (ys.map .str))) : evE io cf lk (.join sep a) ρ = .ok (.val (.str (Txt.join sep ys))) ρ1 := by
  have hz := (fit_join hs hy).2
  have hz2 : (ys.map (·.length)).sum + ys.length * sep.length ≤ 1000000 := by omega
  rw [evE, h1, Rs.bind_ok, hd]
  simp only [joinD, strsOf_map, Option.bind_some, hz2, if_true, liftR_some]
end
/-- a comprehension over things told by g -/
theorem comp_map {α : Type} {lk own : List Nat} {ρ0 ρ : Env} {t : Tg} {c : Env → Rs Bool} {e : Env → Rs Rv} (g f : α → PyData) : ∀ {l : List α} {acc : List PyData}, acc.length + l.length ≤ 1000000 →
    (∀ x ∈ l, ∃ ρ1, asgT lk t (g x) (wipeE ρ own) = some ρ1 ∧ c ρ1 = .ok true ρ1 ∧ (∃ r, e ρ1 = .ok r ρ1 ∧ keepV (lk ++ own) r ρ1 = .ok (f x) ρ1) ∧ backE ρ0 ρ1 own = ρ) → compL lk own ρ0 t c e (l.map g) acc ρ = .ok (acc ++ l.map f) ρ
  | [], acc, _, _ => by simp [compL]
  | x :: l, acc, hl, h => by
    obtain ⟨ρ1, e1, e2, ⟨r, e3, e4⟩, e5⟩ := h x List.mem_cons_self
    rw [List.length_cons] at hl
    have e6 : lenOk (acc.length + 1) = true := decide_eq_true (by omega)
    simp only [List.map_cons, compL, e1, e2, e3, e4, e6, if_true, e5]
    rw [comp_map g f (by simp; omega) fun y hy => h y (List.mem_cons_of_mem _ hy)]
    simp
section
variable {io : Nat → List Bool} {cf : Nat → List PyData → FR} {lk : List Nat} {a b c e : Ex} {ρ ρ1 ρ2 ρ3 : Env} {x y : Str} {r : Rv} {d : PyData}
theorem ev_comp {own : List Nat} {t : Tg} {s : Sr} {ds ys : List PyData} (hs : evS io cf lk s ρ = .ok ds ρ1) (hp : own.all (plainAt ρ1) = true) (hc : compL lk own ρ1 t (Rs.ok true) (evE io cf lk e) ds [] ρ1 = .ok ys ρ2) : evE io cf lk (.comp own e t s .skip) ρ = .ok (.own (.list ys)) ρ2 := by
  rw [evE, hs, Rs.bind_ok, if_pos hp]
  have hk : ∀ ρ, evE io cf lk .skip ρ = .ok (.val (.bool true)) ρ := fun ρ => by rw [evE]
  simp only [hk, Rs.bind_ok]
  have hc' : compL lk own ρ1 t (fun ρ => Rs.ok true ρ) (fun ρ => evE io cf lk e ρ) ds [] ρ1 = .ok ys ρ2 := hc
  rw [hc']
  rfl
theorem evS_tup {i : Nat} {ds : List PyData} (hi : ρ[i]? = some (some (false, .tuple ds))) : evS io cf lk (.seq (.var i)) ρ = .ok ds ρ := by
  rw [evS, ev_var hi]
  rfl
/-- sep.join([e for t in xs]) -/
theorem ev_joinC {α : Type} (g : α → PyData) (f : α → Str) {l : List α} {sep : Str} {own : List Nat} {t : Tg} {i n m : Nat} (hi : ρ[i]? = some (some (false, .tuple (l.map g)))) (hs : Fit sep n) (hf : ∀ x ∈ l, Fit (f x) m) (hl : l.length ≤ 1000000) (hb : l.length * (m + n) ≤ 1000000) (hp : own.all (plainAt ρ) = true)
    (h : ∀ x ∈ l, ∃ ρ1, asgT lk t (g x) (wipeE ρ own) = some ρ1 ∧ evE io cf lk e ρ1 = .ok (.val (.str (f x))) ρ1 ∧ backE ρ ρ1 own = ρ) :
    evE io cf lk (.join sep (.comp own e t (.seq (.var i)) .skip)) ρ = .ok (.val (.str (Txt.join sep (l.map f)))) ρ := by
  refine ev_join (ys := l.map f) hs (fun y hy => ?_) (by rw [List.length_map]; exact hb) (ev_comp (evS_tup hi) hp (comp_map g (fun x => .str (f x)) (by simpa using hl) fun x hx => ?_)) (by rw [List.nil_append, dat_own, List.map_map]; rfl)
  · obtain ⟨x, hx, rfl⟩ := List.mem_map.mp hy
    exact hf x hx
  · obtain ⟨ρ1, h1, h2, h3⟩ := h x hx
    exact ⟨ρ1, h1, rfl, ⟨_, h2, rfl⟩, h3⟩
theorem exs_ret (h : evE io cf lk e ρ = .ok (.val d) ρ1) : exS io cf lk (.ret e) ρ = .ret (.val d) ρ1 := by
  rw [exS, h]
  rfl
end
end PD
set_option maxRecDepth 100000
set_option autoImplicit false
set_option maxHeartbeats 2000000
set_option exponentiation.threshold 10000
namespace LW
open PySem PD
@[simp] theorem io0 : Prog.io T 0 = [false] := rfl
@[simp] theorem io1 : Prog.io T 1 = [false] := rfl
@[simp] theorem io2 : Prog.io T 2 = [false] := rfl
@[simp] theorem io3 : Prog.io T 3 = [false] := rfl
@[simp] theorem io4 : Prog.io T 4 = [false] := rfl
@[simp] theorem io5 : Prog.io T 5 = [false] := rfl
@[simp] theorem io6 : Prog.io T 6 = [false] := rfl
@[simp] theorem io7 : Prog.io T 7 = [false] := rfl
@[simp] theorem io8 : Prog.io T 8 = [false] := rfl
@[simp] theorem io9 : Prog.io T 9 = [false] := rfl
@[simp] theorem io10 : Prog.io T 10 = [false, false] := rfl
@[simp] theorem io11 : Prog.io T 11 = [true, false] := rfl
@[simp] theorem io12 : Prog.io T 12 = [false, false] := rfl
@[simp] theorem io13 : Prog.io T 13 = [false, false] := rfl
@[simp] theorem io14 : Prog.io T 14 = [false, false] := rfl
@[simp] theorem io15 : Prog.io T 15 = [true, false] := rfl
@[simp] theorem io16 : Prog.io T 16 = [true, false] := rfl
@[simp] theorem io17 : Prog.io T 17 = [true, false, false] := rfl
@[simp] theorem io18 : Prog.io T 18 = [true, false] := rfl
@[simp] theorem io19 : Prog.io T 19 = [true, false, false, false] := rfl
@[simp] theorem io20 : Prog.io T 20 = [true, false, false] := rfl
@[simp] theorem io21 : Prog.io T 21 = [true, false, false] := rfl
@[simp] theorem io22 : Prog.io T 22 = [true, false] := rfl
@[simp] theorem io23 : Prog.io T 23 = [false] := rfl
@[simp] theorem io24 : Prog.io T 24 = [false] := rfl
@[simp] theorem io25 : Prog.io T 25 = [false] := rfl
@[simp] theorem io26 : Prog.io T 26 = [false] := rfl
@[simp] theorem io27 : Prog.io T 27 = [false] := rfl
@[simp] theorem io28 : Prog.io T 28 = [false] := rfl
@[simp] theorem io29 : Prog.io T 29 = [false] := rfl
@[simp] theorem io30 : Prog.io T 30 = [true, false, false, false] := rfl
@[simp] theorem io31 : Prog.io T 31 = [false, false, false] := rfl
@[simp] theorem io32 : Prog.io T 32 = [false] := rfl
theorem seq_go {n : Nat} {lk : List Nat} {s : St} {r : Sts} {ρ ρ1 : PD.Env} {o : Out} (h : exS T.io (run T n) lk s ρ = .nx ρ1) (h2 : exSs T.io (run T n) lk r ρ1 = o) : exSs T.io (run T n) lk (.cons s r) ρ = o := by
  rw [exSs, h]
  exact h2
theorem seq_end {n : Nat} {lk : List Nat} {s : St} {r : Sts} {ρ ρ1 : PD.Env} {v : Rv} (h : exS T.io (run T n) lk s ρ = .ret v ρ1) : exSs T.io (run T n) lk (.cons s r) ρ = .ret v ρ1 := by
  rw [exSs, h]
  rfl
theorem ife_t {n : Nat} {lk : List Nat} {c : Ex} {a b : Sts} {ρ ρ1 : PD.Env} (h : evT T.io (run T n) lk c ρ = .ok true ρ1) : exS T.io (run T n) lk (.ife c a b) ρ = exSs T.io (run T n) lk a ρ1 := by
  rw [exS, h]
  rfl
theorem ife_f {n : Nat} {lk : List Nat} {c : Ex} {a b : Sts} {ρ ρ1 : PD.Env} (h : evT T.io (run T n) lk c ρ = .ok false ρ1) : exS T.io (run T n) lk (.ife c a b) ρ = exSs T.io (run T n) lk b ρ1 := by
  rw [exS, h]
  rfl

/-! ### the draws -/
def SK (c key cnt : Int) : PyData := .list [.int c, .int key, .int cnt]
def SkOk (B : Nat) (c key cnt : Int) : Prop := 0 ≤ c ∧ 0 ≤ key ∧ key < 2 ^ 94 ∧ 0 ≤ cnt ∧ cnt ≤ (B : Int)
theorem SkOk.le {B B' : Nat} {c key cnt : Int} (h : SkOk B c key cnt) (l : B ≤ B') : SkOk B' c key cnt := by
  obtain ⟨h1, h2, h3, h4, h5⟩ := h
  exact ⟨h1, h2, h3, h4, by omega⟩
theorem well_ok (n : Nat) (ns : List Int) (k : Nat) : ∃ c key, SkOk 0 c key 0 ∧ run T (n + 1) 10 [.list (ns.map .int), .int (k : Nat)] = .ret true (SK c key 0) [] := by
  have fin : ∀ cell : Int, (if k < ns.length then (ns[k]?).getD 0 else (k : Int) * 104723 + (ns.length : Int) * 15485863) = cell → ∃ c key, SkOk 0 c key 0 ∧ run T (n + 1) 10 [.list (ns.map .int), .int (k : Nat)] = .ret true (SK c key 0) [] := by
    intro cell hc
    have m1 : mulOk cell 86028157 = true := mulOk_r (by decide)
    have m2 : mulOk (k : Int) 179424691 = true := mulOk_r (by decide)
    have m3 : mulOk (k : Int) 104723 = true := mulOk_r (by decide)
    have m4 : mulOk (ns.length : Int) 15485863 = true := mulOk_r (by decide)
    have hq0 : 0 ≤ (cell * 86028157 + (k : Int) * 179424691 + 7919) % 10000000000000000000000013 := Int.emod_nonneg _ (by decide)
    have hq1 : (cell * 86028157 + (k : Int) * 179424691 + 7919) % 10000000000000000000000013 < 2 ^ 94 := Int.lt_trans (Int.emod_lt_of_pos _ (by decide)) (by decide)
    generalize hst : (cell * 86028157 + (k : Int) * 179424691 + 7919) % 10000000000000000000000013 = key at hq0 hq1
    have l3 : lenOk 3 = true := rfl
    have ha := abs_int cell
    have ha0 : 0 ≤ (if cell < 0 then -cell else cell) := by rw [ha]; omega
    generalize hA : (if cell < 0 then -cell else cell) = A at ha0
    refine ⟨if 0 < A - 10 ^ 18 then A - 10 ^ 18 else 0, key, ⟨by split <;> omega, hq0, hq1, by decide, by decide⟩, ?_⟩
    by_cases hkl : k < ns.length
    · have hkl2 : (k : Int) < ns.length := by omega
      have hcell : ns[k] = cell := by simpa [hkl] using hc
      rw [run_of (io := [false, false]) (m := 3) (b := c10) rfl rfl (by decide)]
      simp [startE, exSs, exS, evE, evEs, evS, evT, ioIx, finF, ioOut, dat, slotD, stoV, stoVs, asgT_nm, asgT_tp, asgTs_nil, asgTs_cons, keepV, keepVs, dats, binD, cmpD, idxD, isiD, isiE, isiOk, tyName, callE, callP, ownIx, permR, ioSl, lent, setIo, ownS, trimE, augD, oLst, chgL, setD, wipeE, backE, plainAt, endR, isSkip, slcD, biD, ixD, L2.ixN, eqOk, SeqAt.shaped, PyData.canLay0, PyData.canLayAll0, PyData.depth, PyData.depthAll, PyData.eqv, PyData.eqvAll, indexD, bitlD, isBD, revD, popD, oMut, setO, augG, kOk, zipD, c10, hkl2, hkl, hcell, m1, m2, hst, hA, SK, l3]
    · have hkl2 : ¬ ((k : Int) < ns.length) := by omega
      rw [if_neg hkl] at hc
      rw [run_of (io := [false, false]) (m := 3) (b := c10) rfl rfl (by decide)]
      simp [startE, exSs, exS, evE, evEs, evS, evT, ioIx, finF, ioOut, dat, slotD, stoV, stoVs, asgT_nm, asgT_tp, asgTs_nil, asgTs_cons, keepV, keepVs, dats, binD, cmpD, idxD, isiD, isiE, isiOk, tyName, callE, callP, ownIx, permR, ioSl, lent, setIo, ownS, trimE, augD, oLst, chgL, setD, wipeE, backE, plainAt, endR, isSkip, slcD, biD, ixD, L2.ixN, eqOk, SeqAt.shaped, PyData.canLay0, PyData.canLayAll0, PyData.depth, PyData.depthAll, PyData.eqv, PyData.eqvAll, indexD, bitlD, isBD, revD, popD, oMut, setO, augG, kOk, zipD, c10, hkl2, m1, m2, m3, m4, hc, hst, hA, SK, l3]
  exact fin _ rfl
theorem draw_ok (n : Nat) {B : Nat} {c key cnt : Int} (h : SkOk B c key cnt) (hB : B < 2 ^ 40) {many : Nat} (h0 : 0 < many) (h1 : many < 2 ^ 300) : ∃ (v : Nat) (c' key' cnt' : Int), v < many ∧ SkOk (B + 1) c' key' cnt' ∧ run T (n + 1) 11 [SK c key cnt, .int (many : Nat)] = .ret false (.int (v : Nat)) [SK c' key' cnt'] := by
  obtain ⟨hc, hk, hk1, hn, hn1⟩ := h
  have hm0 : (0 : Int) < (many : Int) := by omega
  have hdv : divOk (many : Int) = true := divOk_of (b := 300) hm0 (by rw [Int.natAbs_natCast]; exact h1) (by decide) (by decide)
  have md : ∀ x : Int, ∃ v : Nat, x % (many : Int) = (v : Int) ∧ v < many := fun x => by
    have a1 := Int.emod_nonneg x (show (many : Int) ≠ 0 by omega)
    have a2 := Int.emod_lt_of_pos x hm0
    exact ⟨(x % (many : Int)).toNat, by omega, by omega⟩
  have l3 : lenOk 3 = true := rfl
  generalize (many : Int) = mm at *
  by_cases hp : 0 < c
  · obtain ⟨v, e, hv⟩ := md c
    refine ⟨v, c / mm, key, cnt, hv, ⟨Int.ediv_nonneg hc (by omega), hk, hk1, hn, by omega⟩, ?_⟩
    rw [run_of (io := [true, false]) (m := 4) (b := c11) rfl rfl (by decide)]
    simp [startE, exSs, exS, evE, evEs, evS, evT, ioIx, finF, ioOut, dat, slotD, stoV, stoVs, asgT_nm, asgT_tp, asgTs_nil, asgTs_cons, keepV, keepVs, dats, binD, cmpD, idxD, isiD, isiE, isiOk, tyName, callE, callP, ownIx, permR, ioSl, lent, setIo, ownS, trimE, augD, oLst, chgL, setD, wipeE, backE, plainAt, endR, isSkip, slcD, biD, ixD, L2.ixN, eqOk, SeqAt.shaped, PyData.canLay0, PyData.canLayAll0, PyData.depth, PyData.depthAll, PyData.eqv, PyData.eqvAll, indexD, bitlD, isBD, revD, popD, oMut, setO, augG, kOk, zipD, c11, SK, hp, hm0, hdv, l3, e]
  · have m1 : mulOk 49979693 (cnt + 1) = true := mulOk_l (by decide)
    have p1 : powOk (key + 49979693 * (cnt + 1)) 3 = true := powOk_of (n := 3) (b := 100) (nat_lt (n := 0) (by omega) (by omega)) (by decide) (by decide)
    have hq0 : 0 ≤ (key + 49979693 * (cnt + 1)) ^ 3 % 100000000000000000000000000319 := Int.emod_nonneg _ (by decide)
    have hq1 : (key + 49979693 * (cnt + 1)) ^ 3 % 100000000000000000000000000319 < 2 ^ 97 := Int.lt_of_lt_of_le (Int.emod_lt_of_pos _ (by decide)) (by decide)
    generalize hx : (key + 49979693 * (cnt + 1)) ^ 3 % 100000000000000000000000000319 = x at hq0 hq1
    have p2 : powOk (x + 2038074751) 3 = true := powOk_of (n := 3) (b := 120) (nat_lt (n := 0) (by omega) (by omega)) (by decide) (by decide)
    have hz0 : 0 ≤ (x + 2038074751) ^ 3 % 1000000000000000000000000000000033 := Int.emod_nonneg _ (by decide)
    generalize hz : (x + 2038074751) ^ 3 % 1000000000000000000000000000000033 = z at hz0
    have d2 : divOk 1000000 = true := by decide
    obtain ⟨v, e, hv⟩ := md (z / 1000000)
    refine ⟨v, c, key, cnt + 1, hv, ⟨hc, hk, hk1, by omega, by omega⟩, ?_⟩
    rw [run_of (io := [true, false]) (m := 4) (b := c11) rfl rfl (by decide)]
    simp [startE, exSs, exS, evE, evEs, evS, evT, ioIx, finF, ioOut, dat, slotD, stoV, stoVs, asgT_nm, asgT_tp, asgTs_nil, asgTs_cons, keepV, keepVs, dats, binD, cmpD, idxD, isiD, isiE, isiOk, tyName, callE, callP, ownIx, permR, ioSl, lent, setIo, ownS, trimE, augD, oLst, chgL, setD, wipeE, backE, plainAt, endR, isSkip, slcD, biD, ixD, L2.ixN, eqOk, SeqAt.shaped, PyData.canLay0, PyData.canLayAll0, PyData.depth, PyData.depthAll, PyData.eqv, PyData.eqvAll, indexD, bitlD, isBD, revD, popD, oMut, setO, augG, kOk, zipD, c11, SK, hp, hm0, m1, p1, hx, p2, hz, d2, l3, e]
/-- a text with itself -/
theorem same_str (n : Nat) {x : Str} (h : PyData.strOk x = true) : run T (n + 1) 12 [.str x, .str x] = .ret false (.bool true) [] := by
  rw [run_of (io := [false, false]) (m := 3) (b := c12) rfl rfl (by decide)]
  simp [startE, exSs, exS, evE, evEs, evS, evT, ioIx, finF, ioOut, dat, slotD, stoV, stoVs, asgT_nm, asgT_tp, asgTs_nil, asgTs_cons, keepV, keepVs, dats, binD, cmpD, idxD, isiD, isiE, isiOk, tyName, callE, callP, ownIx, permR, ioSl, lent, setIo, ownS, trimE, augD, oLst, chgL, setD, wipeE, backE, plainAt, endR, isSkip, slcD, biD, ixD, L2.ixN, eqOk, SeqAt.shaped, PyData.canLay0, PyData.canLayAll0, PyData.depth, PyData.depthAll, PyData.eqv, PyData.eqvAll, indexD, bitlD, isBD, revD, popD, oMut, setO, augG, kOk, zipD, c12, h]
/-- power(b, n) -/
theorem lpower_loop (n : Nat) (b : Nat) (hb : b < 2 ^ 64) (k : Nat) : ∃ x, forL [] (.nm 3) (exSs T.io (run T n) [] c13_L1) (rngD 0 (k : Int)) [some (false, .int (b : Nat)), some (false, .int (k : Nat)), some (false, .int 1), none] = .nx [some (false, .int (b : Nat)), some (false, .int (k : Nat)), some (false, .int ((b ^ k : Nat) : Int)), x] := by
  obtain ⟨ρ', e, x, e2⟩ := for_inv (lk := []) (t := .nm 3) (b := exSs T.io (run T n) [] c13_L1) (ds := rngD 0 (k : Int)) (ρ := [some (false, .int (b : Nat)), some (false, .int (k : Nat)), some (false, .int 1), none]) (fun i ρ => ∃ x, ρ = [some (false, .int (b : Nat)), some (false, .int (k : Nat)), some (false, .int ((b ^ i : Nat) : Int)), x]) ⟨none, by simp⟩ fun i y ρ hy hi => by
    obtain ⟨x, rfl⟩ := hi
    obtain ⟨hlt, rfl⟩ := rngD_at hy
    have hm : ∀ z : Int, mulOk z (b : Int) = true := fun z => mulOk_r (by simpa using hb)
    refine ⟨[some (false, .int (b : Nat)), some (false, .int (k : Nat)), some (false, .int ((b ^ i : Nat) : Int)), some (false, .int (i : Nat))], by simp [startE, exSs, exS, evE, evEs, evS, evT, ioIx, finF, ioOut, dat, slotD, stoV, stoVs, asgT_nm, asgT_tp, asgTs_nil, asgTs_cons, keepV, keepVs, dats, binD, cmpD, idxD, isiD, isiE, isiOk, tyName, callE, callP, ownIx, permR, ioSl, lent, setIo, ownS, trimE, augD, oLst, chgL, setD, wipeE, backE, plainAt, endR, isSkip, slcD, biD, ixD, L2.ixN, eqOk, SeqAt.shaped, PyData.canLay0, PyData.canLayAll0, PyData.depth, PyData.depthAll, PyData.eqv, PyData.eqvAll, indexD, bitlD, isBD, revD, popD, oMut, setO, augG, kOk, zipD], [some (false, .int (b : Nat)), some (false, .int (k : Nat)), some (false, .int ((b ^ (i + 1) : Nat) : Int)), some (false, .int (i : Nat))], ?_, _, rfl⟩
    rw [Nat.pow_succ]
    generalize b ^ i = M
    simp [startE, exSs, exS, evE, evEs, evS, evT, ioIx, finF, ioOut, dat, slotD, stoV, stoVs, asgT_nm, asgT_tp, asgTs_nil, asgTs_cons, keepV, keepVs, dats, binD, cmpD, idxD, isiD, isiE, isiOk, tyName, callE, callP, ownIx, permR, ioSl, lent, setIo, ownS, trimE, augD, oLst, chgL, setD, wipeE, backE, plainAt, endR, isSkip, slcD, biD, ixD, L2.ixN, eqOk, SeqAt.shaped, PyData.canLay0, PyData.canLayAll0, PyData.depth, PyData.depthAll, PyData.eqv, PyData.eqvAll, indexD, bitlD, isBD, revD, popD, oMut, setO, augG, kOk, zipD, c13_L1, hm]
  rw [rngD_len] at e2
  exact ⟨x, by rw [e, e2]; simp⟩
theorem lpower_ok (n : Nat) (b : Nat) (hb : b < 2 ^ 64) (k : Nat) (hk : k ≤ 1000000) : run T (n + 1) 13 [.int (b : Nat), .int (k : Nat)] = .ret false (.int ((b ^ k : Nat) : Int)) [] := by
  obtain ⟨x, L⟩ := lpower_loop n b hb k
  have hr : rngOk (k : Int) = true := rngOk_nat hk
  rw [run_of (io := [false, false]) (m := 4) (b := c13) rfl rfl (by decide)]
  generalize b ^ k = M at *
  simp [startE, exSs, exS, evE, evEs, evS, evT, ioIx, finF, ioOut, dat, slotD, stoV, stoVs, asgT_nm, asgT_tp, asgTs_nil, asgTs_cons, keepV, keepVs, dats, binD, cmpD, idxD, isiD, isiE, isiOk, tyName, callE, callP, ownIx, permR, ioSl, lent, setIo, ownS, trimE, augD, oLst, chgL, setD, wipeE, backE, plainAt, endR, isSkip, slcD, biD, ixD, L2.ixN, eqOk, SeqAt.shaped, PyData.canLay0, PyData.canLayAll0, PyData.depth, PyData.depthAll, PyData.eqv, PyData.eqvAll, indexD, bitlD, isBD, revD, popD, oMut, setO, augG, kOk, zipD, c13, hr, L]

/-- a fraction that is cut -/
theorem low_loop (n : Nat) (a0 a1 : Option (Bool × PyData)) : ∀ (v u : Nat), v < 2 ^ 9000 → whileE (evT T.io (run T n) [] c14_C1) (exSs T.io (run T n) [] c14_L1) [a0, a1, some (false, .int (u : Nat)), some (false, .int (v : Nat))] = .nx [a0, a1, some (false, .int ((u.gcd v : Nat) : Int)), some (false, .int 0)] := by
  intro v
  induction v using Nat.strongRecOn with
  | ind v ih =>
    intro u hv
    by_cases h0 : v = 0
    · subst h0
      rw [while_stop (ρ1 := [a0, a1, some (false, .int (u : Nat)), some (false, .int 0)])]
      · simp
      · simp [startE, exSs, exS, evE, evEs, evS, evT, ioIx, finF, ioOut, dat, slotD, stoV, stoVs, asgT_nm, asgT_tp, asgTs_nil, asgTs_cons, keepV, keepVs, dats, binD, cmpD, idxD, isiD, isiE, isiOk, tyName, callE, callP, ownIx, permR, ioSl, lent, setIo, ownS, trimE, augD, oLst, chgL, setD, wipeE, backE, plainAt, endR, isSkip, slcD, biD, ixD, L2.ixN, eqOk, SeqAt.shaped, PyData.canLay0, PyData.canLayAll0, PyData.depth, PyData.depthAll, PyData.eqv, PyData.eqvAll, indexD, bitlD, isBD, revD, popD, oMut, setO, augG, kOk, zipD, c14_C1]
    · have hp : 0 < v := Nat.pos_of_ne_zero h0
      have hlt := Nat.mod_lt u hp
      have i2 := ih (u % v) hlt v (Nat.lt_trans hlt hv)
      refine while_step (ρ1 := [a0, a1, some (false, .int (u : Nat)), some (false, .int (v : Nat))]) (ρ2 := [a0, a1, some (false, .int (v : Nat)), some (false, .int ((u % v : Nat) : Int))]) ?_ ?_ ?_
      · simp [startE, exSs, exS, evE, evEs, evS, evT, ioIx, finF, ioOut, dat, slotD, stoV, stoVs, asgT_nm, asgT_tp, asgTs_nil, asgTs_cons, keepV, keepVs, dats, binD, cmpD, idxD, isiD, isiE, isiOk, tyName, callE, callP, ownIx, permR, ioSl, lent, setIo, ownS, trimE, augD, oLst, chgL, setD, wipeE, backE, plainAt, endR, isSkip, slcD, biD, ixD, L2.ixN, eqOk, SeqAt.shaped, PyData.canLay0, PyData.canLayAll0, PyData.depth, PyData.depthAll, PyData.eqv, PyData.eqvAll, indexD, bitlD, isBD, revD, popD, oMut, setO, augG, kOk, zipD, c14_C1, h0]
      · simp [startE, exSs, exS, evE, evEs, evS, evT, ioIx, finF, ioOut, dat, slotD, stoV, stoVs, asgT_nm, asgT_tp, asgTs_nil, asgTs_cons, keepV, keepVs, dats, binD, cmpD, idxD, isiD, isiE, isiOk, tyName, callE, callP, ownIx, permR, ioSl, lent, setIo, ownS, trimE, augD, oLst, chgL, setD, wipeE, backE, plainAt, endR, isSkip, slcD, biD, ixD, L2.ixN, eqOk, SeqAt.shaped, PyData.canLay0, PyData.canLayAll0, PyData.depth, PyData.depthAll, PyData.eqv, PyData.eqvAll, indexD, bitlD, isBD, revD, popD, oMut, setO, augG, kOk, zipD, c14_L1, hp]
      · rw [i2]
        have : v.gcd (u % v) = u.gcd v := by rw [Nat.gcd_comm v, ← Nat.gcd_rec, Nat.gcd_comm]
        rw [this]
/-- a number of two integers -/
def NN (p : Nat × Nat) : PyData := .tuple [.int (p.1 : Nat), .int (p.2 : Nat)]
structure Bg (p : Nat × Nat) : Prop where
  a : p.1 < big
  b : p.2 < big
theorem big_lt : big < 2 ^ 300 := by unfold big; decide +kernel
theorem big_lt2 : big < 2 ^ 9000 := Nat.lt_of_lt_of_le big_lt (Nat.pow_le_pow_right (by decide) (by decide))
theorem low_ok (n : Nat) (t d : Nat) (h : 0 < d) (hd : d < big) (ht : t < big) : ∃ p : Nat × Nat, Bg p ∧ run T (n + 1) 14 [.int (t : Nat), .int (d : Nat)] = .ret false (NN p) [] := by
  have L := low_loop n (some (false, .int (t : Nat))) (some (false, .int (d : Nat))) d t (Nat.lt_trans hd big_lt2)
  have g0 : 0 < t.gcd d := Nat.gcd_pos_of_pos_right _ h
  have g1 : t.gcd d ≤ d := Nat.gcd_le_right _ h
  have hdv : divOk ((t.gcd d : Nat) : Int) = true := divOk_of (b := 300) (by omega) (by rw [Int.natAbs_natCast]; have := big_lt; omega) (by decide) (by decide)
  refine ⟨(t / t.gcd d, d / t.gcd d), ⟨Nat.lt_of_le_of_lt (Nat.div_le_self _ _) ht, Nat.lt_of_le_of_lt (Nat.div_le_self _ _) hd⟩, ?_⟩
  have l2 : lenOk 2 = true := rfl
  rw [run_of (io := [false, false]) (m := 4) (b := c14) rfl rfl (by decide)]
  unfold NN
  simp only [Int.natCast_ediv]
  generalize ((t.gcd d : Nat) : Int) = g at *
  generalize (t : Int) = tt at *
  generalize (d : Int) = dd at *
  simp [startE, exSs, exS, evE, evEs, evS, evT, ioIx, finF, ioOut, dat, slotD, stoV, stoVs, asgT_nm, asgT_tp, asgTs_nil, asgTs_cons, keepV, keepVs, dats, binD, cmpD, idxD, isiD, isiE, isiOk, tyName, callE, callP, ownIx, permR, ioSl, lent, setIo, ownS, trimE, augD, oLst, chgL, setD, wipeE, backE, plainAt, endR, isSkip, slcD, biD, ixD, L2.ixN, eqOk, SeqAt.shaped, PyData.canLay0, PyData.canLayAll0, PyData.depth, PyData.depthAll, PyData.eqv, PyData.eqvAll, indexD, bitlD, isBD, revD, popD, oMut, setO, augG, kOk, zipD, c14, L, hdv, l2]
end LW
set_option maxRecDepth 100000
set_option autoImplicit false
set_option maxHeartbeats 2000000
set_option exponentiation.threshold 10000
namespace LW
open PySem PD
def TI (D : List Nat) : PyData := .tuple (D.map fun s => .int (s : Nat))
theorem fin_ret {n : Nat} {e : Ex} {ρ ρ1 : PD.Env} {d : PyData} (h : evE T.io (run T n) [] e ρ = .ok (.val d) ρ1) : finF [] (exSs T.io (run T n) [] (.cons (.ret e) .nil) ρ) = .ret false d [] := by
  rw [seq_end (exs_ret h)]
  rfl
theorem fit_e (s : String) {n : Nat} (h : s.toList.length ≤ n) : Fit (Str.ofString s) n := (fit_lit s).mono h
theorem nat_big {s : Nat} (h : s < big) : (s : Int).natAbs < big := by rw [Int.natAbs_natCast]; exact h
/-! ### signs -/
def signS (l : List Nat) : Str := Txt.join (Str.ofString "") (l.map fun s => ti (s : Nat))
theorem sign_fit {l : List Nat} (h : ∀ s ∈ l, s < big) : Fit (signS l) (l.length * 61) := by
  have := (fit_join (sep := Str.ofString "") (a := 0) (b := 61) (fit_e "" (by decide)) (ys := l.map fun s => ti (s : Nat)) fun y hy => by
    obtain ⟨s, hs, rfl⟩ := List.mem_map.mp hy
    exact fit_ti (h s hs)).1
  rw [List.length_map] at this
  exact this
theorem joined_ok (n : Nat) {l : List Nat} (h : ∀ s ∈ l, s < big) (hl : l.length ≤ 1000) : run T (n + 1) 0 [TI l] = .ret false (.str (signS l)) [] := by
  rw [run_of (io := [false]) (m := 2) (b := c0) rfl rfl (by decide)]
  refine fin_ret (ρ1 := [some (false, TI l), none]) (ev_joinC (fun s : Nat => PyData.int (s : Nat)) (fun s => ti (s : Nat)) rfl (n := 0) (m := 61) (fit_e "" (by decide)) (fun s hs => fit_ti (h s hs)) (by omega) (by omega) rfl fun s hs => ⟨[some (false, TI l), some (false, .int (s : Nat))], rfl, ?_, rfl⟩)
  exact ev_str (ev_var rfl) rfl (nat_big (h s hs))
theorem signs_ok (n : Nat) {l : List Nat} (h : ∀ s ∈ l, s < big) (hl : l.length ≤ 1000) : run T (n + 1) 25 [TI l] = .ret false (.str (signS l)) [] := by
  rw [run_of (io := [false]) (m := 2) (b := c25) rfl rfl (by decide)]
  refine fin_ret (ρ1 := [some (false, TI l), none]) (ev_joinC (fun s : Nat => PyData.int (s : Nat)) (fun s => ti (s : Nat)) rfl (n := 0) (m := 61) (fit_e "" (by decide)) (fun s hs => fit_ti (h s hs)) (by omega) (by omega) rfl fun s hs => ⟨[some (false, TI l), some (false, .int (s : Nat))], rfl, ?_, rfl⟩)
  exact ev_str (ev_var rfl) rfl (nat_big (h s hs))
/-! ### numbers -/
def NI (t : Int) (d : Nat) : PyData := .tuple [.int t, .int (d : Nat)]
def numI (t : Int) (d : Nat) : Str := if d = 1 then ti t else ti t ++ Str.ofString "/" ++ ti (d : Nat)
structure BI (t : Int) (d : Nat) : Prop where
  nb : t.natAbs < big
  ft : Fit (ti t) 62
  db : d < big
theorem Bg.bi {p : Nat × Nat} (h : Bg p) : BI p.1 p.2 := ⟨nat_big h.a, (fit_ti h.a).mono (by omega), h.b⟩
theorem num_fit {t : Int} {d : Nat} (h : BI t d) : Fit (numI t d) 124 := by
  unfold numI
  split
  · exact h.ft.mono (by omega)
  · exact ((h.ft.app (fit_e "/" (n := 1) (by decide))).app (fit_ti h.db)).mono (by omega)
theorem ev_num {n : Nat} {a b : Ex} {ρ : PD.Env} {t : Int} {d : Nat} (h : BI t d) (ha : evE T.io (run T n) [] a ρ = .ok (.val (.int t)) ρ) (hb : evE T.io (run T n) [] b ρ = .ok (.val (.int (d : Nat))) ρ) :
    evE T.io (run T n) [] (.ife (.cmp .eq b (.lit (.int 1))) (.bi .str (.cons a .nil)) (.bin .add (.bin .add (.bi .str (.cons a .nil)) (.lit (.str (Str.ofString "/")))) (.bi .str (.cons b .nil)))) ρ = .ok (.val (.str (numI t d))) ρ := by
  have e : cmpD .eq (.int (d : Nat)) (.int 1) = some (decide (d = 1)) := by
    simp [cmpD, eqOk, SeqAt.shaped, PyData.canLay0, PyData.depth, PyData.eqv]
    by_cases z : d = 1
    · subst z; rfl
    · have : ¬ (d : Int) = 1 := by omega
      simp [z, this]
  have st := ev_str (io := T.io) (cf := run T n) (lk := []) ha rfl h.nb
  have sd := ev_str (io := T.io) (cf := run T n) (lk := []) hb rfl (nat_big h.db)
  have f1 := h.ft.le
  have f2 := (fit_ti h.db).le
  have f3 : (Str.ofString "/").length ≤ 1 := (fit_e "/" (n := 1) (by decide)).le
  unfold numI
  by_cases z : d = 1
  · rw [if_pos z]
    rw [decide_eq_true z] at e
    exact ev_ife_t (ev_cmp hb ev_lit rfl rfl e) st
  · rw [if_neg z]
    rw [decide_eq_false z] at e
    refine ev_ife_f (ev_cmp hb ev_lit rfl rfl e) (ev_cat (ev_cat st ev_lit (by omega)) sd ?_)
    rw [Str.length_append]
    omega
theorem show_num (n : Nat) {t : Int} {d : Nat} (h : BI t d) : run T (n + 1) 1 [NI t d] = .ret false (.str (numI t d)) [] := by
  rw [run_of (io := [false]) (m := 3) (b := c1) rfl rfl (by decide)]
  have S0 : exS T.io (run T n) [] (.asg (.tp [(.nm 1), (.nm 2)]) (.var 0)) [some (false, NI t d), none, none] = .nx [some (false, NI t d), some (false, .int t), some (false, .int (d : Nat))] := by
    simp [startE, exSs, exS, evE, evEs, evS, evT, ioIx, finF, ioOut, dat, slotD, stoV, stoVs, asgT_nm, asgT_tp, asgTs_nil, asgTs_cons, keepV, keepVs, dats, binD, cmpD, idxD, isiD, isiE, isiOk, tyName, callE, callP, ownIx, permR, ioSl, lent, setIo, ownS, trimE, augD, oLst, chgL, setD, wipeE, backE, plainAt, endR, isSkip, slcD, biD, ixD, L2.ixN, eqOk, SeqAt.shaped, PyData.canLay0, PyData.canLayAll0, PyData.depth, PyData.depthAll, PyData.eqv, PyData.eqvAll, indexD, bitlD, isBD, revD, popD, oMut, setO, augG, kOk, zipD, NI]
  refine (congrArg (finF []) (seq_go S0 (seq_end (r := .nil) (exs_ret (ev_num h (ev_var rfl) (ev_var rfl)))))).trans rfl
theorem said_num (n : Nat) {t : Int} {d : Nat} (h : BI t d) : run T (n + 1) 23 [NI t d] = .ret false (.str (numI t d)) [] := by
  rw [run_of (io := [false]) (m := 1) (b := c23) rfl rfl (by decide)]
  refine fin_ret (ρ1 := [some (false, NI t d)]) (ev_num h (ev_idx (ev_var rfl) ev_lit rfl rfl ?_) (ev_idx (ev_var rfl) ev_lit rfl rfl ?_))
  · rfl
  · rfl
end LW
set_option maxRecDepth 100000
set_option autoImplicit false
set_option maxHeartbeats 2000000
set_option exponentiation.threshold 10000
namespace LW
open PySem PD
/-! ### shares -/
def LP (l : List (Nat × Nat)) : PyData := .tuple (l.map NN)
def numP (p : Nat × Nat) : Str := numI (p.1 : Nat) p.2
def allS (l : List (Nat × Nat)) : Str := Txt.join (Str.ofString " ") (l.map numP)
theorem numP_fit {p : Nat × Nat} (h : Bg p) : Fit (numP p) 124 := num_fit h.bi
theorem shares_ok (n : Nat) {l : List (Nat × Nat)} (h : ∀ p ∈ l, Bg p) (hl : l.length ≤ 100) : run T (n + 2) 2 [LP l] = .ret false (.str (allS l)) [] := by
  rw [run_of (io := [false]) (m := 2) (b := c2) rfl rfl (by decide)]
  refine fin_ret (ρ1 := [some (false, LP l), none]) (ev_joinC NN numP rfl (n := 1) (m := 124) (fit_e " " (by decide)) (fun s hs => numP_fit (h s hs)) (by omega) (by omega) rfl fun p hp => ⟨[some (false, LP l), some (false, NN p)], rfl, ?_, rfl⟩)
  have R := show_num n (h p hp).bi
  have e : NI (p.1 : Nat) p.2 = NN p := rfl
  rw [e] at R
  generalize NN p = X at *
  generalize LP l = Y at *
  simp [startE, exSs, exS, evE, evEs, evS, evT, ioIx, finF, ioOut, dat, slotD, stoV, stoVs, asgT_nm, asgT_tp, asgTs_nil, asgTs_cons, keepV, keepVs, dats, binD, cmpD, idxD, isiD, isiE, isiOk, tyName, callE, callP, ownIx, permR, ioSl, lent, setIo, ownS, trimE, augD, oLst, chgL, setD, wipeE, backE, plainAt, endR, isSkip, slcD, biD, eqOk, SeqAt.shaped, PyData.canLay0, PyData.canLayAll0, PyData.depth, PyData.depthAll, PyData.eqv, PyData.eqvAll, indexD, bitlD, isBD, revD, popD, oMut, setO, augG, kOk, zipD, c2_E1, R, numP]
theorem all_ok (n : Nat) {l : List (Nat × Nat)} (h : ∀ p ∈ l, Bg p) (hl : l.length ≤ 100) : run T (n + 2) 24 [LP l] = .ret false (.str (allS l)) [] := by
  rw [run_of (io := [false]) (m := 2) (b := c24) rfl rfl (by decide)]
  refine fin_ret (ρ1 := [some (false, LP l), none]) (ev_joinC NN numP rfl (n := 1) (m := 124) (fit_e " " (by decide)) (fun s hs => numP_fit (h s hs)) (by omega) (by omega) rfl fun p hp => ⟨[some (false, LP l), some (false, NN p)], rfl, ?_, rfl⟩)
  have R := said_num n (h p hp).bi
  have e : NI (p.1 : Nat) p.2 = NN p := rfl
  rw [e] at R
  generalize NN p = X at *
  generalize LP l = Y at *
  simp [startE, exSs, exS, evE, evEs, evS, evT, ioIx, finF, ioOut, dat, slotD, stoV, stoVs, asgT_nm, asgT_tp, asgTs_nil, asgTs_cons, keepV, keepVs, dats, binD, cmpD, idxD, isiD, isiE, isiOk, tyName, callE, callP, ownIx, permR, ioSl, lent, setIo, ownS, trimE, augD, oLst, chgL, setD, wipeE, backE, plainAt, endR, isSkip, slcD, biD, eqOk, SeqAt.shaped, PyData.canLay0, PyData.canLayAll0, PyData.depth, PyData.depthAll, PyData.eqv, PyData.eqvAll, indexD, bitlD, isBD, revD, popD, oMut, setO, augG, kOk, zipD, c24_E1, R, numP]
theorem all_fit {l : List (Nat × Nat)} (h : ∀ p ∈ l, Bg p) : Fit (allS l) (l.length * 125) := by
  have := (fit_join (sep := Str.ofString " ") (a := 1) (b := 124) (fit_e " " (by decide)) (ys := l.map numP) fun y hy => by
    obtain ⟨s, hs, rfl⟩ := List.mem_map.mp hy
    exact numP_fit (h s hs)).1
  rw [List.length_map] at this
  exact this
/-! ### rows -/
structure Rw (r : List Nat) : Prop where
  all : ∀ s ∈ r, s < big
  few : r.length ≤ 41
structure Rws (rs : List (List Nat)) : Prop where
  all : ∀ r ∈ rs, Rw r
  few : rs.length ≤ 60
def RS (rs : List (List Nat)) : PyData := .tuple (rs.map TI)
def rowS (r : List Nat) : Str := Txt.join (Str.ofString " ") (r.map fun s => ti (s : Nat))
def rowsS (rs : List (List Nat)) : Str := Txt.join (Str.ofString "; ") (rs.map rowS)
theorem row_fit {r : List Nat} (h : Rw r) : Fit (rowS r) 2542 := by
  have := (fit_join (sep := Str.ofString " ") (a := 1) (b := 61) (fit_e " " (by decide)) (ys := r.map fun s => ti (s : Nat)) fun y hy => by
    obtain ⟨s, hs, rfl⟩ := List.mem_map.mp hy
    exact fit_ti (h.all s hs)).1
  rw [List.length_map] at this
  have l := h.few
  exact this.mono (by omega)
theorem rows_fit {rs : List (List Nat)} (h : Rws rs) : Fit (rowsS rs) 160000 := by
  have := (fit_join (sep := Str.ofString "; ") (a := 2) (b := 2542) (fit_e "; " (by decide)) (ys := rs.map rowS) fun y hy => by
    obtain ⟨s, hs, rfl⟩ := List.mem_map.mp hy
    exact row_fit (h.all s hs)).1
  rw [List.length_map] at this
  have l := h.few
  exact this.mono (by omega)
theorem show_rows_ok (n : Nat) {rs : List (List Nat)} (h : Rws rs) : run T (n + 1) 4 [RS rs] = .ret false (.str (rowsS rs)) [] := by
  rw [run_of (io := [false]) (m := 3) (b := c4) rfl rfl (by decide)]
  have l := h.few
  refine fin_ret (ρ1 := [some (false, RS rs), none, none]) (ev_joinC TI rowS rfl (n := 2) (m := 2542) (fit_e "; " (by decide)) (fun s hs => row_fit (h.all s hs)) (by omega) (by omega) rfl fun r hr => ⟨[some (false, RS rs), some (false, TI r), none], rfl, ?_, rfl⟩)
  have l2 := (h.all r hr).few
  refine ev_joinC (fun s : Nat => PyData.int (s : Nat)) (fun s => ti (s : Nat)) rfl (n := 1) (m := 61) (fit_e " " (by decide)) (fun s hs => fit_ti ((h.all r hr).all s hs)) (by omega) (by omega) rfl fun s hs => ⟨[some (false, RS rs), some (false, TI r), some (false, .int (s : Nat))], rfl, ?_, rfl⟩
  exact ev_str (ev_var rfl) rfl (nat_big ((h.all r hr).all s hs))
theorem lay_TI (r : List Nat) : PyData.canLay0 (TI r) = true ∧ (TI r).depth ≤ 1 := by
  unfold TI
  constructor
  · simp only [PyData.canLay0]
    induction r with
    | nil => rfl
    | cons a r ih => simpa only [List.map_cons, PyData.canLayAll0, PyData.canLay0, Bool.true_and] using ih
  · have := depth_le (k := 0) (ds := r.map fun s => PyData.int (s : Nat)) fun d hd => by
      obtain ⟨q, _, rfl⟩ := List.mem_map.mp hd
      exact Nat.le_refl 0
    simp only [PyData.depth]
    omega
theorem lay_RS (rs : List (List Nat)) : eqOk (RS rs) = true := by
  have h1 : PyData.canLayAll0 (rs.map TI) = true := by
    induction rs with
    | nil => rfl
    | cons a r ih => simp only [List.map_cons, PyData.canLayAll0, (lay_TI a).1, Bool.true_and, ih]
  have h2 : PyData.depthAll (rs.map TI) ≤ 1 := depth_le fun d hd => by
    obtain ⟨q, _, rfl⟩ := List.mem_map.mp hd
    exact (lay_TI q).2
  have h3 : PyData.depthAll (rs.map TI) ≤ 63 := by omega
  simp [eqOk, SeqAt.shaped, RS, PyData.canLay0, PyData.depth, h1, h3]
theorem ne_RS (rs : List (List Nat)) : cmpD .ne (RS rs) (.tuple []) = some (!decide (rs = [])) := by
  have e0 : eqOk (.tuple []) = true := rfl
  have ev : PyData.eqv (RS rs) (.tuple []) = decide (rs = []) := by
    cases rs with
    | nil => rfl
    | cons a r => simp [RS, PyData.eqv, PyData.eqvAll]
  simp only [cmpD, lay_RS, e0, Bool.and_self, if_true, ev]
theorem said_rows_ok (n : Nat) {rs : List (List Nat)} (h : Rws rs) : run T (n + 1) 26 [RS rs] = .ret false (.str (if rs = [] then Str.ofString "-" else rowsS rs)) [] := by
  rw [run_of (io := [false]) (m := 3) (b := c26) rfl rfl (by decide)]
  have l := h.few
  have tst : evE T.io (run T n) [] (.cmp .ne (.var 0) (.tup .nil)) [some (false, RS rs), none, none] = .ok (.val (.bool (!decide (rs = [])))) [some (false, RS rs), none, none] :=
    ev_cmp (ev_var rfl) (ev_tup (ds := []) ev_es0 rfl rfl) rfl rfl (ne_RS rs)
  refine fin_ret (ρ1 := [some (false, RS rs), none, none]) ?_
  by_cases z : rs = []
  · rw [if_pos z]
    rw [decide_eq_true z] at tst
    exact ev_ife_f tst ev_lit
  · rw [if_neg z]
    rw [decide_eq_false z] at tst
    refine ev_ife_t tst (ev_joinC TI rowS rfl (n := 2) (m := 2542) (fit_e "; " (by decide)) (fun s hs => row_fit (h.all s hs)) (by omega) (by omega) rfl fun r hr => ⟨[some (false, RS rs), some (false, TI r), none], rfl, ?_, rfl⟩)
    have l2 := (h.all r hr).few
    refine ev_joinC (fun s : Nat => PyData.int (s : Nat)) (fun s => ti (s : Nat)) rfl (n := 1) (m := 61) (fit_e " " (by decide)) (fun s hs => fit_ti ((h.all r hr).all s hs)) (by omega) (by omega) rfl fun s hs => ⟨[some (false, RS rs), some (false, TI r), some (false, .int (s : Nat))], rfl, ?_, rfl⟩
    exact ev_str (ev_var rfl) rfl (nat_big ((h.all r hr).all s hs))
def leafS (a b : List (List Nat)) : Str := (if a = [] then Str.ofString "-" else rowsS a) ++ Str.ofString " | " ++ rowsS b
theorem half_fit {a : List (List Nat)} (h : Rws a) : Fit (if a = [] then Str.ofString "-" else rowsS a) 160000 := by
  split
  · exact fit_e "-" (by decide)
  · exact rows_fit h
theorem leaf_fit {a b : List (List Nat)} (h : Rws a) (h' : Rws b) : Fit (leafS a b) 330000 := (((half_fit h).app (fit_e " | " (n := 3) (by decide))).app (rows_fit h')).mono (by omega)
theorem gt_len {α : Type} (l : List α) : decide ((0 : Int) < (l.length : Int)) = !decide (l = []) := by
  cases l with
  | nil => rfl
  | cons a r => simp
theorem show_leaves_ok (n : Nat) {a b : List (List Nat)} (h : Rws a) (h' : Rws b) : run T (n + 2) 5 [.tuple [RS a, RS b]] = .ret false (.str (leafS a b)) [] := by
  rw [run_of (io := [false]) (m := 3) (b := c5) rfl rfl (by decide)]
  have R1 := show_rows_ok n h
  have R2 := show_rows_ok n h'
  have S0 : exS T.io (run T (n + 1)) [] (.asg (.tp [(.nm 1), (.nm 2)]) (.var 0)) [some (false, .tuple [RS a, RS b]), none, none] = .nx [some (false, .tuple [RS a, RS b]), some (false, RS a), some (false, RS b)] := by
    generalize RS a = X
    generalize RS b = Y
    simp [startE, exSs, exS, evE, evEs, evS, evT, ioIx, finF, ioOut, dat, slotD, stoV, stoVs, asgT_nm, asgT_tp, asgTs_nil, asgTs_cons, keepV, keepVs, dats, binD, cmpD, idxD, isiD, isiE, isiOk, tyName, callE, callP, ownIx, permR, ioSl, lent, setIo, ownS, trimE, augD, oLst, chgL, setD, wipeE, backE, plainAt, endR, isSkip, slcD, biD, ixD, L2.ixN, eqOk, SeqAt.shaped, PyData.canLay0, PyData.canLayAll0, PyData.depth, PyData.depthAll, PyData.eqv, PyData.eqvAll, indexD, bitlD, isBD, revD, popD, oMut, setO, augG, kOk, zipD]
  have C1 : evE T.io (run T (n + 1)) [] (.callP 4 (.cons (.var 1) .nil)) [some (false, .tuple [RS a, RS b]), some (false, RS a), some (false, RS b)] = .ok (.val (.str (rowsS a))) [some (false, .tuple [RS a, RS b]), some (false, RS a), some (false, RS b)] := by
    generalize RS a = X at *
    generalize RS b = Y at *
    simp [startE, exSs, exS, evE, evEs, evS, evT, ioIx, finF, ioOut, dat, slotD, stoV, stoVs, asgT_nm, asgT_tp, asgTs_nil, asgTs_cons, keepV, keepVs, dats, binD, cmpD, idxD, isiD, isiE, isiOk, tyName, callE, callP, ownIx, permR, ioSl, lent, setIo, ownS, trimE, augD, oLst, chgL, setD, wipeE, backE, plainAt, endR, isSkip, slcD, biD, eqOk, SeqAt.shaped, PyData.canLay0, PyData.canLayAll0, PyData.depth, PyData.depthAll, PyData.eqv, PyData.eqvAll, indexD, bitlD, isBD, revD, popD, oMut, setO, augG, kOk, zipD, R1]
  have C2 : evE T.io (run T (n + 1)) [] (.callP 4 (.cons (.var 2) .nil)) [some (false, .tuple [RS a, RS b]), some (false, RS a), some (false, RS b)] = .ok (.val (.str (rowsS b))) [some (false, .tuple [RS a, RS b]), some (false, RS a), some (false, RS b)] := by
    generalize RS a = X at *
    generalize RS b = Y at *
    simp [startE, exSs, exS, evE, evEs, evS, evT, ioIx, finF, ioOut, dat, slotD, stoV, stoVs, asgT_nm, asgT_tp, asgTs_nil, asgTs_cons, keepV, keepVs, dats, binD, cmpD, idxD, isiD, isiE, isiOk, tyName, callE, callP, ownIx, permR, ioSl, lent, setIo, ownS, trimE, augD, oLst, chgL, setD, wipeE, backE, plainAt, endR, isSkip, slcD, biD, eqOk, SeqAt.shaped, PyData.canLay0, PyData.canLayAll0, PyData.depth, PyData.depthAll, PyData.eqv, PyData.eqvAll, indexD, bitlD, isBD, revD, popD, oMut, setO, augG, kOk, zipD, R2]
  have tst : evE T.io (run T (n + 1)) [] (.cmp .gt (.bi .len (.cons (.var 1) .nil)) (.lit (.int 0))) [some (false, .tuple [RS a, RS b]), some (false, RS a), some (false, RS b)] = .ok (.val (.bool (!decide (a = [])))) [some (false, .tuple [RS a, RS b]), some (false, RS a), some (false, RS b)] := by
    refine ev_cmp (ev_bi1 (d := RS a) (r := .val (.int (a.length : Nat))) (ev_var rfl) rfl ?_) ev_lit rfl rfl ?_
    · simp [biD, RS]
    · show some (decide ((0 : Int) < (a.length : Int))) = _
      rw [gt_len]
  have half : evE T.io (run T (n + 1)) [] (.ife (.cmp .gt (.bi .len (.cons (.var 1) .nil)) (.lit (.int 0))) (.callP 4 (.cons (.var 1) .nil)) (.glob (Str.ofString "NONE") (.str (Str.ofString "-")))) [some (false, .tuple [RS a, RS b]), some (false, RS a), some (false, RS b)] = .ok (.val (.str (if a = [] then Str.ofString "-" else rowsS a))) [some (false, .tuple [RS a, RS b]), some (false, RS a), some (false, RS b)] := by
    by_cases z : a = []
    · rw [if_pos z]
      rw [decide_eq_true z] at tst
      exact ev_ife_f tst (by rw [evE])
    · rw [if_neg z]
      rw [decide_eq_false z] at tst
      exact ev_ife_t tst C1
  have f1 := (half_fit h).le
  have f2 := (rows_fit h').le
  have f3 : (Str.ofString " | ").length ≤ 3 := (fit_e " | " (n := 3) (by decide)).le
  exact (congrArg (finF []) (seq_go S0 (seq_end (r := .nil) (exs_ret (ev_cat (ev_cat half ev_lit (by omega)) C2 (by rw [Str.length_append]; omega)))))).trans rfl
/-! ### figures and tosses -/
def figS (a b : List Nat) : Str := signS a ++ Str.ofString "(" ++ signS b ++ Str.ofString ")"
structure Sg (l : List Nat) : Prop where
  all : ∀ s ∈ l, s < big
  few : l.length ≤ 1000
theorem Sg.fit {l : List Nat} (h : Sg l) : Fit (signS l) 61000 := (sign_fit h.all).mono (by have := h.few; omega)
theorem fig_fit {a b : List Nat} (h : Sg a) (h' : Sg b) : Fit (figS a b) 130000 := (((h.fit.app (fit_e "(" (n := 1) (by decide))).app h'.fit).app (fit_e ")" (n := 1) (by decide))).mono (by omega)
theorem show_fig_ok (n : Nat) {a b : List Nat} (h : Sg a) (h' : Sg b) : run T (n + 2) 3 [.tuple [TI a, TI b]] = .ret false (.str (figS a b)) [] := by
  rw [run_of (io := [false]) (m := 3) (b := c3) rfl rfl (by decide)]
  have R1 := joined_ok n h.all h.few
  have R2 := joined_ok n h'.all h'.few
  have S0 : exS T.io (run T (n + 1)) [] (.asg (.tp [(.nm 1), (.nm 2)]) (.var 0)) [some (false, .tuple [TI a, TI b]), none, none] = .nx [some (false, .tuple [TI a, TI b]), some (false, TI a), some (false, TI b)] := by
    generalize TI a = X
    generalize TI b = Y
    simp [startE, exSs, exS, evE, evEs, evS, evT, ioIx, finF, ioOut, dat, slotD, stoV, stoVs, asgT_nm, asgT_tp, asgTs_nil, asgTs_cons, keepV, keepVs, dats, binD, cmpD, idxD, isiD, isiE, isiOk, tyName, callE, callP, ownIx, permR, ioSl, lent, setIo, ownS, trimE, augD, oLst, chgL, setD, wipeE, backE, plainAt, endR, isSkip, slcD, biD, ixD, L2.ixN, eqOk, SeqAt.shaped, PyData.canLay0, PyData.canLayAll0, PyData.depth, PyData.depthAll, PyData.eqv, PyData.eqvAll, indexD, bitlD, isBD, revD, popD, oMut, setO, augG, kOk, zipD]
  have C1 : evE T.io (run T (n + 1)) [] (.callP 0 (.cons (.var 1) .nil)) [some (false, .tuple [TI a, TI b]), some (false, TI a), some (false, TI b)] = .ok (.val (.str (signS a))) [some (false, .tuple [TI a, TI b]), some (false, TI a), some (false, TI b)] := by
    generalize TI a = X at *
    generalize TI b = Y at *
    simp [startE, exSs, exS, evE, evEs, evS, evT, ioIx, finF, ioOut, dat, slotD, stoV, stoVs, asgT_nm, asgT_tp, asgTs_nil, asgTs_cons, keepV, keepVs, dats, binD, cmpD, idxD, isiD, isiE, isiOk, tyName, callE, callP, ownIx, permR, ioSl, lent, setIo, ownS, trimE, augD, oLst, chgL, setD, wipeE, backE, plainAt, endR, isSkip, slcD, biD, eqOk, SeqAt.shaped, PyData.canLay0, PyData.canLayAll0, PyData.depth, PyData.depthAll, PyData.eqv, PyData.eqvAll, indexD, bitlD, isBD, revD, popD, oMut, setO, augG, kOk, zipD, R1]
  have C2 : evE T.io (run T (n + 1)) [] (.callP 0 (.cons (.var 2) .nil)) [some (false, .tuple [TI a, TI b]), some (false, TI a), some (false, TI b)] = .ok (.val (.str (signS b))) [some (false, .tuple [TI a, TI b]), some (false, TI a), some (false, TI b)] := by
    generalize TI a = X at *
    generalize TI b = Y at *
    simp [startE, exSs, exS, evE, evEs, evS, evT, ioIx, finF, ioOut, dat, slotD, stoV, stoVs, asgT_nm, asgT_tp, asgTs_nil, asgTs_cons, keepV, keepVs, dats, binD, cmpD, idxD, isiD, isiE, isiOk, tyName, callE, callP, ownIx, permR, ioSl, lent, setIo, ownS, trimE, augD, oLst, chgL, setD, wipeE, backE, plainAt, endR, isSkip, slcD, biD, eqOk, SeqAt.shaped, PyData.canLay0, PyData.canLayAll0, PyData.depth, PyData.depthAll, PyData.eqv, PyData.eqvAll, indexD, bitlD, isBD, revD, popD, oMut, setO, augG, kOk, zipD, R2]
  have f1 := h.fit.le
  have f2 := h'.fit.le
  have f3 : (Str.ofString "(").length ≤ 1 := (fit_e "(" (n := 1) (by decide)).le
  have f4 : (Str.ofString ")").length ≤ 1 := (fit_e ")" (n := 1) (by decide)).le
  exact (congrArg (finF []) (seq_go S0 (seq_end (r := .nil) (exs_ret (ev_cat (ev_cat (ev_cat C1 ev_lit (by omega)) C2 (by rw [Str.length_append]; omega)) ev_lit (by rw [Str.length_append, Str.length_append]; omega)))))).trans rfl
def tosS (l : List Nat) : Str := if l = [] then Str.ofString "-" else signS l
theorem tos_fit {l : List Nat} (h : Sg l) : Fit (tosS l) 61000 := by
  unfold tosS
  split
  · exact fit_e "-" (by decide)
  · exact h.fit
theorem show_tos_ok (n : Nat) {l : List Nat} (h : Sg l) : run T (n + 2) 8 [TI l] = .ret false (.str (tosS l)) [] := by
  rw [run_of (io := [false]) (m := 1) (b := c8) rfl rfl (by decide)]
  have R1 := joined_ok n h.all h.few
  have C1 : evE T.io (run T (n + 1)) [] (.callP 0 (.cons (.var 0) .nil)) [some (false, TI l)] = .ok (.val (.str (signS l))) [some (false, TI l)] := by
    generalize TI l = X at *
    simp [startE, exSs, exS, evE, evEs, evS, evT, ioIx, finF, ioOut, dat, slotD, stoV, stoVs, asgT_nm, asgT_tp, asgTs_nil, asgTs_cons, keepV, keepVs, dats, binD, cmpD, idxD, isiD, isiE, isiOk, tyName, callE, callP, ownIx, permR, ioSl, lent, setIo, ownS, trimE, augD, oLst, chgL, setD, wipeE, backE, plainAt, endR, isSkip, slcD, biD, eqOk, SeqAt.shaped, PyData.canLay0, PyData.canLayAll0, PyData.depth, PyData.depthAll, PyData.eqv, PyData.eqvAll, indexD, bitlD, isBD, revD, popD, oMut, setO, augG, kOk, zipD, R1]
  have tst : evE T.io (run T (n + 1)) [] (.cmp .gt (.bi .len (.cons (.var 0) .nil)) (.lit (.int 0))) [some (false, TI l)] = .ok (.val (.bool (!decide (l = [])))) [some (false, TI l)] := by
    refine ev_cmp (ev_bi1 (d := TI l) (r := .val (.int (l.length : Nat))) (ev_var rfl) rfl ?_) ev_lit rfl rfl ?_
    · simp [biD, TI]
    · show some (decide ((0 : Int) < (l.length : Int))) = _
      rw [gt_len]
  refine fin_ret (ρ1 := [some (false, TI l)]) ?_
  unfold tosS
  by_cases z : l = []
  · rw [if_pos z]
    rw [decide_eq_true z] at tst
    exact ev_ife_f tst (by rw [evE])
  · rw [if_neg z]
    rw [decide_eq_false z] at tst
    exact ev_ife_t tst C1
end LW
set_option maxRecDepth 100000
set_option autoImplicit false
set_option maxHeartbeats 2000000
set_option exponentiation.threshold 10000
namespace LW
open PySem PD
/-! ### places -/
abbrev Pl := Bool × Nat
def PlD (p : Pl) : PyData := .tuple [.str (if p.1 = true then Str.ofString "to" else Str.ofString "is"), .int (p.2 : Nat)]
def plS (p : Pl) : Str := (if p.1 = true then Str.ofString "s" else Str.ofString "i") ++ ti (p.2 : Nat)
theorem pl_fit {p : Pl} (h : p.2 < big) : Fit (plS p) 62 := by
  unfold plS
  split
  · exact (fit_e "s" (n := 1) (by decide)).app (fit_ti h)
  · exact (fit_e "i" (n := 1) (by decide)).app (fit_ti h)
theorem show_pl (n : Nat) {p : Pl} (h : p.2 < big) : run T (n + 1) 6 [PlD p] = .ret false (.str (plS p)) [] := by
  rw [run_of (io := [false]) (m := 1) (b := c6) rfl rfl (by decide)]
  obtain ⟨b, k⟩ := p
  have i0 : idxD (PlD (b, k)) (.int 0) = some (.val (.str (if b = true then Str.ofString "to" else Str.ofString "is"))) := rfl
  have i1 : idxD (PlD (b, k)) (.int 1) = some (.val (.int (k : Nat))) := rfl
  have e1 : evE T.io (run T n) [] (.idx (.var 0) (.lit (.int 0))) [some (false, PlD (b, k))] = .ok (.val (.str (if b = true then Str.ofString "to" else Str.ofString "is"))) [some (false, PlD (b, k))] := ev_idx (ev_var rfl) ev_lit rfl rfl i0
  have e2 : evE T.io (run T n) [] (.idx (.var 0) (.lit (.int 1))) [some (false, PlD (b, k))] = .ok (.val (.int (k : Nat))) [some (false, PlD (b, k))] := ev_idx (ev_var rfl) ev_lit rfl rfl i1
  have cx : ∀ kvs : List (Str × Str), cdxD kvs (.str (if b = true then Str.ofString "to" else Str.ofString "is")) = some (.val (.str (if b = true then Str.ofString "s" else Str.ofString "i"))) → evE T.io (run T n) [] (.cdx (Str.ofString "SIGNS") kvs (.idx (.var 0) (.lit (.int 0)))) [some (false, PlD (b, k))] = .ok (.val (.str (if b = true then Str.ofString "s" else Str.ofString "i"))) [some (false, PlD (b, k))] := fun kvs hk => by
    rw [evE, e1, Rs.bind_ok, dat_val]
    simp only [hk, liftR_some]
  have f2 := (fit_ti h).le
  have f1 : (if b = true then Str.ofString "s" else Str.ofString "i").length ≤ 1 := by
    split
    · exact (fit_e "s" (n := 1) (by decide)).le
    · exact (fit_e "i" (n := 1) (by decide)).le
  refine fin_ret (ρ1 := [some (false, PlD (b, k))]) (ev_cat (x := if b = true then Str.ofString "s" else Str.ofString "i") (cx _ ?_) (ev_str e2 rfl (nat_big h)) (by omega))
  have q : decide (Str.ofString "to" = Str.ofString "is") = false := by decide +kernel
  cases b
  · simp [cdxD, q]
  · simp [cdxD, q]
theorem said_pl (n : Nat) {p : Pl} (h : p.2 < big) : run T (n + 1) 27 [PlD p] = .ret false (.str (plS p)) [] := by
  rw [run_of (io := [false]) (m := 1) (b := c27) rfl rfl (by decide)]
  obtain ⟨b, k⟩ := p
  have i0 : idxD (PlD (b, k)) (.int 0) = some (.val (.str (if b = true then Str.ofString "to" else Str.ofString "is"))) := rfl
  have i1 : idxD (PlD (b, k)) (.int 1) = some (.val (.int (k : Nat))) := rfl
  have e1 : evE T.io (run T n) [] (.idx (.var 0) (.lit (.int 0))) [some (false, PlD (b, k))] = .ok (.val (.str (if b = true then Str.ofString "to" else Str.ofString "is"))) [some (false, PlD (b, k))] := ev_idx (ev_var rfl) ev_lit rfl rfl i0
  have e2 : evE T.io (run T n) [] (.idx (.var 0) (.lit (.int 1))) [some (false, PlD (b, k))] = .ok (.val (.int (k : Nat))) [some (false, PlD (b, k))] := ev_idx (ev_var rfl) ev_lit rfl rfl i1
  have ds : ∀ (kvs : List (Str × Str)) (nd : (kvs.map (·.1)).Nodup), evE T.io (run T n) [] (.dsp kvs) [some (false, PlD (b, k))] = .ok (.own (.dict (kvs.map fun p => (.str p.1, .str p.2)))) [some (false, PlD (b, k))] := fun kvs nd => by
    rw [evE, if_pos nd]
  have f2 := (fit_ti h).le
  have f1 : (if b = true then Str.ofString "s" else Str.ofString "i").length ≤ 1 := by
    split
    · exact (fit_e "s" (n := 1) (by decide)).le
    · exact (fit_e "i" (n := 1) (by decide)).le
  refine fin_ret (ρ1 := [some (false, PlD (b, k))]) (ev_cat (x := if b = true then Str.ofString "s" else Str.ofString "i") (ev_idx (ds _ (by decide +kernel)) e1 rfl rfl ?_) (ev_str e2 rfl (nat_big h)) (by omega))
  have q : decide (Str.ofString "to" = Str.ofString "is") = false := by decide +kernel
  have q2 : decide (Str.ofString "is" = Str.ofString "to") = false := by decide +kernel
  cases b
  · simp [idxD, fitD, kDic, dLook, kEq, q, q2]
  · simp [idxD, fitD, kDic, dLook, kEq, q, q2]
/-! ### machines -/
structure Mc where
  n : Nat
  b : Pl
  rows : List (Pl × Pl)
structure McOk (m : Mc) : Prop where
  n : m.n < big
  b : m.b.2 < big
  all : ∀ r ∈ m.rows, r.1.2 < big ∧ r.2.2 < big
  few : m.rows.length ≤ 1000
def RwD (r : Pl × Pl) : PyData := .tuple [PlD r.1, PlD r.2]
def RwsD (rs : List (Pl × Pl)) : PyData := .tuple (rs.map RwD)
def McD (m : Mc) : PyData := .tuple [.int (m.n : Nat), PlD m.b, RwsD m.rows]
def headS (m : Mc) : Str := Str.ofString "machine " ++ ti (m.n : Nat) ++ Str.ofString " " ++ plS m.b
def lineS (r : Pl × Pl) : Str := plS r.1 ++ Str.ofString " " ++ plS r.2
def mcS (m : Mc) : Str := Txt.join (Str.ofString "\n") (headS m :: m.rows.map lineS)
theorem head_fit {m : Mc} (h : McOk m) : Fit (headS m) 200 := ((((fit_e "machine " (n := 8) (by decide)).app (fit_ti h.n)).app (fit_e " " (n := 1) (by decide))).app (pl_fit h.b)).mono (by omega)
theorem line_fit {r : Pl × Pl} (h : r.1.2 < big ∧ r.2.2 < big) : Fit (lineS r) 200 := (((pl_fit h.1).app (fit_e " " (n := 1) (by decide))).app (pl_fit h.2)).mono (by omega)
theorem lines_fit {m : Mc} (h : McOk m) : ∀ y ∈ headS m :: m.rows.map lineS, Fit y 200 := fun y hy => by
  rcases List.mem_cons.mp hy with rfl | hy
  · exact head_fit h
  · obtain ⟨r, hr, rfl⟩ := List.mem_map.mp hy
    exact line_fit (h.all r hr)
theorem mc_fit {m : Mc} (h : McOk m) : Fit (mcS m) 250000 := ((fit_join (sep := Str.ofString "\n") (a := 1) (b := 200) (fit_e "\n" (by decide)) (lines_fit h)).1).mono (by have := h.few; simp; omega)
theorem show_mc (n : Nat) {m : Mc} (h : McOk m) : run T (n + 2) 7 [McD m] = .ret false (.str (mcS m)) [] := by
  rw [run_of (io := [false]) (m := 7) (b := c7) rfl rfl (by decide)]
  have few := h.few
  have RB := show_pl n h.b
  have S0 : exS T.io (run T (n + 1)) [] (.asg (.tp [(.nm 2), (.nm 3), (.nm 4)]) (.var 0)) [some (false, McD m), none, none, none, none, none, none] = .nx [some (false, McD m), none, some (false, .int (m.n : Nat)), some (false, PlD m.b), some (false, RwsD m.rows), none, none] := by
    unfold McD
    generalize PlD m.b = X
    generalize RwsD m.rows = Y
    simp [startE, exSs, exS, evE, evEs, evS, evT, ioIx, finF, ioOut, dat, slotD, stoV, stoVs, asgT_nm, asgT_tp, asgTs_nil, asgTs_cons, keepV, keepVs, dats, binD, cmpD, idxD, isiD, isiE, isiOk, tyName, callE, callP, ownIx, permR, ioSl, lent, setIo, ownS, trimE, augD, oLst, chgL, setD, wipeE, backE, plainAt, endR, isSkip, slcD, biD, ixD, L2.ixN, eqOk, SeqAt.shaped, PyData.canLay0, PyData.canLayAll0, PyData.depth, PyData.depthAll, PyData.eqv, PyData.eqvAll, indexD, bitlD, isBD, revD, popD, oMut, setO, augG, kOk, zipD]
  have S1 : exS T.io (run T (n + 1)) [] (.asg (.nm 1) (.comp [5, 6] c7_E1 (.tp [(.nm 5), (.nm 6)]) (.seq (.var 4)) .skip)) [some (false, McD m), none, some (false, .int (m.n : Nat)), some (false, PlD m.b), some (false, RwsD m.rows), none, none] = .nx [some (false, McD m), some (true, .list (m.rows.map fun r => .str (lineS r))), some (false, .int (m.n : Nat)), some (false, PlD m.b), some (false, RwsD m.rows), none, none] := by
    have C : evE T.io (run T (n + 1)) [] (.comp [5, 6] c7_E1 (.tp [(.nm 5), (.nm 6)]) (.seq (.var 4)) .skip) [some (false, McD m), none, some (false, .int (m.n : Nat)), some (false, PlD m.b), some (false, RwsD m.rows), none, none] = .ok (.own (.list (m.rows.map fun r => .str (lineS r)))) [some (false, McD m), none, some (false, .int (m.n : Nat)), some (false, PlD m.b), some (false, RwsD m.rows), none, none] := by
      refine ev_comp (evS_tup rfl) rfl (by
        have := comp_map (lk := []) (own := [5, 6]) (ρ0 := [some (false, McD m), none, some (false, .int (m.n : Nat)), some (false, PlD m.b), some (false, RwsD m.rows), none, none]) (ρ := [some (false, McD m), none, some (false, .int (m.n : Nat)), some (false, PlD m.b), some (false, RwsD m.rows), none, none]) (t := .tp [.nm 5, .nm 6]) (c := Rs.ok true) (e := evE T.io (run T (n + 1)) [] c7_E1) RwD (fun r => .str (lineS r)) (l := m.rows) (acc := []) (by simp; omega) fun r hr => by
          have R1 := show_pl n (h.all r hr).1
          have R2 := show_pl n (h.all r hr).2
          have f1 := (pl_fit (h.all r hr).1).le
          have f2 := (pl_fit (h.all r hr).2).le
          have f3 : (Str.ofString " ").length ≤ 1 := (fit_e " " (n := 1) (by decide)).le
          refine ⟨[some (false, McD m), none, some (false, .int (m.n : Nat)), some (false, PlD m.b), some (false, RwsD m.rows), some (false, PlD r.1), some (false, PlD r.2)], ?_, rfl, ⟨.val (.str (lineS r)), ?_, rfl⟩, rfl⟩
          · unfold RwD
            generalize PlD r.1 = X
            generalize PlD r.2 = Y
            generalize McD m = Z
            generalize RwsD m.rows = W
            generalize PlD m.b = V
            simp [startE, exSs, exS, evE, evEs, evS, evT, ioIx, finF, ioOut, dat, slotD, stoV, stoVs, asgT_nm, asgT_tp, asgTs_nil, asgTs_cons, keepV, keepVs, dats, binD, cmpD, idxD, isiD, isiE, isiOk, tyName, callE, callP, ownIx, permR, ioSl, lent, setIo, ownS, trimE, augD, oLst, chgL, setD, wipeE, backE, plainAt, endR, isSkip, slcD, biD, ixD, L2.ixN, eqOk, SeqAt.shaped, PyData.canLay0, PyData.canLayAll0, PyData.depth, PyData.depthAll, PyData.eqv, PyData.eqvAll, indexD, bitlD, isBD, revD, popD, oMut, setO, augG, kOk, zipD]
          · have C1 : evE T.io (run T (n + 1)) [] (.callP 6 (.cons (.var 5) .nil)) [some (false, McD m), none, some (false, .int (m.n : Nat)), some (false, PlD m.b), some (false, RwsD m.rows), some (false, PlD r.1), some (false, PlD r.2)] = .ok (.val (.str (plS r.1))) [some (false, McD m), none, some (false, .int (m.n : Nat)), some (false, PlD m.b), some (false, RwsD m.rows), some (false, PlD r.1), some (false, PlD r.2)] := by
              generalize PlD r.1 = X at *
              generalize PlD r.2 = Y at *
              generalize McD m = Z
              generalize RwsD m.rows = W
              generalize PlD m.b = V at *
              simp [startE, exSs, exS, evE, evEs, evS, evT, ioIx, finF, ioOut, dat, slotD, stoV, stoVs, asgT_nm, asgT_tp, asgTs_nil, asgTs_cons, keepV, keepVs, dats, binD, cmpD, idxD, isiD, isiE, isiOk, tyName, callE, callP, ownIx, permR, ioSl, lent, setIo, ownS, trimE, augD, oLst, chgL, setD, wipeE, backE, plainAt, endR, isSkip, slcD, biD, eqOk, SeqAt.shaped, PyData.canLay0, PyData.canLayAll0, PyData.depth, PyData.depthAll, PyData.eqv, PyData.eqvAll, indexD, bitlD, isBD, revD, popD, oMut, setO, augG, kOk, zipD, R1]
            have C2 : evE T.io (run T (n + 1)) [] (.callP 6 (.cons (.var 6) .nil)) [some (false, McD m), none, some (false, .int (m.n : Nat)), some (false, PlD m.b), some (false, RwsD m.rows), some (false, PlD r.1), some (false, PlD r.2)] = .ok (.val (.str (plS r.2))) [some (false, McD m), none, some (false, .int (m.n : Nat)), some (false, PlD m.b), some (false, RwsD m.rows), some (false, PlD r.1), some (false, PlD r.2)] := by
              generalize PlD r.1 = X at *
              generalize PlD r.2 = Y at *
              generalize McD m = Z
              generalize RwsD m.rows = W
              generalize PlD m.b = V at *
              simp [startE, exSs, exS, evE, evEs, evS, evT, ioIx, finF, ioOut, dat, slotD, stoV, stoVs, asgT_nm, asgT_tp, asgTs_nil, asgTs_cons, keepV, keepVs, dats, binD, cmpD, idxD, isiD, isiE, isiOk, tyName, callE, callP, ownIx, permR, ioSl, lent, setIo, ownS, trimE, augD, oLst, chgL, setD, wipeE, backE, plainAt, endR, isSkip, slcD, biD, eqOk, SeqAt.shaped, PyData.canLay0, PyData.canLayAll0, PyData.depth, PyData.depthAll, PyData.eqv, PyData.eqvAll, indexD, bitlD, isBD, revD, popD, oMut, setO, augG, kOk, zipD, R2]
            exact ev_cat (ev_cat C1 ev_lit (by omega)) C2 (by rw [Str.length_append]; omega)
        rw [List.nil_append] at this
        exact this)
    rw [exS, C]
    rfl
  have F1 := (fit_ti h.n).le
  have F2 := (pl_fit h.b).le
  have F3 : (Str.ofString "machine ").length ≤ 8 := (fit_e "machine " (n := 8) (by decide)).le
  have F4 : (Str.ofString " ").length ≤ 1 := (fit_e " " (n := 1) (by decide)).le
  have CB : evE T.io (run T (n + 1)) [] (.callP 6 (.cons (.var 3) .nil)) [some (false, McD m), some (true, .list (m.rows.map fun r => .str (lineS r))), some (false, .int (m.n : Nat)), some (false, PlD m.b), some (false, RwsD m.rows), none, none] = .ok (.val (.str (plS m.b))) [some (false, McD m), some (true, .list (m.rows.map fun r => .str (lineS r))), some (false, .int (m.n : Nat)), some (false, PlD m.b), some (false, RwsD m.rows), none, none] := by
    generalize McD m = Z
    generalize RwsD m.rows = W
    generalize PlD m.b = V at *
    generalize (m.rows.map fun r => PyData.str (lineS r)) = U
    simp [startE, exSs, exS, evE, evEs, evS, evT, ioIx, finF, ioOut, dat, slotD, stoV, stoVs, asgT_nm, asgT_tp, asgTs_nil, asgTs_cons, keepV, keepVs, dats, binD, cmpD, idxD, isiD, isiE, isiOk, tyName, callE, callP, ownIx, permR, ioSl, lent, setIo, ownS, trimE, augD, oLst, chgL, setD, wipeE, backE, plainAt, endR, isSkip, slcD, biD, eqOk, SeqAt.shaped, PyData.canLay0, PyData.canLayAll0, PyData.depth, PyData.depthAll, PyData.eqv, PyData.eqvAll, indexD, bitlD, isBD, revD, popD, oMut, setO, augG, kOk, zipD, RB]
  have HD : evE T.io (run T (n + 1)) [] (.bin .add (.bin .add (.bin .add (.lit (.str (Str.ofString "machine "))) (.bi .str (.cons (.var 2) .nil))) (.lit (.str (Str.ofString " ")))) (.callP 6 (.cons (.var 3) .nil))) [some (false, McD m), some (true, .list (m.rows.map fun r => .str (lineS r))), some (false, .int (m.n : Nat)), some (false, PlD m.b), some (false, RwsD m.rows), none, none] = .ok (.val (.str (headS m))) [some (false, McD m), some (true, .list (m.rows.map fun r => .str (lineS r))), some (false, .int (m.n : Nat)), some (false, PlD m.b), some (false, RwsD m.rows), none, none] :=
    ev_cat (ev_cat (ev_cat ev_lit (ev_str (ev_var rfl) rfl (nat_big h.n)) (by omega)) ev_lit (by rw [Str.length_append]; omega)) CB (by rw [Str.length_append, Str.length_append]; omega)
  have AD : evE T.io (run T (n + 1)) [] (.bin .add (.lst (.cons (.bin .add (.bin .add (.bin .add (.lit (.str (Str.ofString "machine "))) (.bi .str (.cons (.var 2) .nil))) (.lit (.str (Str.ofString " ")))) (.callP 6 (.cons (.var 3) .nil))) .nil)) (.var 1)) [some (false, McD m), some (true, .list (m.rows.map fun r => .str (lineS r))), some (false, .int (m.n : Nat)), some (false, PlD m.b), some (false, RwsD m.rows), none, none] = .ok (.own (.list ((headS m :: m.rows.map lineS).map .str))) [some (false, McD m), some (true, .list (m.rows.map fun r => .str (lineS r))), some (false, .int (m.n : Nat)), some (false, PlD m.b), some (false, RwsD m.rows), none, none] := by
    refine ev_bin (ev_lst (ds := [.str (headS m)]) (ev_es HD ev_es0) rfl rfl) (ev_own rfl) rfl rfl ?_
    have l1 : lenOk (1 + (m.rows.map fun r => PyData.str (lineS r)).length) = true := decide_eq_true (by simp; omega)
    show (if lenOk (1 + (m.rows.map fun r => PyData.str (lineS r)).length) = true then some (Rv.own (.list ([.str (headS m)] ++ m.rows.map fun r => .str (lineS r)))) else none) = _
    rw [if_pos l1, List.map_cons, List.map_map]
    rfl
  have J := ev_join (sep := Str.ofString "\n") (n := 1) (m := 200) (fit_e "\n" (by decide)) (lines_fit h) (by simp; omega) AD rfl
  exact (congrArg (finF []) (seq_go S0 (seq_go S1 (seq_end (r := .nil) (exs_ret J))))).trans rfl
end LW
set_option maxRecDepth 100000
set_option autoImplicit false
set_option maxHeartbeats 2000000
set_option exponentiation.threshold 10000
namespace LW
open PySem PD
theorem said_mc (n : Nat) {m : Mc} (h : McOk m) : run T (n + 2) 28 [McD m] = .ret false (.str (mcS m)) [] := by
  rw [run_of (io := [false]) (m := 4) (b := c28) rfl rfl (by decide)]
  have few := h.few
  have RB := said_pl n h.b
  have F1 := (fit_ti h.n).le
  have F2 := (pl_fit h.b).le
  have F3 : (Str.ofString "machine ").length ≤ 8 := (fit_e "machine " (n := 8) (by decide)).le
  have F4 : (Str.ofString " ").length ≤ 1 := (fit_e " " (n := 1) (by decide)).le
  have i0 : idxD (McD m) (.int 0) = some (.val (.int (m.n : Nat))) := rfl
  have i1 : idxD (McD m) (.int 1) = some (.val (PlD m.b)) := rfl
  have i2 : idxD (McD m) (.int 2) = some (.val (RwsD m.rows)) := rfl
  have CB : evE T.io (run T (n + 1)) [] (.callP 27 (.cons (.idx (.var 0) (.lit (.int 1))) .nil)) [some (false, McD m), none, none, none] = .ok (.val (.str (plS m.b))) [some (false, McD m), none, none, none] := by
    refine ev_call (rs := [.val (PlD m.b)]) (ev_es (ev_idx (ev_var rfl) ev_lit rfl rfl i1) ev_es0) ?_
    generalize McD m = Z at *
    generalize PlD m.b = V at *
    simp [startE, exSs, exS, evE, evEs, evS, evT, ioIx, finF, ioOut, dat, slotD, stoV, stoVs, asgT_nm, asgT_tp, asgTs_nil, asgTs_cons, keepV, keepVs, dats, binD, cmpD, idxD, isiD, isiE, isiOk, tyName, callE, callP, ownIx, permR, ioSl, lent, setIo, ownS, trimE, augD, oLst, chgL, setD, wipeE, backE, plainAt, endR, isSkip, slcD, biD, eqOk, SeqAt.shaped, PyData.canLay0, PyData.canLayAll0, PyData.depth, PyData.depthAll, PyData.eqv, PyData.eqvAll, indexD, bitlD, isBD, revD, popD, oMut, setO, augG, kOk, zipD, RB]
  have HD : evE T.io (run T (n + 1)) [] (.bin .add (.bin .add (.bin .add (.lit (.str (Str.ofString "machine "))) (.bi .str (.cons (.idx (.var 0) (.lit (.int 0))) .nil))) (.lit (.str (Str.ofString " ")))) (.callP 27 (.cons (.idx (.var 0) (.lit (.int 1))) .nil))) [some (false, McD m), none, none, none] = .ok (.val (.str (headS m))) [some (false, McD m), none, none, none] :=
    ev_cat (ev_cat (ev_cat ev_lit (ev_str (ev_idx (ev_var rfl) ev_lit rfl rfl i0) rfl (nat_big h.n)) (by omega)) ev_lit (by rw [Str.length_append]; omega)) CB (by rw [Str.length_append, Str.length_append]; omega)
  have S0 : exS T.io (run T (n + 1)) [] (.asg (.nm 1) (.lst (.cons (.bin .add (.bin .add (.bin .add (.lit (.str (Str.ofString "machine "))) (.bi .str (.cons (.idx (.var 0) (.lit (.int 0))) .nil))) (.lit (.str (Str.ofString " ")))) (.callP 27 (.cons (.idx (.var 0) (.lit (.int 1))) .nil))) .nil))) [some (false, McD m), none, none, none] = .nx [some (false, McD m), some (true, .list [.str (headS m)]), none, none] := by
    rw [exS, ev_lst (ds := [.str (headS m)]) (ev_es HD ev_es0) rfl rfl]
    rfl
  obtain ⟨ρ', e, x2, x3, e2⟩ := for_inv (lk := []) (t := .tp [.nm 2, .nm 3]) (b := exSs T.io (run T (n + 1)) [] c28_L1) (ds := m.rows.map RwD) (ρ := [some (false, McD m), some (true, .list [.str (headS m)]), none, none])
    (fun i ρ => ∃ x2 x3, ρ = [some (false, McD m), some (true, .list ((headS m :: (m.rows.take i).map lineS).map .str)), x2, x3]) ⟨none, none, rfl⟩ fun i d ρ hd hI => by
    obtain ⟨x2, x3, rfl⟩ := hI
    rw [List.getElem?_map] at hd
    obtain ⟨r, hr, rfl⟩ := Option.map_eq_some_iff.mp hd
    have hm := h.all r (List.mem_of_getElem? hr)
    have hi : i < m.rows.length := (List.getElem?_eq_some_iff.mp hr).1
    have R1 := said_pl n hm.1
    have R2 := said_pl n hm.2
    have f1 := (pl_fit hm.1).le
    have f2 := (pl_fit hm.2).le
    have tk : m.rows.take (i + 1) = m.rows.take i ++ [r] := by rw [List.take_succ, hr]; rfl
    refine ⟨[some (false, McD m), some (true, .list ((headS m :: (m.rows.take i).map lineS).map .str)), some (false, PlD r.1), some (false, PlD r.2)], ?_, [some (false, McD m), some (true, .list ((headS m :: (m.rows.take (i + 1)).map lineS).map .str)), some (false, PlD r.1), some (false, PlD r.2)], ?_, _, _, rfl⟩
    · unfold RwD
      generalize PlD r.1 = X
      generalize PlD r.2 = Y
      generalize McD m = Z
      generalize ((headS m :: (m.rows.take i).map lineS).map PyData.str) = W
      simp [startE, exSs, exS, evE, evEs, evS, evT, ioIx, finF, ioOut, dat, slotD, stoV, stoVs, asgT_nm, asgT_tp, asgTs_nil, asgTs_cons, keepV, keepVs, dats, binD, cmpD, idxD, isiD, isiE, isiOk, tyName, callE, callP, ownIx, permR, ioSl, lent, setIo, ownS, trimE, augD, oLst, chgL, setD, wipeE, backE, plainAt, endR, isSkip, slcD, biD, ixD, L2.ixN, eqOk, SeqAt.shaped, PyData.canLay0, PyData.canLayAll0, PyData.depth, PyData.depthAll, PyData.eqv, PyData.eqvAll, indexD, bitlD, isBD, revD, popD, oMut, setO, augG, kOk, zipD]
    · have C1 : evE T.io (run T (n + 1)) [] (.callP 27 (.cons (.var 2) .nil)) [some (false, McD m), some (true, .list ((headS m :: (m.rows.take i).map lineS).map .str)), some (false, PlD r.1), some (false, PlD r.2)] = .ok (.val (.str (plS r.1))) [some (false, McD m), some (true, .list ((headS m :: (m.rows.take i).map lineS).map .str)), some (false, PlD r.1), some (false, PlD r.2)] := by
        generalize PlD r.1 = X at *
        generalize PlD r.2 = Y at *
        generalize McD m = Z at *
        generalize ((headS m :: (m.rows.take i).map lineS).map PyData.str) = W at *
        simp [startE, exSs, exS, evE, evEs, evS, evT, ioIx, finF, ioOut, dat, slotD, stoV, stoVs, asgT_nm, asgT_tp, asgTs_nil, asgTs_cons, keepV, keepVs, dats, binD, cmpD, idxD, isiD, isiE, isiOk, tyName, callE, callP, ownIx, permR, ioSl, lent, setIo, ownS, trimE, augD, oLst, chgL, setD, wipeE, backE, plainAt, endR, isSkip, slcD, biD, eqOk, SeqAt.shaped, PyData.canLay0, PyData.canLayAll0, PyData.depth, PyData.depthAll, PyData.eqv, PyData.eqvAll, indexD, bitlD, isBD, revD, popD, oMut, setO, augG, kOk, zipD, R1]
      have C2 : evE T.io (run T (n + 1)) [] (.callP 27 (.cons (.var 3) .nil)) [some (false, McD m), some (true, .list ((headS m :: (m.rows.take i).map lineS).map .str)), some (false, PlD r.1), some (false, PlD r.2)] = .ok (.val (.str (plS r.2))) [some (false, McD m), some (true, .list ((headS m :: (m.rows.take i).map lineS).map .str)), some (false, PlD r.1), some (false, PlD r.2)] := by
        generalize PlD r.1 = X at *
        generalize PlD r.2 = Y at *
        generalize McD m = Z at *
        generalize ((headS m :: (m.rows.take i).map lineS).map PyData.str) = W at *
        simp [startE, exSs, exS, evE, evEs, evS, evT, ioIx, finF, ioOut, dat, slotD, stoV, stoVs, asgT_nm, asgT_tp, asgTs_nil, asgTs_cons, keepV, keepVs, dats, binD, cmpD, idxD, isiD, isiE, isiOk, tyName, callE, callP, ownIx, permR, ioSl, lent, setIo, ownS, trimE, augD, oLst, chgL, setD, wipeE, backE, plainAt, endR, isSkip, slcD, biD, eqOk, SeqAt.shaped, PyData.canLay0, PyData.canLayAll0, PyData.depth, PyData.depthAll, PyData.eqv, PyData.eqvAll, indexD, bitlD, isBD, revD, popD, oMut, setO, augG, kOk, zipD, R2]
      have LN : evE T.io (run T (n + 1)) [] (.bin .add (.bin .add (.callP 27 (.cons (.var 2) .nil)) (.lit (.str (Str.ofString " ")))) (.callP 27 (.cons (.var 3) .nil))) [some (false, McD m), some (true, .list ((headS m :: (m.rows.take i).map lineS).map .str)), some (false, PlD r.1), some (false, PlD r.2)] = .ok (.val (.str (lineS r))) [some (false, McD m), some (true, .list ((headS m :: (m.rows.take i).map lineS).map .str)), some (false, PlD r.1), some (false, PlD r.2)] :=
        ev_cat (ev_cat C1 ev_lit (by omega)) C2 (by rw [Str.length_append]; omega)
      have le : lenOk (((headS m :: (m.rows.take i).map lineS).map PyData.str) ++ [PyData.str (lineS r)]).length = true := decide_eq_true (by simp; omega)
      have ew : ((headS m :: (m.rows.take (i + 1)).map lineS).map PyData.str) = ((headS m :: (m.rows.take i).map lineS).map PyData.str) ++ [PyData.str (lineS r)] := by rw [tk]; simp
      have done : ∀ ρ, exSs T.io (run T (n + 1)) [] .nil ρ = .nx ρ := fun ρ => by simp only [exSs]
      refine seq_go (s := (.app 1 (.bin .add (.bin .add (.callP 27 (.cons (.var 2) .nil)) (.lit (.str (Str.ofString " ")))) (.callP 27 (.cons (.var 3) .nil))))) ?_ (done _)
      rw [ew]
      generalize ((headS m :: (m.rows.take i).map lineS).map PyData.str) = W at *
      rw [exS, if_pos (show oLst [some (false, McD m), some (true, .list W), some (false, PlD r.1), some (false, PlD r.2)] 1 = true from rfl), LN]
      show optN (if lenOk (W ++ [PyData.str (lineS r)]).length = true then _ else none) = _
      rw [if_pos le]
      rfl
  rw [List.length_map, List.take_length] at e2
  subst e2
  have S1 : exS T.io (run T (n + 1)) [] (.for (.tp [(.nm 2), (.nm 3)]) (.seq (.idx (.var 0) (.lit (.int 2)))) c28_L1) [some (false, McD m), some (true, .list [.str (headS m)]), none, none] = .nx [some (false, McD m), some (true, .list ((headS m :: m.rows.map lineS).map .str)), x2, x3] := by
    have hs : evS T.io (run T (n + 1)) [] (.seq (.idx (.var 0) (.lit (.int 2)))) [some (false, McD m), some (true, .list [.str (headS m)]), none, none] = .ok (m.rows.map RwD) [some (false, McD m), some (true, .list [.str (headS m)]), none, none] := by
      rw [evS, ev_idx (ev_var rfl) ev_lit rfl rfl i2]
      rfl
    rw [exS, hs]
    exact e
  have J := ev_join (io := T.io) (cf := run T (n + 1)) (lk := []) (sep := Str.ofString "\n") (n := 1) (m := 200) (fit_e "\n" (by decide)) (lines_fit h) (by simp; omega) (ev_own (ρ := [some (false, McD m), some (true, .list ((headS m :: m.rows.map lineS).map .str)), x2, x3]) (i := 1) rfl) rfl
  exact (congrArg (finF []) (seq_go S0 (seq_go S1 (seq_end (r := .nil) (exs_ret J))))).trans rfl
/-! ### tables -/
structure Ce where
  i : Nat
  p : Nat × Nat
  j : Nat
structure CeOk (c : Ce) : Prop where
  i : c.i < big
  p : Bg c.p
  j : c.j < big
def CeD (c : Ce) : PyData := .tuple [.int (c.i : Nat), NN c.p, .int (c.j : Nat)]
def TbD (t : List Ce) : PyData := .tuple (t.map CeD)
def ceS (c : Ce) : Str := ti (c.i : Nat) ++ Str.ofString " " ++ numP c.p ++ Str.ofString " " ++ ti (c.j : Nat)
def tbS (t : List Ce) : Str := Txt.join (Str.ofString ", ") (t.map ceS)
theorem ce_fit {c : Ce} (h : CeOk c) : Fit (ceS c) 250 := (((((fit_ti h.i).app (fit_e " " (n := 1) (by decide))).app (numP_fit h.p)).app (fit_e " " (n := 1) (by decide))).app (fit_ti h.j)).mono (by omega)
theorem tb_fit {t : List Ce} (h : ∀ c ∈ t, CeOk c) (hl : t.length ≤ 100) : Fit (tbS t) 30000 := by
  have := (fit_join (sep := Str.ofString ", ") (a := 2) (b := 250) (fit_e ", " (by decide)) (ys := t.map ceS) fun y hy => by
    obtain ⟨c, hc, rfl⟩ := List.mem_map.mp hy
    exact ce_fit (h c hc)).1
  rw [List.length_map] at this
  exact this.mono (by omega)
theorem show_tb (n : Nat) {t : List Ce} (h : ∀ c ∈ t, CeOk c) (hl : t.length ≤ 100) : run T (n + 2) 9 [TbD t] = .ret false (.str (tbS t)) [] := by
  rw [run_of (io := [false]) (m := 4) (b := c9) rfl rfl (by decide)]
  refine fin_ret (ρ1 := [some (false, TbD t), none, none, none]) (ev_joinC CeD ceS rfl (n := 2) (m := 250) (fit_e ", " (by decide)) (fun c hc => ce_fit (h c hc)) (by omega) (by omega) rfl fun c hc => ⟨[some (false, TbD t), some (false, .int (c.i : Nat)), some (false, NN c.p), some (false, .int (c.j : Nat))], ?_, ?_, rfl⟩)
  · unfold CeD
    generalize TbD t = Z
    generalize NN c.p = X
    simp [startE, exSs, exS, evE, evEs, evS, evT, ioIx, finF, ioOut, dat, slotD, stoV, stoVs, asgT_nm, asgT_tp, asgTs_nil, asgTs_cons, keepV, keepVs, dats, binD, cmpD, idxD, isiD, isiE, isiOk, tyName, callE, callP, ownIx, permR, ioSl, lent, setIo, ownS, trimE, augD, oLst, chgL, setD, wipeE, backE, plainAt, endR, isSkip, slcD, biD, ixD, L2.ixN, eqOk, SeqAt.shaped, PyData.canLay0, PyData.canLayAll0, PyData.depth, PyData.depthAll, PyData.eqv, PyData.eqvAll, indexD, bitlD, isBD, revD, popD, oMut, setO, augG, kOk, zipD]
  · have k := h c hc
    have R := show_num n k.p.bi
    have e : NI (c.p.1 : Nat) c.p.2 = NN c.p := rfl
    rw [e] at R
    have C1 : evE T.io (run T (n + 1)) [] (.callP 1 (.cons (.var 2) .nil)) [some (false, TbD t), some (false, .int (c.i : Nat)), some (false, NN c.p), some (false, .int (c.j : Nat))] = .ok (.val (.str (numP c.p))) [some (false, TbD t), some (false, .int (c.i : Nat)), some (false, NN c.p), some (false, .int (c.j : Nat))] := by
      generalize TbD t = Z
      generalize NN c.p = X at *
      simp [startE, exSs, exS, evE, evEs, evS, evT, ioIx, finF, ioOut, dat, slotD, stoV, stoVs, asgT_nm, asgT_tp, asgTs_nil, asgTs_cons, keepV, keepVs, dats, binD, cmpD, idxD, isiD, isiE, isiOk, tyName, callE, callP, ownIx, permR, ioSl, lent, setIo, ownS, trimE, augD, oLst, chgL, setD, wipeE, backE, plainAt, endR, isSkip, slcD, biD, eqOk, SeqAt.shaped, PyData.canLay0, PyData.canLayAll0, PyData.depth, PyData.depthAll, PyData.eqv, PyData.eqvAll, indexD, bitlD, isBD, revD, popD, oMut, setO, augG, kOk, zipD, R, numP]
    have f1 := (fit_ti k.i).le
    have f2 := (fit_ti k.j).le
    have f3 := (numP_fit k.p).le
    have f4 : (Str.ofString " ").length ≤ 1 := (fit_e " " (n := 1) (by decide)).le
    exact ev_cat (ev_cat (ev_cat (ev_cat (ev_str (ev_var rfl) rfl (nat_big k.i)) ev_lit (by omega)) C1 (by rw [Str.length_append]; omega)) ev_lit (by rw [Str.length_append, Str.length_append]; omega)) (ev_str (ev_var rfl) rfl (nat_big k.j)) (by rw [Str.length_append, Str.length_append, Str.length_append]; omega)
theorem said_tb (n : Nat) {t : List Ce} (h : ∀ c ∈ t, CeOk c) (hl : t.length ≤ 100) : run T (n + 2) 29 [TbD t] = .ret false (.str (tbS t)) [] := by
  rw [run_of (io := [false]) (m := 4) (b := c29) rfl rfl (by decide)]
  refine fin_ret (ρ1 := [some (false, TbD t), none, none, none]) (ev_joinC CeD ceS rfl (n := 2) (m := 250) (fit_e ", " (by decide)) (fun c hc => ce_fit (h c hc)) (by omega) (by omega) rfl fun c hc => ⟨[some (false, TbD t), some (false, .int (c.i : Nat)), some (false, NN c.p), some (false, .int (c.j : Nat))], ?_, ?_, rfl⟩)
  · unfold CeD
    generalize TbD t = Z
    generalize NN c.p = X
    simp [startE, exSs, exS, evE, evEs, evS, evT, ioIx, finF, ioOut, dat, slotD, stoV, stoVs, asgT_nm, asgT_tp, asgTs_nil, asgTs_cons, keepV, keepVs, dats, binD, cmpD, idxD, isiD, isiE, isiOk, tyName, callE, callP, ownIx, permR, ioSl, lent, setIo, ownS, trimE, augD, oLst, chgL, setD, wipeE, backE, plainAt, endR, isSkip, slcD, biD, ixD, L2.ixN, eqOk, SeqAt.shaped, PyData.canLay0, PyData.canLayAll0, PyData.depth, PyData.depthAll, PyData.eqv, PyData.eqvAll, indexD, bitlD, isBD, revD, popD, oMut, setO, augG, kOk, zipD]
  · have k := h c hc
    have R := said_num n k.p.bi
    have e : NI (c.p.1 : Nat) c.p.2 = NN c.p := rfl
    rw [e] at R
    have C1 : evE T.io (run T (n + 1)) [] (.callP 23 (.cons (.var 2) .nil)) [some (false, TbD t), some (false, .int (c.i : Nat)), some (false, NN c.p), some (false, .int (c.j : Nat))] = .ok (.val (.str (numP c.p))) [some (false, TbD t), some (false, .int (c.i : Nat)), some (false, NN c.p), some (false, .int (c.j : Nat))] := by
      generalize TbD t = Z
      generalize NN c.p = X at *
      simp [startE, exSs, exS, evE, evEs, evS, evT, ioIx, finF, ioOut, dat, slotD, stoV, stoVs, asgT_nm, asgT_tp, asgTs_nil, asgTs_cons, keepV, keepVs, dats, binD, cmpD, idxD, isiD, isiE, isiOk, tyName, callE, callP, ownIx, permR, ioSl, lent, setIo, ownS, trimE, augD, oLst, chgL, setD, wipeE, backE, plainAt, endR, isSkip, slcD, biD, eqOk, SeqAt.shaped, PyData.canLay0, PyData.canLayAll0, PyData.depth, PyData.depthAll, PyData.eqv, PyData.eqvAll, indexD, bitlD, isBD, revD, popD, oMut, setO, augG, kOk, zipD, R, numP]
    have f1 := (fit_ti k.i).le
    have f2 := (fit_ti k.j).le
    have f3 := (numP_fit k.p).le
    have f4 : (Str.ofString " ").length ≤ 1 := (fit_e " " (n := 1) (by decide)).le
    exact ev_cat (ev_cat (ev_cat (ev_cat (ev_str (ev_var rfl) rfl (nat_big k.i)) ev_lit (by omega)) C1 (by rw [Str.length_append]; omega)) ev_lit (by rw [Str.length_append, Str.length_append]; omega)) (ev_str (ev_var rfl) rfl (nat_big k.j)) (by rw [Str.length_append, Str.length_append, Str.length_append]; omega)
end LW
set_option maxRecDepth 100000
set_option autoImplicit false
set_option maxHeartbeats 2000000
set_option exponentiation.threshold 10000
namespace LW
open PySem PD
def mid : Nat := 10 ^ 60
theorem mid_big : mid + 100000 < big := by unfold mid big; decide +kernel
theorem mid_pos : 1000000 < mid := by unfold mid; decide +kernel
theorem pow_mid {d : Nat} (h : d ≤ 60) : 10 ^ d ≤ mid := Nat.pow_le_pow_right (by decide) h
theorem integer_ok (n : Nat) {B : Nat} {c key cnt : Int} (h : SkOk B c key cnt) (hB : B ≤ 100000000) {d : Nat} (d1 : 1 ≤ d) (d60 : d ≤ 60) : ∃ (v : Nat) (c' key' cnt' : Int), v ≤ mid ∧ SkOk (B + 3) c' key' cnt' ∧ run T (n + 2) 15 [SK c key cnt, .int (d : Nat)] = .ret false (.int (v : Nat)) [SK c' key' cnt'] := by
  obtain ⟨k, c1, k1, n1, hk, s1, t1⟩ := draw_ok n h (by omega) (many := 5) (by decide) (by decide)
  have b2 := big_lt
  have b1 := mid_big
  have b3 := mid_pos
  have l3 : lenOk 3 = true := rfl
  have e5 : ((5 : Nat) : Int) = 5 := rfl
  rw [e5] at t1
  have small : ∀ (m : Nat) (kk : Nat), k = kk → kk < 3 → ([2, 7, 60] : List Nat)[kk]? = some m → 0 < m → m ≤ 60 → ixD 3 (kk : Int) = some kk → ∃ (v : Nat) (c' key' cnt' : Int), v ≤ mid ∧ SkOk (B + 3) c' key' cnt' ∧ run T (n + 2) 15 [SK c key cnt, .int (d : Nat)] = .ret false (.int (v : Nat)) [SK c' key' cnt'] := fun m kk ek hk3 em m0 m60 ix => by
    subst ek
    obtain ⟨v, c2, k2, n2, hv, s2, t2⟩ := draw_ok n s1 (by omega) (many := m) m0 (by omega)
    refine ⟨v, c2, k2, n2, by omega, s2.le (by omega), ?_⟩
    have lt3 : (k : Int) < 3 := by omega
    have at_ : ([.int 2, .int 7, .int 60] : List PyData)[k]? = some (.int (m : Nat)) := by
      have : k = 0 ∨ k = 1 ∨ k = 2 := by omega
      rcases this with rfl | rfl | rfl <;> simp at em <;> subst em <;> rfl
    rw [run_of (io := [true, false]) (m := 3) (b := c15) rfl rfl (by decide)]
    generalize (k : Int) = kx at *
    generalize (m : Int) = mx at *
    generalize (d : Int) = dx at *
    simp [startE, exSs, exS, evE, evEs, evS, evT, ioIx, finF, ioOut, dat, slotD, stoV, stoVs, asgT_nm, asgT_tp, asgTs_nil, asgTs_cons, keepV, keepVs, dats, binD, cmpD, idxD, isiD, isiE, isiOk, tyName, callE, callP, ownIx, permR, ioSl, lent, setIo, ownS, trimE, augD, oLst, chgL, setD, wipeE, backE, plainAt, endR, isSkip, slcD, biD, eqOk, SeqAt.shaped, PyData.canLay0, PyData.canLayAll0, PyData.depth, PyData.depthAll, PyData.eqv, PyData.eqvAll, indexD, bitlD, isBD, revD, popD, oMut, setO, augG, kOk, zipD, c15, t1, lt3, l3, ix, at_, t2]
  rcases (show k = 0 ∨ k = 1 ∨ k = 2 ∨ k = 3 ∨ k = 4 by omega) with rfl | rfl | rfl | rfl | rfl
  · exact small 2 0 rfl (by decide) rfl (by decide) (by decide) rfl
  · exact small 7 1 rfl (by decide) rfl (by decide) (by decide) rfl
  · exact small 60 2 rfl (by decide) rfl (by decide) (by decide) rfl
  · obtain ⟨v, c2, k2, n2, hv, s2, t2⟩ := draw_ok n s1 (by omega) (many := 9) (by decide) (by decide)
    have PW := lpower_ok n 10 (by decide) d (by omega)
    have hp := pow_mid d60
    have hq : 10 ^ 1 ≤ 10 ^ d := Nat.pow_le_pow_right (by decide) d1
    refine ⟨10 ^ d - 1 - v, c2, k2, n2, by omega, s2.le (by omega), ?_⟩
    have ev : ((10 ^ d - 1 - v : Nat) : Int) = ((10 ^ d : Nat) : Int) - 1 - (v : Int) := by omega
    rw [run_of (io := [true, false]) (m := 3) (b := c15) rfl rfl (by decide), ev]
    have e9 : ((9 : Nat) : Int) = 9 := rfl
    have e10 : ((10 : Nat) : Int) = 10 := rfl
    rw [e9] at t2
    rw [e10] at PW
    generalize ((10 ^ d : Nat) : Int) = px at *
    generalize (d : Int) = dx at *
    generalize (v : Int) = vx at *
    simp [startE, exSs, exS, evE, evEs, evS, evT, ioIx, finF, ioOut, dat, slotD, stoV, stoVs, asgT_nm, asgT_tp, asgTs_nil, asgTs_cons, keepV, keepVs, dats, binD, cmpD, idxD, isiD, isiE, isiOk, tyName, callE, callP, ownIx, permR, ioSl, lent, setIo, ownS, trimE, augD, oLst, chgL, setD, wipeE, backE, plainAt, endR, isSkip, slcD, biD, eqOk, SeqAt.shaped, PyData.canLay0, PyData.canLayAll0, PyData.depth, PyData.depthAll, PyData.eqv, PyData.eqvAll, indexD, bitlD, isBD, revD, popD, oMut, setO, augG, kOk, zipD, c15, t1, t2, PW]
  · obtain ⟨w, c2, k2, n2, hw, s2, t2⟩ := draw_ok n s1 (by omega) (many := d) (by omega) (by omega)
    have PW := lpower_ok n 10 (by decide) (1 + w) (by omega)
    have hp := pow_mid (d := 1 + w) (by omega)
    obtain ⟨v, c3, k3, n3, hv, s3, t3⟩ := draw_ok n s2 (by omega) (many := 10 ^ (1 + w)) (Nat.pow_pos (by decide)) (by omega)
    refine ⟨v, c3, k3, n3, by omega, s3.le (by omega), ?_⟩
    rw [run_of (io := [true, false]) (m := 3) (b := c15) rfl rfl (by decide)]
    have e10 : ((10 : Nat) : Int) = 10 := rfl
    have ew : ((1 + w : Nat) : Int) = 1 + (w : Int) := by omega
    rw [e10, ew] at PW
    generalize ((10 ^ (1 + w) : Nat) : Int) = px at *
    generalize (d : Int) = dx at *
    generalize (v : Int) = vx at *
    generalize (w : Int) = wx at *
    simp [startE, exSs, exS, evE, evEs, evS, evT, ioIx, finF, ioOut, dat, slotD, stoV, stoVs, asgT_nm, asgT_tp, asgTs_nil, asgTs_cons, keepV, keepVs, dats, binD, cmpD, idxD, isiD, isiE, isiOk, tyName, callE, callP, ownIx, permR, ioSl, lent, setIo, ownS, trimE, augD, oLst, chgL, setD, wipeE, backE, plainAt, endR, isSkip, slcD, biD, eqOk, SeqAt.shaped, PyData.canLay0, PyData.canLayAll0, PyData.depth, PyData.depthAll, PyData.eqv, PyData.eqvAll, indexD, bitlD, isBD, revD, popD, oMut, setO, augG, kOk, zipD, c15, t1, t2, PW, t3]
theorem number_ok (n : Nat) {B : Nat} {c key cnt : Int} (h : SkOk B c key cnt) (hB : B ≤ 90000000) {d : Nat} (d1 : 1 ≤ d) (d60 : d ≤ 60) : ∃ (p : Nat × Nat) (c' key' cnt' : Int), Bg p ∧ SkOk (B + 8) c' key' cnt' ∧ run T (n + 3) 16 [SK c key cnt, .int (d : Nat)] = .ret false (NN p) [SK c' key' cnt'] := by
  have b1 := mid_big
  have b3 := mid_pos
  obtain ⟨v1, c1, k1, n1, h1, s1, t1⟩ := draw_ok (n + 1) h (by omega) (many := 60) (by decide) (by decide)
  obtain ⟨v2, c2, k2, n2, h2, s2, t2⟩ := integer_ok n s1 (by omega) d1 d60
  obtain ⟨v3, c3, k3, n3, h3, s3, t3⟩ := draw_ok (n + 1) s2 (by omega) (many := 3) (by decide) (by decide)
  obtain ⟨v4, c4, k4, n4, h4, s4, t4⟩ := integer_ok n s3 (by omega) d1 d60
  have l3 : lenOk 3 = true := rfl
  obtain ⟨b, hb0, hb1, hix⟩ : ∃ b : Nat, 0 < b ∧ b ≤ mid ∧ ∃ j, ixD 3 (v3 : Int) = some j ∧ ([.int 1, .int (1 + (v1 : Int)), .int (if (v2 : Int) > 1 then (v2 : Int) else 1)] : List PyData)[j]? = some (.int (b : Nat)) := by
    rcases (show v3 = 0 ∨ v3 = 1 ∨ v3 = 2 by omega) with rfl | rfl | rfl
    · exact ⟨1, by decide, by omega, 0, rfl, rfl⟩
    · exact ⟨1 + v1, by omega, by omega, 1, rfl, rfl⟩
    · refine ⟨if v2 > 1 then v2 else 1, by split <;> omega, by split <;> omega, 2, rfl, ?_⟩
      show some _ = some _
      congr 2
      split <;> split <;> omega
  obtain ⟨j, hj1, hj2⟩ := hix
  obtain ⟨p, bp, L⟩ := low_ok (n + 1) v4 b hb0 (by omega) (by omega)
  refine ⟨p, c4, k4, n4, bp, s4.le (by omega), ?_⟩
  rw [run_of (io := [true, false]) (m := 3) (b := c16) rfl rfl (by decide)]
  have e3 : ((3 : Nat) : Int) = 3 := rfl
  have e60 : ((60 : Nat) : Int) = 60 := rfl
  rw [e3] at t3
  rw [e60] at t1
  generalize NN p = X at *
  generalize (v1 : Int) = x1 at *
  generalize (v2 : Int) = x2 at *
  generalize (v3 : Int) = x3 at *
  generalize (v4 : Int) = x4 at *
  generalize (d : Int) = dx at *
  generalize (b : Int) = bx at *
  simp [startE, exSs, exS, evE, evEs, evS, evT, ioIx, finF, ioOut, dat, slotD, stoV, stoVs, asgT_nm, asgT_tp, asgTs_nil, asgTs_cons, keepV, keepVs, dats, binD, cmpD, idxD, isiD, isiE, isiOk, tyName, callE, callP, ownIx, permR, ioSl, lent, setIo, ownS, trimE, augD, oLst, chgL, setD, wipeE, backE, plainAt, endR, isSkip, slcD, biD, eqOk, SeqAt.shaped, PyData.canLay0, PyData.canLayAll0, PyData.depth, PyData.depthAll, PyData.eqv, PyData.eqvAll, indexD, bitlD, isBD, revD, popD, oMut, setO, augG, kOk, zipD, c16, t1, t2, t3, l3, hj1, hj2, t4, L]
theorem place_ok (n : Nat) {B : Nat} {c key cnt : Int} (h : SkOk B c key cnt) (hB : B ≤ 90000000) {th st : Nat} (h1 : 0 < th) (h2 : th ≤ 1000) (h3 : st ≤ 1000) : ∃ (p : Pl) (c' key' cnt' : Int), p.2 < big ∧ SkOk (B + 2) c' key' cnt' ∧ run T (n + 2) 20 [SK c key cnt, .int (th : Nat), .int (st : Nat)] = .ret false (PlD p) [SK c' key' cnt'] := by
  have b1 := mid_big
  have b3 := mid_pos
  have l2 : lenOk 2 = true := rfl
  by_cases z : st = 0
  · subst z
    obtain ⟨v1, c1, k1, n1, g1, s1, t1⟩ := draw_ok n h (by omega) (many := th) h1 (by omega)
    refine ⟨(false, v1), c1, k1, n1, by show v1 < big; omega, s1.le (by omega), ?_⟩
    rw [run_of (io := [true, false, false]) (m := 3) (b := c20) rfl rfl (by decide)]
    unfold PlD
    generalize (th : Int) = x at *
    generalize (v1 : Int) = y at *
    simp [startE, exSs, exS, evE, evEs, evS, evT, ioIx, finF, ioOut, dat, slotD, stoV, stoVs, asgT_nm, asgT_tp, asgTs_nil, asgTs_cons, keepV, keepVs, dats, binD, cmpD, idxD, isiD, isiE, isiOk, tyName, callE, callP, ownIx, permR, ioSl, lent, setIo, ownS, trimE, augD, oLst, chgL, setD, wipeE, backE, plainAt, endR, isSkip, slcD, biD, eqOk, SeqAt.shaped, PyData.canLay0, PyData.canLayAll0, PyData.depth, PyData.depthAll, PyData.eqv, PyData.eqvAll, indexD, bitlD, isBD, revD, popD, oMut, setO, augG, kOk, zipD, c20, t1, l2]
  · have z' : ((st : Int) == 0) = false := by simp; omega
    obtain ⟨v1, c1, k1, n1, g1, s1, t1⟩ := draw_ok n h (by omega) (many := 2) (by decide) (by decide)
    have e2 : ((2 : Nat) : Int) = 2 := rfl
    rw [e2] at t1
    rcases (show v1 = 0 ∨ v1 = 1 by omega) with rfl | rfl
    · obtain ⟨v2, c2, k2, n2, g2, s2, t2⟩ := draw_ok n s1 (by omega) (many := th) h1 (by omega)
      refine ⟨(false, v2), c2, k2, n2, by show v2 < big; omega, s2.le (by omega), ?_⟩
      rw [run_of (io := [true, false, false]) (m := 3) (b := c20) rfl rfl (by decide)]
      unfold PlD
      generalize (th : Int) = x at *
      generalize (v2 : Int) = y at *
      generalize (st : Int) = w at *
      simp [startE, exSs, exS, evE, evEs, evS, evT, ioIx, finF, ioOut, dat, slotD, stoV, stoVs, asgT_nm, asgT_tp, asgTs_nil, asgTs_cons, keepV, keepVs, dats, binD, cmpD, idxD, isiD, isiE, isiOk, tyName, callE, callP, ownIx, permR, ioSl, lent, setIo, ownS, trimE, augD, oLst, chgL, setD, wipeE, backE, plainAt, endR, isSkip, slcD, biD, eqOk, SeqAt.shaped, PyData.canLay0, PyData.canLayAll0, PyData.depth, PyData.depthAll, PyData.eqv, PyData.eqvAll, indexD, bitlD, isBD, revD, popD, oMut, setO, augG, kOk, zipD, c20, z', t1, t2, l2]
    · obtain ⟨v2, c2, k2, n2, g2, s2, t2⟩ := draw_ok n s1 (by omega) (many := st) (by omega) (by omega)
      refine ⟨(true, v2), c2, k2, n2, by show v2 < big; omega, s2.le (by omega), ?_⟩
      rw [run_of (io := [true, false, false]) (m := 3) (b := c20) rfl rfl (by decide)]
      unfold PlD
      generalize (th : Int) = x at *
      generalize (v2 : Int) = y at *
      generalize (st : Int) = w at *
      simp [startE, exSs, exS, evE, evEs, evS, evT, ioIx, finF, ioOut, dat, slotD, stoV, stoVs, asgT_nm, asgT_tp, asgTs_nil, asgTs_cons, keepV, keepVs, dats, binD, cmpD, idxD, isiD, isiE, isiOk, tyName, callE, callP, ownIx, permR, ioSl, lent, setIo, ownS, trimE, augD, oLst, chgL, setD, wipeE, backE, plainAt, endR, isSkip, slcD, biD, eqOk, SeqAt.shaped, PyData.canLay0, PyData.canLayAll0, PyData.depth, PyData.depthAll, PyData.eqv, PyData.eqvAll, indexD, bitlD, isBD, revD, popD, oMut, setO, augG, kOk, zipD, c20, z', t1, t2, l2]
end LW
set_option maxRecDepth 100000
set_option autoImplicit false
set_option maxHeartbeats 2000000
set_option exponentiation.threshold 10000
namespace LW
open PySem PD
/-- drawn things, one by one -/
theorem comp_draws {α : Type} (g : α → PyData) (Pv : α → Prop) (u : Nat) {lk own : List Nat} {ρ0 : PD.Env} {t : Tg} {e : PD.Env → Rs Rv} (env : Int → Int → Int → PD.Env) {k : Nat} (hk : k ≤ 1000000) {B M : Nat} {c key cnt : Int} (h : SkOk B c key cnt) (hM : B + u * k ≤ M)
    (step : ∀ (i : Nat) (B : Nat) (c key cnt : Int), i < k → SkOk B c key cnt → B + u ≤ M → ∃ (x : α) (c' key' cnt' : Int), Pv x ∧ SkOk (B + u) c' key' cnt' ∧ ∃ ρ1 ρ2 : PD.Env, asgT lk t (.int (i : Nat)) (wipeE (env c key cnt) own) = some ρ1 ∧ (∃ r, e ρ1 = .ok r ρ2 ∧ keepV (lk ++ own) r ρ2 = .ok (g x) ρ2) ∧ backE ρ0 ρ2 own = env c' key' cnt') :
    ∃ (l : List α) (c' key' cnt' : Int), l.length = k ∧ (∀ x ∈ l, Pv x) ∧ SkOk (B + u * k) c' key' cnt' ∧ compL lk own ρ0 t (Rs.ok true) e (rngD 0 (k : Int)) [] (env c key cnt) = .ok (l.map g) (env c' key' cnt') := by
  obtain ⟨ys, ρ', E, l, c', key', cnt', h1, h2, h3, rfl, rfl⟩ := compL_inv (lk := lk) (own := own) (ρ0 := ρ0) (t := t) (c := Rs.ok true) (e := e)
    (fun i acc ρ => ∃ (l : List α) (c' key' cnt' : Int), l.length = i ∧ (∀ x ∈ l, Pv x) ∧ SkOk (B + u * i) c' key' cnt' ∧ acc = l.map g ∧ ρ = env c' key' cnt')
    (ds := rngD 0 (k : Int)) (acc := []) (ρ := env c key cnt) 0 (fun i d acc ρ hd hI => by
      obtain ⟨l, c', key', cnt', h1, h2, h3, rfl, rfl⟩ := hI
      obtain ⟨hi, rfl⟩ := rngD_at hd
      rw [Nat.zero_add] at h1 h3
      have hi' : i < k := by omega
      have hmul : u * i + u ≤ u * k := by
        have : u * (i + 1) ≤ u * k := Nat.mul_le_mul_left u hi'
        rw [Nat.mul_succ] at this
        exact this
      obtain ⟨x, c2, k2, n2, px, s2, ρ1, ρ2, a1, ⟨r, a2, a3⟩, a4⟩ := step i _ _ _ _ hi' h3 (by omega)
      refine ⟨ρ1, a1, .inr ⟨ρ1, r, ρ2, g x, ρ2, rfl, a2, a3, decide_eq_true (by simp; omega), l ++ [x], c2, k2, n2, by simp; omega, fun y hy => ?_, ?_, by simp, a4⟩⟩
      · rcases List.mem_append.mp hy with hy | hy
        · exact h2 y hy
        · have := List.mem_singleton.mp hy; subst this; exact px
      · refine s2.le ?_
        rw [show 0 + i + 1 = i + 1 by omega, Nat.mul_succ]
        omega) ⟨[], c, key, cnt, rfl, fun x hx => by simp at hx, h.le (by simp), rfl, rfl⟩
  rw [Nat.zero_add, rngD_len, show ((k : Int) - 0).toNat = k by omega] at h1 h3
  exact ⟨l, c', key', cnt', h1, h2, h3, E⟩
theorem signs_draw (n : Nat) {B : Nat} {c key cnt : Int} (h : SkOk B c key cnt) (hB : B ≤ 80000000) {m : Nat} (hm : m ≤ 1000) : ∃ (l : List Nat) (c' key' cnt' : Int), Sg l ∧ l.length = m ∧ SkOk (B + 1 + 1 * m) c' key' cnt' ∧ run T (n + 2) 18 [SK c key cnt, .int (m : Nat)] = .ret false (TI l) [SK c' key' cnt'] := by
  obtain ⟨a, c1, k1, n1, ha, s1, t1⟩ := draw_ok n h (by omega) (many := 4) (by decide) (by decide)
  have b1 := mid_big
  have b3 := mid_pos
  obtain ⟨l, c2, k2, n2, hl, hp, s2, C⟩ := comp_draws (fun s : Nat => PyData.int (s : Nat)) (fun s => s < big) 1 (lk := [0]) (own := [3]) (ρ0 := [some (true, SK c1 k1 n1), some (false, .int (m : Nat)), some (false, .int (a : Nat)), none]) (t := .nm 3) (e := evE T.io (run T (n + 1)) [0] c18_E1)
    (fun c key cnt => [some (true, SK c key cnt), some (false, .int (m : Nat)), some (false, .int (a : Nat)), none]) (k := m) (by omega) (M := 90000000) s1 (by omega) fun i B c key cnt hi s hM => by
      have e2 : ((2 : Nat) : Int) = 2 := rfl
      by_cases z : 1 < a
      · obtain ⟨v, c3, k3, n3, hv, s3, t3⟩ := draw_ok n s (by omega) (many := 2) (by decide) (by decide)
        refine ⟨v, c3, k3, n3, (show v < big by omega), s3, [some (true, SK c key cnt), some (false, .int (m : Nat)), some (false, .int (a : Nat)), some (false, .int (i : Nat))], [some (true, SK c3 k3 n3), some (false, .int (m : Nat)), some (false, .int (a : Nat)), some (false, .int (i : Nat))], by simp [startE, exSs, exS, evE, evEs, evS, evT, ioIx, finF, ioOut, dat, slotD, stoV, stoVs, asgT_nm, asgT_tp, asgTs_nil, asgTs_cons, keepV, keepVs, dats, binD, cmpD, idxD, isiD, isiE, isiOk, tyName, callE, callP, ownIx, permR, ioSl, lent, setIo, ownS, trimE, augD, oLst, chgL, setD, wipeE, backE, plainAt, endR, isSkip, slcD, biD, ixD, L2.ixN, eqOk, SeqAt.shaped, PyData.canLay0, PyData.canLayAll0, PyData.depth, PyData.depthAll, PyData.eqv, PyData.eqvAll, indexD, bitlD, isBD, revD, popD, oMut, setO, augG, kOk, zipD], ⟨.val (.int (v : Nat)), ?_, rfl⟩, by simp [startE, exSs, exS, evE, evEs, evS, evT, ioIx, finF, ioOut, dat, slotD, stoV, stoVs, asgT_nm, asgT_tp, asgTs_nil, asgTs_cons, keepV, keepVs, dats, binD, cmpD, idxD, isiD, isiE, isiOk, tyName, callE, callP, ownIx, permR, ioSl, lent, setIo, ownS, trimE, augD, oLst, chgL, setD, wipeE, backE, plainAt, endR, isSkip, slcD, biD, ixD, L2.ixN, eqOk, SeqAt.shaped, PyData.canLay0, PyData.canLayAll0, PyData.depth, PyData.depthAll, PyData.eqv, PyData.eqvAll, indexD, bitlD, isBD, revD, popD, oMut, setO, augG, kOk, zipD]⟩
        have z' : (1 : Int) < (a : Nat) := Int.ofNat_lt.mpr z
        rw [e2] at t3
        generalize (a : Int) = ax at *
        generalize (v : Int) = vx at *
        generalize (m : Int) = mx at *
        simp [startE, exSs, exS, evE, evEs, evS, evT, ioIx, finF, ioOut, dat, slotD, stoV, stoVs, asgT_nm, asgT_tp, asgTs_nil, asgTs_cons, keepV, keepVs, dats, binD, cmpD, idxD, isiD, isiE, isiOk, tyName, callE, callP, ownIx, permR, ioSl, lent, setIo, ownS, trimE, augD, oLst, chgL, setD, wipeE, backE, plainAt, endR, isSkip, slcD, biD, eqOk, SeqAt.shaped, PyData.canLay0, PyData.canLayAll0, PyData.depth, PyData.depthAll, PyData.eqv, PyData.eqvAll, indexD, bitlD, isBD, revD, popD, oMut, setO, augG, kOk, zipD, c18_E1, z', t3]
      · refine ⟨a, c, key, cnt, (show a < big by omega), s.le (by omega), [some (true, SK c key cnt), some (false, .int (m : Nat)), some (false, .int (a : Nat)), some (false, .int (i : Nat))], [some (true, SK c key cnt), some (false, .int (m : Nat)), some (false, .int (a : Nat)), some (false, .int (i : Nat))], by simp [startE, exSs, exS, evE, evEs, evS, evT, ioIx, finF, ioOut, dat, slotD, stoV, stoVs, asgT_nm, asgT_tp, asgTs_nil, asgTs_cons, keepV, keepVs, dats, binD, cmpD, idxD, isiD, isiE, isiOk, tyName, callE, callP, ownIx, permR, ioSl, lent, setIo, ownS, trimE, augD, oLst, chgL, setD, wipeE, backE, plainAt, endR, isSkip, slcD, biD, ixD, L2.ixN, eqOk, SeqAt.shaped, PyData.canLay0, PyData.canLayAll0, PyData.depth, PyData.depthAll, PyData.eqv, PyData.eqvAll, indexD, bitlD, isBD, revD, popD, oMut, setO, augG, kOk, zipD], ⟨.val (.int (a : Nat)), ?_, rfl⟩, by simp [startE, exSs, exS, evE, evEs, evS, evT, ioIx, finF, ioOut, dat, slotD, stoV, stoVs, asgT_nm, asgT_tp, asgTs_nil, asgTs_cons, keepV, keepVs, dats, binD, cmpD, idxD, isiD, isiE, isiOk, tyName, callE, callP, ownIx, permR, ioSl, lent, setIo, ownS, trimE, augD, oLst, chgL, setD, wipeE, backE, plainAt, endR, isSkip, slcD, biD, ixD, L2.ixN, eqOk, SeqAt.shaped, PyData.canLay0, PyData.canLayAll0, PyData.depth, PyData.depthAll, PyData.eqv, PyData.eqvAll, indexD, bitlD, isBD, revD, popD, oMut, setO, augG, kOk, zipD]⟩
        have z' : ¬ (1 : Int) < (a : Nat) := fun y => z (Int.ofNat_lt.mp y)
        generalize (a : Int) = ax at *
        generalize (m : Int) = mx at *
        simp [startE, exSs, exS, evE, evEs, evS, evT, ioIx, finF, ioOut, dat, slotD, stoV, stoVs, asgT_nm, asgT_tp, asgTs_nil, asgTs_cons, keepV, keepVs, dats, binD, cmpD, idxD, isiD, isiE, isiOk, tyName, callE, callP, ownIx, permR, ioSl, lent, setIo, ownS, trimE, augD, oLst, chgL, setD, wipeE, backE, plainAt, endR, isSkip, slcD, biD, eqOk, SeqAt.shaped, PyData.canLay0, PyData.canLayAll0, PyData.depth, PyData.depthAll, PyData.eqv, PyData.eqvAll, indexD, bitlD, isBD, revD, popD, oMut, setO, augG, kOk, zipD, c18_E1, z']
  refine ⟨l, c2, k2, n2, ⟨hp, by omega⟩, hl, s2, ?_⟩
  have r1 : rngOk (m : Int) = true := rngOk_nat (by omega)
  have e4 : ((4 : Nat) : Int) = 4 := rfl
  rw [e4] at t1
  rw [run_of (io := [true, false]) (m := 4) (b := c18) rfl rfl (by decide)]
  unfold TI
  generalize (a : Int) = ax at *
  generalize (m : Int) = mx at *
  generalize (l.map fun s => PyData.int (s : Nat)) = X at *
  simp [startE, exSs, exS, evE, evEs, evS, evT, ioIx, finF, ioOut, dat, slotD, stoV, stoVs, asgT_nm, asgT_tp, asgTs_nil, asgTs_cons, keepV, keepVs, dats, binD, cmpD, idxD, isiD, isiE, isiOk, tyName, callE, callP, ownIx, permR, ioSl, lent, setIo, ownS, trimE, augD, oLst, chgL, setD, wipeE, backE, plainAt, endR, isSkip, slcD, biD, eqOk, SeqAt.shaped, PyData.canLay0, PyData.canLayAll0, PyData.depth, PyData.depthAll, PyData.eqv, PyData.eqvAll, indexD, bitlD, isBD, revD, popD, oMut, setO, augG, kOk, zipD, c18, t1, r1, C]
theorem rows_draw (n : Nat) {B : Nat} {c key cnt : Int} (h : SkOk B c key cnt) (hB : B ≤ 70000000) {m w d : Nat} (hm : m ≤ 60) (hw : w ≤ 41) (d1 : 1 ≤ d) (d60 : d ≤ 60) : ∃ (rs : List (List Nat)) (c' key' cnt' : Int), Rws rs ∧ rs.length = m ∧ SkOk (B + 200 * m) c' key' cnt' ∧ run T (n + 3) 19 [SK c key cnt, .int (m : Nat), .int (w : Nat), .int (d : Nat)] = .ret false (RS rs) [SK c' key' cnt'] := by
  have b1 := mid_big
  have b3 := mid_pos
  have rw_ : rngOk (w : Int) = true := rngOk_nat (by omega)
  obtain ⟨rs, c2, k2, n2, hl, hp, s2, C⟩ := comp_draws TI Rw 200 (lk := [0]) (own := [4]) (ρ0 := [some (true, SK c key cnt), some (false, .int (m : Nat)), some (false, .int (w : Nat)), some (false, .int (d : Nat)), none, none]) (t := .nm 4) (e := evE T.io (run T (n + 2)) [0] c19_E2)
    (fun c key cnt => [some (true, SK c key cnt), some (false, .int (m : Nat)), some (false, .int (w : Nat)), some (false, .int (d : Nat)), none, none]) (k := m) (by omega) (M := 80000000) h (by omega) fun i B c key cnt hi s hM => by
      obtain ⟨l, c3, k3, n3, hl, hp, s3, C⟩ := comp_draws (fun s : Nat => PyData.int (s : Nat)) (fun s => s < big) 3 (lk := [0]) (own := [5]) (ρ0 := [some (true, SK c key cnt), some (false, .int (m : Nat)), some (false, .int (w : Nat)), some (false, .int (d : Nat)), some (false, .int (i : Nat)), none]) (t := .nm 5) (e := evE T.io (run T (n + 2)) [0] c19_E1)
        (fun c key cnt => [some (true, SK c key cnt), some (false, .int (m : Nat)), some (false, .int (w : Nat)), some (false, .int (d : Nat)), some (false, .int (i : Nat)), none]) (k := w) (by omega) (M := 80000000) s (by omega) fun j B c key cnt hj s hM => by
          obtain ⟨v, c3, k3, n3, hv, s3, t3⟩ := integer_ok n s (by omega) d1 d60
          refine ⟨v, c3, k3, n3, (show v < big by omega), s3, [some (true, SK c key cnt), some (false, .int (m : Nat)), some (false, .int (w : Nat)), some (false, .int (d : Nat)), some (false, .int (i : Nat)), some (false, .int (j : Nat))], [some (true, SK c3 k3 n3), some (false, .int (m : Nat)), some (false, .int (w : Nat)), some (false, .int (d : Nat)), some (false, .int (i : Nat)), some (false, .int (j : Nat))], by simp [startE, exSs, exS, evE, evEs, evS, evT, ioIx, finF, ioOut, dat, slotD, stoV, stoVs, asgT_nm, asgT_tp, asgTs_nil, asgTs_cons, keepV, keepVs, dats, binD, cmpD, idxD, isiD, isiE, isiOk, tyName, callE, callP, ownIx, permR, ioSl, lent, setIo, ownS, trimE, augD, oLst, chgL, setD, wipeE, backE, plainAt, endR, isSkip, slcD, biD, ixD, L2.ixN, eqOk, SeqAt.shaped, PyData.canLay0, PyData.canLayAll0, PyData.depth, PyData.depthAll, PyData.eqv, PyData.eqvAll, indexD, bitlD, isBD, revD, popD, oMut, setO, augG, kOk, zipD], ⟨.val (.int (v : Nat)), ?_, rfl⟩, by simp [startE, exSs, exS, evE, evEs, evS, evT, ioIx, finF, ioOut, dat, slotD, stoV, stoVs, asgT_nm, asgT_tp, asgTs_nil, asgTs_cons, keepV, keepVs, dats, binD, cmpD, idxD, isiD, isiE, isiOk, tyName, callE, callP, ownIx, permR, ioSl, lent, setIo, ownS, trimE, augD, oLst, chgL, setD, wipeE, backE, plainAt, endR, isSkip, slcD, biD, ixD, L2.ixN, eqOk, SeqAt.shaped, PyData.canLay0, PyData.canLayAll0, PyData.depth, PyData.depthAll, PyData.eqv, PyData.eqvAll, indexD, bitlD, isBD, revD, popD, oMut, setO, augG, kOk, zipD]⟩
          generalize (v : Int) = vx at *
          generalize (d : Int) = dx at *
          generalize (m : Int) = mx at *
          generalize (w : Int) = wx at *
          generalize (i : Int) = ix at *
          generalize (j : Int) = jx at *
          simp [startE, exSs, exS, evE, evEs, evS, evT, ioIx, finF, ioOut, dat, slotD, stoV, stoVs, asgT_nm, asgT_tp, asgTs_nil, asgTs_cons, keepV, keepVs, dats, binD, cmpD, idxD, isiD, isiE, isiOk, tyName, callE, callP, ownIx, permR, ioSl, lent, setIo, ownS, trimE, augD, oLst, chgL, setD, wipeE, backE, plainAt, endR, isSkip, slcD, biD, eqOk, SeqAt.shaped, PyData.canLay0, PyData.canLayAll0, PyData.depth, PyData.depthAll, PyData.eqv, PyData.eqvAll, indexD, bitlD, isBD, revD, popD, oMut, setO, augG, kOk, zipD, c19_E1, t3]
      refine ⟨l, c3, k3, n3, ⟨hp, by omega⟩, s3.le (by omega), [some (true, SK c key cnt), some (false, .int (m : Nat)), some (false, .int (w : Nat)), some (false, .int (d : Nat)), some (false, .int (i : Nat)), none], [some (true, SK c3 k3 n3), some (false, .int (m : Nat)), some (false, .int (w : Nat)), some (false, .int (d : Nat)), some (false, .int (i : Nat)), none], by simp [startE, exSs, exS, evE, evEs, evS, evT, ioIx, finF, ioOut, dat, slotD, stoV, stoVs, asgT_nm, asgT_tp, asgTs_nil, asgTs_cons, keepV, keepVs, dats, binD, cmpD, idxD, isiD, isiE, isiOk, tyName, callE, callP, ownIx, permR, ioSl, lent, setIo, ownS, trimE, augD, oLst, chgL, setD, wipeE, backE, plainAt, endR, isSkip, slcD, biD, ixD, L2.ixN, eqOk, SeqAt.shaped, PyData.canLay0, PyData.canLayAll0, PyData.depth, PyData.depthAll, PyData.eqv, PyData.eqvAll, indexD, bitlD, isBD, revD, popD, oMut, setO, augG, kOk, zipD], ⟨.val (TI l), ?_, rfl⟩, by simp [startE, exSs, exS, evE, evEs, evS, evT, ioIx, finF, ioOut, dat, slotD, stoV, stoVs, asgT_nm, asgT_tp, asgTs_nil, asgTs_cons, keepV, keepVs, dats, binD, cmpD, idxD, isiD, isiE, isiOk, tyName, callE, callP, ownIx, permR, ioSl, lent, setIo, ownS, trimE, augD, oLst, chgL, setD, wipeE, backE, plainAt, endR, isSkip, slcD, biD, ixD, L2.ixN, eqOk, SeqAt.shaped, PyData.canLay0, PyData.canLayAll0, PyData.depth, PyData.depthAll, PyData.eqv, PyData.eqvAll, indexD, bitlD, isBD, revD, popD, oMut, setO, augG, kOk, zipD]⟩
      unfold TI
      generalize (d : Int) = dx at *
      generalize (m : Int) = mx at *
      generalize (w : Int) = wx at *
      generalize (i : Int) = ix at *
      generalize (l.map fun s => PyData.int (s : Nat)) = X at *
      simp [startE, exSs, exS, evE, evEs, evS, evT, ioIx, finF, ioOut, dat, slotD, stoV, stoVs, asgT_nm, asgT_tp, asgTs_nil, asgTs_cons, keepV, keepVs, dats, binD, cmpD, idxD, isiD, isiE, isiOk, tyName, callE, callP, ownIx, permR, ioSl, lent, setIo, ownS, trimE, augD, oLst, chgL, setD, wipeE, backE, plainAt, endR, isSkip, slcD, biD, eqOk, SeqAt.shaped, PyData.canLay0, PyData.canLayAll0, PyData.depth, PyData.depthAll, PyData.eqv, PyData.eqvAll, indexD, bitlD, isBD, revD, popD, oMut, setO, augG, kOk, zipD, c19_E2, rw_, C]
  refine ⟨rs, c2, k2, n2, ⟨hp, by omega⟩, hl, s2, ?_⟩
  have r1 : rngOk (m : Int) = true := rngOk_nat (by omega)
  rw [run_of (io := [true, false, false, false]) (m := 6) (b := c19) rfl rfl (by decide)]
  unfold RS
  generalize (d : Int) = dx at *
  generalize (m : Int) = mx at *
  generalize (w : Int) = wx at *
  generalize rs.map TI = X at *
  simp [startE, exSs, exS, evE, evEs, evS, evT, ioIx, finF, ioOut, dat, slotD, stoV, stoVs, asgT_nm, asgT_tp, asgTs_nil, asgTs_cons, keepV, keepVs, dats, binD, cmpD, idxD, isiD, isiE, isiOk, tyName, callE, callP, ownIx, permR, ioSl, lent, setIo, ownS, trimE, augD, oLst, chgL, setD, wipeE, backE, plainAt, endR, isSkip, slcD, biD, eqOk, SeqAt.shaped, PyData.canLay0, PyData.canLayAll0, PyData.depth, PyData.depthAll, PyData.eqv, PyData.eqvAll, indexD, bitlD, isBD, revD, popD, oMut, setO, augG, kOk, zipD, c19, r1, C]
end LW
set_option maxRecDepth 100000
set_option autoImplicit false
set_option maxHeartbeats 2000000
set_option exponentiation.threshold 10000
namespace LW
open PySem PD
theorem share_step (n : Nat) {B : Nat} {c key cnt : Int} (h : SkOk B c key cnt) (hB : B ≤ 80000000) {m i L W : Nat} (hi : i + 1 < m) (hm : m ≤ 41) (hL : m ≤ L + i) (hW : L ≤ W) (hb : W < big) {ps : List (Nat × Nat)} (hp : ∀ p ∈ ps, Bg p) (hl : ps.length ≤ 50) (a2 : Option (Bool × PyData)) (a7 a8 : Option (Bool × PyData)) :
    ∃ (p : Nat × Nat) (L' : Nat) (c' key' cnt' : Int) (x7 x8 : Option (Bool × PyData)), Bg p ∧ m ≤ L' + (i + 1) ∧ L' ≤ W ∧ SkOk (B + 2) c' key' cnt' ∧
    exSs T.io (run T (n + 2)) [0] c17_L1 [some (true, SK c key cnt), some (false, .int (m : Nat)), a2, some (false, .int (W : Nat)), some (false, .int (i : Nat)), some (false, .int (L : Nat)), some (true, .list (ps.map NN)), a7, a8] = .nx [some (true, SK c' key' cnt'), some (false, .int (m : Nat)), a2, some (false, .int (W : Nat)), some (false, .int (i : Nat)), some (false, .int (L' : Nat)), some (true, .list ((ps ++ [p]).map NN)), x7, x8] := by
  have b1 := mid_big
  have b2 := big_lt
  obtain ⟨v1, c1, k1, n1, h1, s1, t1⟩ := draw_ok (n + 1) h (by omega) (many := 2) (by decide) (by decide)
  obtain ⟨r, hr⟩ : ∃ r : Nat, r = L + i + 1 - m := ⟨_, rfl⟩
  have hr1 : 1 ≤ r := by omega
  have er : (L : Int) - ((m : Int) - 1 - (i : Int)) = (r : Int) := by omega
  obtain ⟨q, hq1, hq2, j, hj1, hj2⟩ : ∃ q : Nat, 1 ≤ q ∧ q ≤ r ∧ ∃ j, ixD 2 (v1 : Int) = some j ∧ ([.int (r : Nat), .int (if (4 : Int) < (r : Int) then 4 else (r : Int))] : List PyData)[j]? = some (.int (q : Nat)) := by
    rcases (show v1 = 0 ∨ v1 = 1 by omega) with rfl | rfl
    · exact ⟨r, hr1, Nat.le_refl _, 0, rfl, rfl⟩
    · refine ⟨if 4 < r then 4 else r, by split <;> omega, by split <;> omega, 1, rfl, ?_⟩
      show some _ = some _
      congr 2
      split <;> split <;> omega
  obtain ⟨v2, c2, k2, n2, h2, s2, t2⟩ := draw_ok (n + 1) s1 (by omega) (many := q) (by omega) (by omega)
  obtain ⟨p, bp, LO⟩ := low_ok (n + 1) (1 + v2) W (by omega) hb (by omega)
  refine ⟨p, L - (1 + v2), c2, k2, n2, some (false, .int (r : Nat)), some (false, .int ((1 + v2 : Nat) : Int)), bp, by omega, by omega, s2.le (by omega), ?_⟩
  have l2 : lenOk 2 = true := rfl
  have la : lenOk ((ps.map NN).length + 1) = true := decide_eq_true (by simp; omega)
  have e2 : ((2 : Nat) : Int) = 2 := rfl
  have ev : ((1 + v2 : Nat) : Int) = 1 + (v2 : Int) := by omega
  have eL : ((L - (1 + v2) : Nat) : Int) = (L : Int) - (1 + (v2 : Int)) := by omega
  rw [e2] at t1
  rw [ev] at LO
  rw [ev, eL, List.map_append, List.map_cons, List.map_nil]
  generalize NN p = X at *
  generalize ps.map NN = Y at *
  generalize (v1 : Int) = x1 at *
  generalize (v2 : Int) = x2 at *
  generalize (L : Int) = lx at *
  generalize (m : Int) = mx at *
  generalize (W : Int) = wx at *
  generalize (i : Int) = ix at *
  generalize (r : Int) = rx at *
  generalize (q : Int) = qx at *
  simp [startE, exSs, exS, evE, evEs, evS, evT, ioIx, finF, ioOut, dat, slotD, stoV, stoVs, asgT_nm, asgT_tp, asgTs_nil, asgTs_cons, keepV, keepVs, dats, binD, cmpD, idxD, isiD, isiE, isiOk, tyName, callE, callP, ownIx, permR, ioSl, lent, setIo, ownS, trimE, augD, oLst, chgL, setD, wipeE, backE, plainAt, endR, isSkip, slcD, biD, eqOk, SeqAt.shaped, PyData.canLay0, PyData.canLayAll0, PyData.depth, PyData.depthAll, PyData.eqv, PyData.eqvAll, indexD, bitlD, isBD, revD, popD, oMut, setO, augG, kOk, zipD, c17_L1, er, t1, l2, hj1, hj2, t2, LO, la]
theorem shares_draw (n : Nat) {B : Nat} {c key cnt : Int} (h : SkOk B c key cnt) (hB : B ≤ 70000000) {m d : Nat} (m1 : 1 ≤ m) (hm : m ≤ 41) (d1 : 1 ≤ d) (d60 : d ≤ 60) : ∃ (l : List (Nat × Nat)) (c' key' cnt' : Int), (∀ p ∈ l, Bg p) ∧ l.length ≤ 100 ∧ SkOk (B + 100) c' key' cnt' ∧ run T (n + 3) 17 [SK c key cnt, .int (m : Nat), .int (d : Nat)] = .ret false (LP l) [SK c' key' cnt'] := by
  have b1 := mid_big
  have b3 := mid_pos
  obtain ⟨v1, c1, k1, n1, h1, s1, t1⟩ := draw_ok (n + 1) h (by omega) (many := 60) (by decide) (by decide)
  obtain ⟨v2, c2, k2, n2, h2, s2, t2⟩ := integer_ok n s1 (by omega) d1 d60
  obtain ⟨v3, c3, k3, n3, h3, s3, t3⟩ := draw_ok (n + 1) s2 (by omega) (many := 2) (by decide) (by decide)
  obtain ⟨w, hw, j, hj1, hj2⟩ : ∃ w : Nat, w ≤ mid ∧ ∃ j, ixD 2 (v3 : Int) = some j ∧ ([.int (v1 : Nat), .int (v2 : Nat)] : List PyData)[j]? = some (.int (w : Nat)) := by
    rcases (show v3 = 0 ∨ v3 = 1 by omega) with rfl | rfl
    · exact ⟨v1, by omega, 0, rfl, rfl⟩
    · exact ⟨v2, h2, 1, rfl, rfl⟩
  obtain ⟨ρ', e, c4, k4, n4, ps, L, x4, x7, x8, g1, g2, g3, g4, s4, e2⟩ := for_inv (lk := [0]) (t := .nm 4) (b := exSs T.io (run T (n + 2)) [0] c17_L1) (ds := rngD 0 ((m - 1 : Nat) : Int)) (ρ := [some (true, SK c3 k3 n3), some (false, .int (m : Nat)), some (false, .int (d : Nat)), some (false, .int ((m + w : Nat) : Int)), none, some (false, .int ((m + w : Nat) : Int)), some (true, .list (([] : List (Nat × Nat)).map NN)), none, none])
    (fun i ρ => ∃ (c4 k4 n4 : Int) (ps : List (Nat × Nat)) (L : Nat) (x4 x7 x8 : Option (Bool × PyData)), (∀ p ∈ ps, Bg p) ∧ ps.length = i ∧ m ≤ L + i ∧ L ≤ m + w ∧ SkOk (B + 5 + 2 * i) c4 k4 n4 ∧ ρ = [some (true, SK c4 k4 n4), some (false, .int (m : Nat)), some (false, .int (d : Nat)), some (false, .int ((m + w : Nat) : Int)), x4, some (false, .int (L : Nat)), some (true, .list (ps.map NN)), x7, x8])
    ⟨c3, k3, n3, [], m + w, none, none, none, fun p hp => by simp at hp, rfl, by omega, by omega, s3.le (by omega), rfl⟩ fun i d' ρ hd hI => by
    obtain ⟨c4, k4, n4, ps, L, x4, x7, x8, g1, g2, g3, g4, s4, rfl⟩ := hI
    obtain ⟨hi, rfl⟩ := rngD_at hd
    have hi' : i + 1 < m := by omega
    obtain ⟨p, L', c5, k5, n5, y7, y8, bp, q1, q2, s5, S⟩ := share_step n s4 (by omega) (i := i) (L := L) (W := m + w) hi' hm g3 g4 (by omega) g1 (by omega) (a2 := some (false, .int (d : Nat))) x7 x8
    refine ⟨_, by simp [startE, exSs, exS, evE, evEs, evS, evT, ioIx, finF, ioOut, dat, slotD, stoV, stoVs, asgT_nm, asgT_tp, asgTs_nil, asgTs_cons, keepV, keepVs, dats, binD, cmpD, idxD, isiD, isiE, isiOk, tyName, callE, callP, ownIx, permR, ioSl, lent, setIo, ownS, trimE, augD, oLst, chgL, setD, wipeE, backE, plainAt, endR, isSkip, slcD, biD, ixD, L2.ixN, eqOk, SeqAt.shaped, PyData.canLay0, PyData.canLayAll0, PyData.depth, PyData.depthAll, PyData.eqv, PyData.eqvAll, indexD, bitlD, isBD, revD, popD, oMut, setO, augG, kOk, zipD], _, S, c5, k5, n5, ps ++ [p], L', some (false, .int (i : Nat)), y7, y8, fun y hy => ?_, by simp; omega, q1, q2, s5.le (by omega), rfl⟩
    rcases List.mem_append.mp hy with hy | hy
    · exact g1 y hy
    · have := List.mem_singleton.mp hy; subst this; exact bp
  rw [rngD_len, show (((m - 1 : Nat) : Int) - 0).toNat = m - 1 by omega] at g2 g3 s4
  subst e2
  obtain ⟨p, bp, LO⟩ := low_ok (n + 1) L (m + w) (by omega) (by omega) (by omega)
  refine ⟨ps ++ [p], c4, k4, n4, fun y hy => ?_, by simp; omega, s4.le (by omega), ?_⟩
  · rcases List.mem_append.mp hy with hy | hy
    · exact g1 y hy
    · have := List.mem_singleton.mp hy; subst this; exact bp
  have r1 : rngOk ((m - 1 : Nat) : Int) = true := rngOk_nat (by omega)
  have em : ((m - 1 : Nat) : Int) = (m : Int) - 1 := by omega
  have ew : ((m + w : Nat) : Int) = (m : Int) + (w : Int) := by omega
  have l2 : lenOk 2 = true := rfl
  have l0 : lenOk 0 = true := rfl
  have l1 : lenOk 1 = true := rfl
  have la : lenOk ((ps.map NN).length + 1) = true := decide_eq_true (by simp; omega)
  have e60 : ((60 : Nat) : Int) = 60 := rfl
  have e2 : ((2 : Nat) : Int) = 2 := rfl
  rw [e60] at t1
  rw [e2] at t3
  rw [em] at r1 e
  rw [ew] at LO e
  rw [run_of (io := [true, false, false]) (m := 9) (b := c17) rfl rfl (by decide)]
  unfold LP
  rw [List.map_append, List.map_cons, List.map_nil]
  rw [List.map_nil] at e
  generalize NN p = X at *
  generalize ps.map NN = Y at *
  generalize (v1 : Int) = x1 at *
  generalize (v2 : Int) = x2 at *
  generalize (v3 : Int) = x3 at *
  generalize (L : Int) = lx at *
  generalize (m : Int) = mx at *
  generalize (w : Int) = wx at *
  generalize (d : Int) = dx at *
  simp [startE, exSs, exS, evE, evEs, evS, evT, ioIx, finF, ioOut, dat, slotD, stoV, stoVs, asgT_nm, asgT_tp, asgTs_nil, asgTs_cons, keepV, keepVs, dats, binD, cmpD, idxD, isiD, isiE, isiOk, tyName, callE, callP, ownIx, permR, ioSl, lent, setIo, ownS, trimE, augD, oLst, chgL, setD, wipeE, backE, plainAt, endR, isSkip, slcD, biD, eqOk, SeqAt.shaped, PyData.canLay0, PyData.canLayAll0, PyData.depth, PyData.depthAll, PyData.eqv, PyData.eqvAll, indexD, bitlD, isBD, revD, popD, oMut, setO, augG, kOk, zipD, c17, t1, t2, t3, l2, l0, l1, hj1, hj2, r1, e, LO, la]
end LW
set_option maxRecDepth 100000
set_option autoImplicit false
set_option maxHeartbeats 2000000
set_option exponentiation.threshold 10000
namespace LW
open PySem PD
theorem machine_draw (n : Nat) {B : Nat} {c key cnt : Int} (h : SkOk B c key cnt) (hB : B ≤ 70000000) : ∃ (m : Mc) (c' key' cnt' : Int), McOk m ∧ SkOk (B + 1000) c' key' cnt' ∧ run T (n + 3) 21 [SK c key cnt, .int 40, .int 180] = .ret false (McD m) [SK c' key' cnt'] := by
  have b1 := mid_big
  have b3 := mid_pos
  obtain ⟨v1, c1, k1, n1, h1, s1, t1⟩ := draw_ok (n + 1) h (by omega) (many := 40) (by decide) (by decide)
  obtain ⟨v2, c2, k2, n2, h2, s2, t2⟩ := draw_ok (n + 1) s1 (by omega) (many := 4) (by decide) (by decide)
  obtain ⟨s, hs0, hs1, j, hj1, hj2⟩ : ∃ s : Nat, 0 < s ∧ s ≤ 181 ∧ ∃ j, ixD 4 (v2 : Int) = some j ∧ ([.int 2, .int 5, .int 41, .int 181] : List PyData)[j]? = some (.int (s : Nat)) := by
    rcases (show v2 = 0 ∨ v2 = 1 ∨ v2 = 2 ∨ v2 = 3 by omega) with rfl | rfl | rfl | rfl
    · exact ⟨2, by decide, by decide, 0, rfl, rfl⟩
    · exact ⟨5, by decide, by decide, 1, rfl, rfl⟩
    · exact ⟨41, by decide, by decide, 2, rfl, rfl⟩
    · exact ⟨181, by decide, by decide, 3, rfl, rfl⟩
  obtain ⟨v3, c3, k3, n3, h3, s3, t3⟩ := draw_ok (n + 1) s2 (by omega) (many := s) hs0 (by omega)
  obtain ⟨rs, c4, k4, n4, hl, hp, s4, C⟩ := comp_draws RwD (fun r => r.1.2 < big ∧ r.2.2 < big) 4 (lk := [0]) (own := [6]) (ρ0 := [some (true, SK c3 k3 n3), some (false, .int 40), some (false, .int 180), none, some (false, .int ((1 + v1 : Nat) : Int)), some (false, .int (v3 : Nat)), none]) (t := .nm 6) (e := evE T.io (run T (n + 2)) [0] c21_E1)
    (fun c key cnt => [some (true, SK c key cnt), some (false, .int 40), some (false, .int 180), none, some (false, .int ((1 + v1 : Nat) : Int)), some (false, .int (v3 : Nat)), none]) (k := v3) (by omega) (M := 80000000) s3 (by omega) fun i B c key cnt hi s hM => by
      obtain ⟨p, c5, k5, n5, hp, s5, t5⟩ := place_ok n s (by omega) (th := 1 + v1) (st := v3) (by omega) (by omega) (by omega)
      obtain ⟨q, c6, k6, n6, hq, s6, t6⟩ := place_ok n s5 (by omega) (th := 1 + v1) (st := v3) (by omega) (by omega) (by omega)
      refine ⟨(p, q), c6, k6, n6, ⟨hp, hq⟩, s6, [some (true, SK c key cnt), some (false, .int 40), some (false, .int 180), none, some (false, .int ((1 + v1 : Nat) : Int)), some (false, .int (v3 : Nat)), some (false, .int (i : Nat))], [some (true, SK c6 k6 n6), some (false, .int 40), some (false, .int 180), none, some (false, .int ((1 + v1 : Nat) : Int)), some (false, .int (v3 : Nat)), some (false, .int (i : Nat))], by simp [startE, exSs, exS, evE, evEs, evS, evT, ioIx, finF, ioOut, dat, slotD, stoV, stoVs, asgT_nm, asgT_tp, asgTs_nil, asgTs_cons, keepV, keepVs, dats, binD, cmpD, idxD, isiD, isiE, isiOk, tyName, callE, callP, ownIx, permR, ioSl, lent, setIo, ownS, trimE, augD, oLst, chgL, setD, wipeE, backE, plainAt, endR, isSkip, slcD, biD, ixD, L2.ixN, eqOk, SeqAt.shaped, PyData.canLay0, PyData.canLayAll0, PyData.depth, PyData.depthAll, PyData.eqv, PyData.eqvAll, indexD, bitlD, isBD, revD, popD, oMut, setO, augG, kOk, zipD], ⟨.val (RwD (p, q)), ?_, rfl⟩, by simp [startE, exSs, exS, evE, evEs, evS, evT, ioIx, finF, ioOut, dat, slotD, stoV, stoVs, asgT_nm, asgT_tp, asgTs_nil, asgTs_cons, keepV, keepVs, dats, binD, cmpD, idxD, isiD, isiE, isiOk, tyName, callE, callP, ownIx, permR, ioSl, lent, setIo, ownS, trimE, augD, oLst, chgL, setD, wipeE, backE, plainAt, endR, isSkip, slcD, biD, ixD, L2.ixN, eqOk, SeqAt.shaped, PyData.canLay0, PyData.canLayAll0, PyData.depth, PyData.depthAll, PyData.eqv, PyData.eqvAll, indexD, bitlD, isBD, revD, popD, oMut, setO, augG, kOk, zipD]⟩
      have l2 : lenOk 2 = true := rfl
      unfold RwD
      generalize PlD p = X at *
      generalize PlD q = Y at *
      generalize ((1 + v1 : Nat) : Int) = x at *
      generalize (v3 : Int) = y at *
      generalize (i : Int) = z at *
      simp [startE, exSs, exS, evE, evEs, evS, evT, ioIx, finF, ioOut, dat, slotD, stoV, stoVs, asgT_nm, asgT_tp, asgTs_nil, asgTs_cons, keepV, keepVs, dats, binD, cmpD, idxD, isiD, isiE, isiOk, tyName, callE, callP, ownIx, permR, ioSl, lent, setIo, ownS, trimE, augD, oLst, chgL, setD, wipeE, backE, plainAt, endR, isSkip, slcD, biD, eqOk, SeqAt.shaped, PyData.canLay0, PyData.canLayAll0, PyData.depth, PyData.depthAll, PyData.eqv, PyData.eqvAll, indexD, bitlD, isBD, revD, popD, oMut, setO, augG, kOk, zipD, c21_E1, t5, t6, l2]
  obtain ⟨p, c5, k5, n5, hq, s5, t5⟩ := place_ok n s4 (by omega) (th := 1 + v1) (st := v3) (by omega) (by omega) (by omega)
  refine ⟨⟨1 + v1, p, rs⟩, c5, k5, n5, ⟨show 1 + v1 < big by omega, hq, hp, show rs.length ≤ 1000 by omega⟩, s5.le (by omega), ?_⟩
  have r1 : rngOk (v3 : Int) = true := rngOk_nat (by omega)
  have l3 : lenOk 3 = true := rfl
  have l4 : lenOk 4 = true := rfl
  have e1 : ((1 + v1 : Nat) : Int) = 1 + (v1 : Int) := by omega
  have e40 : ((40 : Nat) : Int) = 40 := rfl
  have e4 : ((4 : Nat) : Int) = 4 := rfl
  rw [e40] at t1
  rw [e4] at t2
  rw [e1] at t5 C
  rw [run_of (io := [true, false, false]) (m := 7) (b := c21) rfl rfl (by decide)]
  unfold McD RwsD
  rw [show ((⟨1 + v1, p, rs⟩ : Mc).n : Int) = 1 + (v1 : Int) from e1]
  show _ = FR.ret false (.tuple [.int (1 + (v1 : Int)), PlD p, .tuple (rs.map RwD)]) _
  generalize PlD p = X at *
  generalize rs.map RwD = Y at *
  generalize (v1 : Int) = x1 at *
  generalize (v2 : Int) = x2 at *
  generalize (v3 : Int) = x3 at *
  generalize (s : Int) = sx at *
  simp [startE, exSs, exS, evE, evEs, evS, evT, ioIx, finF, ioOut, dat, slotD, stoV, stoVs, asgT_nm, asgT_tp, asgTs_nil, asgTs_cons, keepV, keepVs, dats, binD, cmpD, idxD, isiD, isiE, isiOk, tyName, callE, callP, ownIx, permR, ioSl, lent, setIo, ownS, trimE, augD, oLst, chgL, setD, wipeE, backE, plainAt, endR, isSkip, slcD, biD, eqOk, SeqAt.shaped, PyData.canLay0, PyData.canLayAll0, PyData.depth, PyData.depthAll, PyData.eqv, PyData.eqvAll, indexD, bitlD, isBD, revD, popD, oMut, setO, augG, kOk, zipD, c21, t1, t2, l4, hj1, hj2, t3, r1, C, t5, l3]
theorem cell_draw (n : Nat) {B : Nat} {c key cnt : Int} (h : SkOk B c key cnt) (hB : B ≤ 80000000) {d : Nat} (d1 : 1 ≤ d) (d60 : d ≤ 60) : ∃ (x : Ce) (c' key' cnt' : Int), CeOk x ∧ SkOk (B + 20) c' key' cnt' ∧ run T (n + 3) 22 [SK c key cnt, .int (d : Nat)] = .ret false (CeD x) [SK c' key' cnt'] := by
  have b1 := mid_big
  have b2 := big_lt
  have b3 := mid_pos
  obtain ⟨v1, c1, k1, n1, h1, s1, t1⟩ := integer_ok n h (by omega) d1 d60
  have PW := lpower_ok (n + 1) 10 (by decide) d (by omega)
  have hpw := pow_mid d60
  have hq : 10 ^ 1 ≤ 10 ^ d := Nat.pow_le_pow_right (by decide) d1
  obtain ⟨v2, c2, k2, n2, h2, s2, t2⟩ := draw_ok (n + 1) s1 (by omega) (many := 3) (by decide) (by decide)
  obtain ⟨f, hf0, hf1, j, hj1, hj2⟩ : ∃ f : Nat, 0 < f ∧ f ≤ mid ∧ ∃ j, ixD 3 (v2 : Int) = some j ∧ ([.int 1, .int 12, .int (((10 ^ d : Nat) : Int) - 1)] : List PyData)[j]? = some (.int (f : Nat)) := by
    rcases (show v2 = 0 ∨ v2 = 1 ∨ v2 = 2 by omega) with rfl | rfl | rfl
    · exact ⟨1, by decide, by omega, 0, rfl, rfl⟩
    · exact ⟨12, by decide, by omega, 1, rfl, rfl⟩
    · refine ⟨10 ^ d - 1, by omega, by omega, 2, rfl, ?_⟩
      show some _ = some _
      congr 2
      omega
  obtain ⟨v3, c3, k3, n3, h3, s3, t3⟩ := draw_ok (n + 1) s2 (by omega) (many := f) hf0 (by omega)
  obtain ⟨v4, c4, k4, n4, h4, s4, t4⟩ := draw_ok (n + 1) s3 (by omega) (many := 1 + v3) (by omega) (by omega)
  obtain ⟨p, bp, LO⟩ := low_ok (n + 1) (1 + v4) (1 + v3) (by omega) (by omega) (by omega)
  have l2 : lenOk 2 = true := rfl
  have l3 : lenOk 3 = true := rfl
  have e3 : ((3 : Nat) : Int) = 3 := rfl
  have e10 : ((10 : Nat) : Int) = 10 := rfl
  have ev3 : ((1 + v3 : Nat) : Int) = 1 + (v3 : Int) := by omega
  have ev4 : ((1 + v4 : Nat) : Int) = 1 + (v4 : Int) := by omega
  rw [e3] at t2
  rw [e10] at PW
  rw [ev3] at t4 LO
  rw [ev4] at LO
  have LO' : run T (n + 2) 14 [.int (1 + (v4 : Int)), .int (1 + (v3 : Int))] = .ret false (.tuple [.int (p.1 : Nat), .int (p.2 : Nat)]) [] := LO
  by_cases z : p.1 = 1 ∧ p.2 = 1
  · refine ⟨⟨v1, p, v1⟩, c4, k4, n4, ⟨show v1 < big by omega, bp, show v1 < big by omega⟩, s4.le (by omega), ?_⟩
    rw [run_of (io := [true, false]) (m := 7) (b := c22) rfl rfl (by decide)]
    show _ = FR.ret false (.tuple [.int (v1 : Nat), .tuple [.int (p.1 : Nat), .int (p.2 : Nat)], .int (v1 : Nat)]) _
    rw [z.1, z.2] at LO' ⊢
    have e1 : ((1 : Nat) : Int) = 1 := rfl
    rw [e1] at LO' ⊢
    generalize ((10 ^ d : Nat) : Int) = px at *
    generalize (v1 : Int) = x1 at *
    generalize (v2 : Int) = x2 at *
    generalize (v3 : Int) = x3 at *
    generalize (v4 : Int) = x4 at *
    generalize (d : Int) = dx at *
    generalize (f : Int) = fx at *
    simp [startE, exSs, exS, evE, evEs, evS, evT, ioIx, finF, ioOut, dat, slotD, stoV, stoVs, asgT_nm, asgT_tp, asgTs_nil, asgTs_cons, keepV, keepVs, dats, binD, cmpD, idxD, isiD, isiE, isiOk, tyName, callE, callP, ownIx, permR, ioSl, lent, setIo, ownS, trimE, augD, oLst, chgL, setD, wipeE, backE, plainAt, endR, isSkip, slcD, biD, eqOk, SeqAt.shaped, PyData.canLay0, PyData.canLayAll0, PyData.depth, PyData.depthAll, PyData.eqv, PyData.eqvAll, indexD, bitlD, isBD, revD, popD, oMut, setO, augG, kOk, zipD, c22, t1, PW, t2, l3, hj1, hj2, t3, t4, LO', l2]
  · obtain ⟨v5, c5, k5, n5, h5, s5, t5⟩ := integer_ok n s4 (by omega) d1 d60
    have tst : ∀ (a b : Int), ¬ (a = 1 ∧ b = 1) → (a = 1 → ¬ b = 1) := fun a b y e e' => y ⟨e, e'⟩
    have z2 := tst (p.1 : Nat) (p.2 : Nat) (by omega)
    obtain ⟨u, hu, eu⟩ : ∃ u : Nat, u < big ∧ (u : Int) = if ¬ (v5 : Int) = (v1 : Int) then (v5 : Int) else (if (0 : Int) < (v1 : Int) - 1 then (v1 : Int) - 1 else 0) + 2 * (if (v1 : Int) = 0 then 1 else 0) := by
      by_cases y : v5 = v1
      · subst y
        by_cases y0 : v5 = 0
        · subst y0
          exact ⟨2, by omega, rfl⟩
        · refine ⟨v5 - 1, by omega, ?_⟩
          rw [if_neg (by simp), if_neg (show ¬ (v5 : Int) = 0 by omega)]
          split <;> omega
      · exact ⟨v5, by omega, by rw [if_pos (show ¬ (v5 : Int) = (v1 : Int) by omega)]⟩
    refine ⟨⟨v1, p, u⟩, c5, k5, n5, ⟨show v1 < big by omega, bp, hu⟩, s5.le (by omega), ?_⟩
    rw [run_of (io := [true, false]) (m := 7) (b := c22) rfl rfl (by decide)]
    show _ = FR.ret false (.tuple [.int (v1 : Nat), .tuple [.int (p.1 : Nat), .int (p.2 : Nat)], .int (u : Nat)]) _
    rw [eu]
    generalize ((10 ^ d : Nat) : Int) = px at *
    generalize (p.1 : Int) = p1 at *
    generalize (p.2 : Int) = p2 at *
    generalize (v1 : Int) = x1 at *
    generalize (v2 : Int) = x2 at *
    generalize (v3 : Int) = x3 at *
    generalize (v4 : Int) = x4 at *
    generalize (v5 : Int) = x5 at *
    generalize (d : Int) = dx at *
    generalize (f : Int) = fx at *
    clear eu
    have m0 : mulOk 2 0 = true := rfl
    have m1 : mulOk 2 1 = true := rfl
    by_cases y1 : p1 = 1
    · have y2 := z2 y1
      subst y1
      by_cases y3 : x5 = x1
      · subst y3
        by_cases y4 : x5 = 0
        · subst y4
          simp [startE, exSs, exS, evE, evEs, evS, evT, ioIx, finF, ioOut, dat, slotD, stoV, stoVs, asgT_nm, asgT_tp, asgTs_nil, asgTs_cons, keepV, keepVs, dats, binD, cmpD, idxD, isiD, isiE, isiOk, tyName, callE, callP, ownIx, permR, ioSl, lent, setIo, ownS, trimE, augD, oLst, chgL, setD, wipeE, backE, plainAt, endR, isSkip, slcD, biD, eqOk, SeqAt.shaped, PyData.canLay0, PyData.canLayAll0, PyData.depth, PyData.depthAll, PyData.eqv, PyData.eqvAll, indexD, bitlD, isBD, revD, popD, oMut, setO, augG, kOk, zipD, c22, t1, PW, t2, l3, hj1, hj2, t3, t4, LO', l2, y2, t5, m0, m1]
        · simp [startE, exSs, exS, evE, evEs, evS, evT, ioIx, finF, ioOut, dat, slotD, stoV, stoVs, asgT_nm, asgT_tp, asgTs_nil, asgTs_cons, keepV, keepVs, dats, binD, cmpD, idxD, isiD, isiE, isiOk, tyName, callE, callP, ownIx, permR, ioSl, lent, setIo, ownS, trimE, augD, oLst, chgL, setD, wipeE, backE, plainAt, endR, isSkip, slcD, biD, eqOk, SeqAt.shaped, PyData.canLay0, PyData.canLayAll0, PyData.depth, PyData.depthAll, PyData.eqv, PyData.eqvAll, indexD, bitlD, isBD, revD, popD, oMut, setO, augG, kOk, zipD, c22, t1, PW, t2, l3, hj1, hj2, t3, t4, LO', l2, y2, t5, m0, m1, y4]
      · have y4 : (x5 == x1) = false := by simp [y3]
        simp [startE, exSs, exS, evE, evEs, evS, evT, ioIx, finF, ioOut, dat, slotD, stoV, stoVs, asgT_nm, asgT_tp, asgTs_nil, asgTs_cons, keepV, keepVs, dats, binD, cmpD, idxD, isiD, isiE, isiOk, tyName, callE, callP, ownIx, permR, ioSl, lent, setIo, ownS, trimE, augD, oLst, chgL, setD, wipeE, backE, plainAt, endR, isSkip, slcD, biD, eqOk, SeqAt.shaped, PyData.canLay0, PyData.canLayAll0, PyData.depth, PyData.depthAll, PyData.eqv, PyData.eqvAll, indexD, bitlD, isBD, revD, popD, oMut, setO, augG, kOk, zipD, c22, t1, PW, t2, l3, hj1, hj2, t3, t4, LO', l2, y2, t5, m0, m1, y3, y4]
    · by_cases y3 : x5 = x1
      · subst y3
        by_cases y4 : x5 = 0
        · subst y4
          simp [startE, exSs, exS, evE, evEs, evS, evT, ioIx, finF, ioOut, dat, slotD, stoV, stoVs, asgT_nm, asgT_tp, asgTs_nil, asgTs_cons, keepV, keepVs, dats, binD, cmpD, idxD, isiD, isiE, isiOk, tyName, callE, callP, ownIx, permR, ioSl, lent, setIo, ownS, trimE, augD, oLst, chgL, setD, wipeE, backE, plainAt, endR, isSkip, slcD, biD, eqOk, SeqAt.shaped, PyData.canLay0, PyData.canLayAll0, PyData.depth, PyData.depthAll, PyData.eqv, PyData.eqvAll, indexD, bitlD, isBD, revD, popD, oMut, setO, augG, kOk, zipD, c22, t1, PW, t2, l3, hj1, hj2, t3, t4, LO', l2, y1, t5, m0, m1]
        · simp [startE, exSs, exS, evE, evEs, evS, evT, ioIx, finF, ioOut, dat, slotD, stoV, stoVs, asgT_nm, asgT_tp, asgTs_nil, asgTs_cons, keepV, keepVs, dats, binD, cmpD, idxD, isiD, isiE, isiOk, tyName, callE, callP, ownIx, permR, ioSl, lent, setIo, ownS, trimE, augD, oLst, chgL, setD, wipeE, backE, plainAt, endR, isSkip, slcD, biD, eqOk, SeqAt.shaped, PyData.canLay0, PyData.canLayAll0, PyData.depth, PyData.depthAll, PyData.eqv, PyData.eqvAll, indexD, bitlD, isBD, revD, popD, oMut, setO, augG, kOk, zipD, c22, t1, PW, t2, l3, hj1, hj2, t3, t4, LO', l2, y1, t5, m0, m1, y4]
      · have y4 : (x5 == x1) = false := by simp [y3]
        simp [startE, exSs, exS, evE, evEs, evS, evT, ioIx, finF, ioOut, dat, slotD, stoV, stoVs, asgT_nm, asgT_tp, asgTs_nil, asgTs_cons, keepV, keepVs, dats, binD, cmpD, idxD, isiD, isiE, isiOk, tyName, callE, callP, ownIx, permR, ioSl, lent, setIo, ownS, trimE, augD, oLst, chgL, setD, wipeE, backE, plainAt, endR, isSkip, slcD, biD, eqOk, SeqAt.shaped, PyData.canLay0, PyData.canLayAll0, PyData.depth, PyData.depthAll, PyData.eqv, PyData.eqvAll, indexD, bitlD, isBD, revD, popD, oMut, setO, augG, kOk, zipD, c22, t1, PW, t2, l3, hj1, hj2, t3, t4, LO', l2, y1, t5, m0, m1, y3, y4]
end LW
set_option maxRecDepth 100000
set_option autoImplicit false
set_option maxHeartbeats 2000000
set_option exponentiation.threshold 10000
namespace LW
open PySem PD
/-! ### what is shown -/
theorem shown0 (n : Nat) (nm : Bool) {X : PyData} {s : Str} (R : run T (n + 2) 1 [X] = .ret false (.str s) []) : run T (n + 3) 31 [.int 0, X, .bool nm] = .ret false (.str s) [] := by
  rw [run_of (io := [false, false, false]) (m := 3) (b := c31) rfl rfl (by decide)]
  cases nm
  · simp [startE, exSs, exS, evE, evEs, evS, evT, ioIx, finF, ioOut, dat, slotD, stoV, stoVs, asgT_nm, asgT_tp, asgTs_nil, asgTs_cons, keepV, keepVs, dats, binD, cmpD, idxD, isiD, isiE, isiOk, tyName, callE, callP, ownIx, permR, ioSl, lent, setIo, ownS, trimE, augD, oLst, chgL, setD, wipeE, backE, plainAt, endR, isSkip, slcD, biD, eqOk, SeqAt.shaped, PyData.canLay0, PyData.canLayAll0, PyData.depth, PyData.depthAll, PyData.eqv, PyData.eqvAll, indexD, bitlD, isBD, revD, popD, oMut, setO, augG, kOk, zipD, c31, R]
  · simp [startE, exSs, exS, evE, evEs, evS, evT, ioIx, finF, ioOut, dat, slotD, stoV, stoVs, asgT_nm, asgT_tp, asgTs_nil, asgTs_cons, keepV, keepVs, dats, binD, cmpD, idxD, isiD, isiE, isiOk, tyName, callE, callP, ownIx, permR, ioSl, lent, setIo, ownS, trimE, augD, oLst, chgL, setD, wipeE, backE, plainAt, endR, isSkip, slcD, biD, eqOk, SeqAt.shaped, PyData.canLay0, PyData.canLayAll0, PyData.depth, PyData.depthAll, PyData.eqv, PyData.eqvAll, indexD, bitlD, isBD, revD, popD, oMut, setO, augG, kOk, zipD, c31, R]
theorem shown1 (n : Nat) (nm : Bool) {X : PyData} {s : Str} (R : run T (n + 2) 2 [X] = .ret false (.str s) []) : run T (n + 3) 31 [.int 1, X, .bool nm] = .ret false (.str s) [] := by
  rw [run_of (io := [false, false, false]) (m := 3) (b := c31) rfl rfl (by decide)]
  cases nm
  · simp [startE, exSs, exS, evE, evEs, evS, evT, ioIx, finF, ioOut, dat, slotD, stoV, stoVs, asgT_nm, asgT_tp, asgTs_nil, asgTs_cons, keepV, keepVs, dats, binD, cmpD, idxD, isiD, isiE, isiOk, tyName, callE, callP, ownIx, permR, ioSl, lent, setIo, ownS, trimE, augD, oLst, chgL, setD, wipeE, backE, plainAt, endR, isSkip, slcD, biD, eqOk, SeqAt.shaped, PyData.canLay0, PyData.canLayAll0, PyData.depth, PyData.depthAll, PyData.eqv, PyData.eqvAll, indexD, bitlD, isBD, revD, popD, oMut, setO, augG, kOk, zipD, c31, R]
  · simp [startE, exSs, exS, evE, evEs, evS, evT, ioIx, finF, ioOut, dat, slotD, stoV, stoVs, asgT_nm, asgT_tp, asgTs_nil, asgTs_cons, keepV, keepVs, dats, binD, cmpD, idxD, isiD, isiE, isiOk, tyName, callE, callP, ownIx, permR, ioSl, lent, setIo, ownS, trimE, augD, oLst, chgL, setD, wipeE, backE, plainAt, endR, isSkip, slcD, biD, eqOk, SeqAt.shaped, PyData.canLay0, PyData.canLayAll0, PyData.depth, PyData.depthAll, PyData.eqv, PyData.eqvAll, indexD, bitlD, isBD, revD, popD, oMut, setO, augG, kOk, zipD, c31, R]
theorem shown2 (n : Nat) (nm : Bool) {X : PyData} {s : Str} (R : run T (n + 2) 3 [X] = .ret false (.str s) []) : run T (n + 3) 31 [.int 2, X, .bool nm] = .ret false (.str s) [] := by
  rw [run_of (io := [false, false, false]) (m := 3) (b := c31) rfl rfl (by decide)]
  cases nm
  · simp [startE, exSs, exS, evE, evEs, evS, evT, ioIx, finF, ioOut, dat, slotD, stoV, stoVs, asgT_nm, asgT_tp, asgTs_nil, asgTs_cons, keepV, keepVs, dats, binD, cmpD, idxD, isiD, isiE, isiOk, tyName, callE, callP, ownIx, permR, ioSl, lent, setIo, ownS, trimE, augD, oLst, chgL, setD, wipeE, backE, plainAt, endR, isSkip, slcD, biD, eqOk, SeqAt.shaped, PyData.canLay0, PyData.canLayAll0, PyData.depth, PyData.depthAll, PyData.eqv, PyData.eqvAll, indexD, bitlD, isBD, revD, popD, oMut, setO, augG, kOk, zipD, c31, R]
  · simp [startE, exSs, exS, evE, evEs, evS, evT, ioIx, finF, ioOut, dat, slotD, stoV, stoVs, asgT_nm, asgT_tp, asgTs_nil, asgTs_cons, keepV, keepVs, dats, binD, cmpD, idxD, isiD, isiE, isiOk, tyName, callE, callP, ownIx, permR, ioSl, lent, setIo, ownS, trimE, augD, oLst, chgL, setD, wipeE, backE, plainAt, endR, isSkip, slcD, biD, eqOk, SeqAt.shaped, PyData.canLay0, PyData.canLayAll0, PyData.depth, PyData.depthAll, PyData.eqv, PyData.eqvAll, indexD, bitlD, isBD, revD, popD, oMut, setO, augG, kOk, zipD, c31, R]
theorem shown3 (n : Nat) (nm : Bool) {X : PyData} {s : Str} (R : run T (n + 2) 5 [X] = .ret false (.str s) []) : run T (n + 3) 31 [.int 3, X, .bool nm] = .ret false (.str s) [] := by
  rw [run_of (io := [false, false, false]) (m := 3) (b := c31) rfl rfl (by decide)]
  cases nm
  · simp [startE, exSs, exS, evE, evEs, evS, evT, ioIx, finF, ioOut, dat, slotD, stoV, stoVs, asgT_nm, asgT_tp, asgTs_nil, asgTs_cons, keepV, keepVs, dats, binD, cmpD, idxD, isiD, isiE, isiOk, tyName, callE, callP, ownIx, permR, ioSl, lent, setIo, ownS, trimE, augD, oLst, chgL, setD, wipeE, backE, plainAt, endR, isSkip, slcD, biD, eqOk, SeqAt.shaped, PyData.canLay0, PyData.canLayAll0, PyData.depth, PyData.depthAll, PyData.eqv, PyData.eqvAll, indexD, bitlD, isBD, revD, popD, oMut, setO, augG, kOk, zipD, c31, R]
  · simp [startE, exSs, exS, evE, evEs, evS, evT, ioIx, finF, ioOut, dat, slotD, stoV, stoVs, asgT_nm, asgT_tp, asgTs_nil, asgTs_cons, keepV, keepVs, dats, binD, cmpD, idxD, isiD, isiE, isiOk, tyName, callE, callP, ownIx, permR, ioSl, lent, setIo, ownS, trimE, augD, oLst, chgL, setD, wipeE, backE, plainAt, endR, isSkip, slcD, biD, eqOk, SeqAt.shaped, PyData.canLay0, PyData.canLayAll0, PyData.depth, PyData.depthAll, PyData.eqv, PyData.eqvAll, indexD, bitlD, isBD, revD, popD, oMut, setO, augG, kOk, zipD, c31, R]
theorem shown4 (n : Nat) (nm : Bool) {X : PyData} {s : Str} (R : run T (n + 2) 8 [X] = .ret false (.str s) []) : run T (n + 3) 31 [.int 4, X, .bool nm] = .ret false (.str s) [] := by
  rw [run_of (io := [false, false, false]) (m := 3) (b := c31) rfl rfl (by decide)]
  cases nm
  · simp [startE, exSs, exS, evE, evEs, evS, evT, ioIx, finF, ioOut, dat, slotD, stoV, stoVs, asgT_nm, asgT_tp, asgTs_nil, asgTs_cons, keepV, keepVs, dats, binD, cmpD, idxD, isiD, isiE, isiOk, tyName, callE, callP, ownIx, permR, ioSl, lent, setIo, ownS, trimE, augD, oLst, chgL, setD, wipeE, backE, plainAt, endR, isSkip, slcD, biD, eqOk, SeqAt.shaped, PyData.canLay0, PyData.canLayAll0, PyData.depth, PyData.depthAll, PyData.eqv, PyData.eqvAll, indexD, bitlD, isBD, revD, popD, oMut, setO, augG, kOk, zipD, c31, R]
  · simp [startE, exSs, exS, evE, evEs, evS, evT, ioIx, finF, ioOut, dat, slotD, stoV, stoVs, asgT_nm, asgT_tp, asgTs_nil, asgTs_cons, keepV, keepVs, dats, binD, cmpD, idxD, isiD, isiE, isiOk, tyName, callE, callP, ownIx, permR, ioSl, lent, setIo, ownS, trimE, augD, oLst, chgL, setD, wipeE, backE, plainAt, endR, isSkip, slcD, biD, eqOk, SeqAt.shaped, PyData.canLay0, PyData.canLayAll0, PyData.depth, PyData.depthAll, PyData.eqv, PyData.eqvAll, indexD, bitlD, isBD, revD, popD, oMut, setO, augG, kOk, zipD, c31, R]
theorem shown5 (n : Nat) (nm : Bool) {X : PyData} {s : Str} (R : run T (n + 2) 9 [X] = .ret false (.str s) []) : run T (n + 3) 31 [.int 5, X, .bool nm] = .ret false (.str s) [] := by
  rw [run_of (io := [false, false, false]) (m := 3) (b := c31) rfl rfl (by decide)]
  cases nm
  · simp [startE, exSs, exS, evE, evEs, evS, evT, ioIx, finF, ioOut, dat, slotD, stoV, stoVs, asgT_nm, asgT_tp, asgTs_nil, asgTs_cons, keepV, keepVs, dats, binD, cmpD, idxD, isiD, isiE, isiOk, tyName, callE, callP, ownIx, permR, ioSl, lent, setIo, ownS, trimE, augD, oLst, chgL, setD, wipeE, backE, plainAt, endR, isSkip, slcD, biD, eqOk, SeqAt.shaped, PyData.canLay0, PyData.canLayAll0, PyData.depth, PyData.depthAll, PyData.eqv, PyData.eqvAll, indexD, bitlD, isBD, revD, popD, oMut, setO, augG, kOk, zipD, c31, R]
  · simp [startE, exSs, exS, evE, evEs, evS, evT, ioIx, finF, ioOut, dat, slotD, stoV, stoVs, asgT_nm, asgT_tp, asgTs_nil, asgTs_cons, keepV, keepVs, dats, binD, cmpD, idxD, isiD, isiE, isiOk, tyName, callE, callP, ownIx, permR, ioSl, lent, setIo, ownS, trimE, augD, oLst, chgL, setD, wipeE, backE, plainAt, endR, isSkip, slcD, biD, eqOk, SeqAt.shaped, PyData.canLay0, PyData.canLayAll0, PyData.depth, PyData.depthAll, PyData.eqv, PyData.eqvAll, indexD, bitlD, isBD, revD, popD, oMut, setO, augG, kOk, zipD, c31, R]
theorem shown6 (n : Nat) (nm : Bool) {X : PyData} {s : Str} (R : run T (n + 2) 7 [X] = .ret false (.str s) []) : run T (n + 3) 31 [.int 6, X, .bool nm] = .ret false (.str s) [] := by
  rw [run_of (io := [false, false, false]) (m := 3) (b := c31) rfl rfl (by decide)]
  cases nm
  · simp [startE, exSs, exS, evE, evEs, evS, evT, ioIx, finF, ioOut, dat, slotD, stoV, stoVs, asgT_nm, asgT_tp, asgTs_nil, asgTs_cons, keepV, keepVs, dats, binD, cmpD, idxD, isiD, isiE, isiOk, tyName, callE, callP, ownIx, permR, ioSl, lent, setIo, ownS, trimE, augD, oLst, chgL, setD, wipeE, backE, plainAt, endR, isSkip, slcD, biD, eqOk, SeqAt.shaped, PyData.canLay0, PyData.canLayAll0, PyData.depth, PyData.depthAll, PyData.eqv, PyData.eqvAll, indexD, bitlD, isBD, revD, popD, oMut, setO, augG, kOk, zipD, c31, R]
  · simp [startE, exSs, exS, evE, evEs, evS, evT, ioIx, finF, ioOut, dat, slotD, stoV, stoVs, asgT_nm, asgT_tp, asgTs_nil, asgTs_cons, keepV, keepVs, dats, binD, cmpD, idxD, isiD, isiE, isiOk, tyName, callE, callP, ownIx, permR, ioSl, lent, setIo, ownS, trimE, augD, oLst, chgL, setD, wipeE, backE, plainAt, endR, isSkip, slcD, biD, eqOk, SeqAt.shaped, PyData.canLay0, PyData.canLayAll0, PyData.depth, PyData.depthAll, PyData.eqv, PyData.eqvAll, indexD, bitlD, isBD, revD, popD, oMut, setO, augG, kOk, zipD, c31, R]
/-- a thing of a door, and its text -/
structure Told (k : Int) (X : PyData) (s : Str) : Prop where
  fit : Fit s 400000
  run : ∀ (n : Nat) (nm : Bool), run T (n + 3) 31 [.int k, X, .bool nm] = .ret false (.str s) []
section
variable {n : Nat} {lk : List Nat} {a r : Sts} {ρ ρ2 : PD.Env} {o : Out} {v : Rv} {i : Nat} {k j : Int}
theorem cmp_door (a b : Int) : cmpD .eq (.int a) (.int b) = some (decide (a = b)) := by
  simp [cmpD, eqOk, SeqAt.shaped, PyData.canLay0, PyData.depth, PyData.eqv]
  rfl
theorem if_skip (hi : ρ[i]? = some (some (false, .int k))) (hk : decide (k = j) = false) (h2 : exSs T.io (run T n) lk r ρ = o) : exSs T.io (run T n) lk (.cons (.ife (.cmp .eq (.var i) (.lit (.int j))) a .nil) r) ρ = o := by
  refine seq_go ?_ h2
  have e : evE T.io (run T n) lk (.cmp .eq (.var i) (.lit (.int j))) ρ = .ok (.val (.bool false)) ρ := ev_cmp (ev_var hi) ev_lit rfl rfl (by rw [cmp_door, hk])
  rw [exS, evT_of e]
  simp [exSs]
theorem if_take (hi : ρ[i]? = some (some (false, .int k))) (h2 : exSs T.io (run T n) lk a ρ = .ret v ρ2) : exSs T.io (run T n) lk (.cons (.ife (.cmp .eq (.var i) (.lit (.int k))) a .nil) r) ρ = .ret v ρ2 := by
  refine seq_end ?_
  have e : evE T.io (run T n) lk (.cmp .eq (.var i) (.lit (.int k))) ρ = .ok (.val (.bool true)) ρ := ev_cmp (ev_var hi) ev_lit rfl rfl (by rw [cmp_door, decide_eq_true rfl])
  rw [exS, evT_of e]
  exact h2
end
theorem door_many (n : Nat) {B : Nat} {c key cnt : Int} (h : SkOk B c key cnt) (hB : B ≤ 60000000) (k d : Int) : ∃ (m : Nat) (c' key' cnt' : Int), 1 ≤ m ∧ m ≤ 40 ∧ SkOk (B + 3) c' key' cnt' ∧
    exS T.io (run T (n + 3)) [0] (.asg (.nm 4) (.bin .add (.lit (.int 1)) (.idx (.lst (.cons (.lit (.int 0)) (.cons (.lit (.int 1)) (.cons (.callP 11 (.cons (.var 0) (.cons (.lit (.int 6)) .nil))) (.cons (.callP 11 (.cons (.var 0) (.cons (.var 3) .nil))) (.cons (.bin .sub (.var 3) (.lit (.int 1))) .nil)))))) (.callP 11 (.cons (.var 0) (.cons (.lit (.int 5)) .nil)))))) [some (true, SK c key cnt), some (false, .int k), some (false, .int d), some (false, .int 40), none, none, none, none, none, none, none, none] = .nx [some (true, SK c' key' cnt'), some (false, .int k), some (false, .int d), some (false, .int 40), some (false, .int (m : Nat)), none, none, none, none, none, none, none] := by
  obtain ⟨v1, c1, k1, n1, h1, s1, t1⟩ := draw_ok (n + 2) h (by omega) (many := 6) (by decide) (by decide)
  obtain ⟨v2, c2, k2, n2, h2, s2, t2⟩ := draw_ok (n + 2) s1 (by omega) (many := 40) (by decide) (by decide)
  obtain ⟨v3, c3, k3, n3, h3, s3, t3⟩ := draw_ok (n + 2) s2 (by omega) (many := 5) (by decide) (by decide)
  obtain ⟨w, hw, j, hj1, hj2⟩ : ∃ w : Nat, w < 40 ∧ ∃ j, ixD 5 (v3 : Int) = some j ∧ ([.int 0, .int 1, .int (v1 : Nat), .int (v2 : Nat), .int 39] : List PyData)[j]? = some (.int (w : Nat)) := by
    rcases (show v3 = 0 ∨ v3 = 1 ∨ v3 = 2 ∨ v3 = 3 ∨ v3 = 4 by omega) with rfl | rfl | rfl | rfl | rfl
    · exact ⟨0, by decide, 0, rfl, rfl⟩
    · exact ⟨1, by decide, 1, rfl, rfl⟩
    · exact ⟨v1, by omega, 2, rfl, rfl⟩
    · exact ⟨v2, by omega, 3, rfl, rfl⟩
    · exact ⟨39, by decide, 4, rfl, rfl⟩
  refine ⟨1 + w, c3, k3, n3, by omega, by omega, s3, ?_⟩
  have e1 : ((1 + w : Nat) : Int) = 1 + (w : Int) := by omega
  have e6 : ((6 : Nat) : Int) = 6 := rfl
  have e40 : ((40 : Nat) : Int) = 40 := rfl
  have e5 : ((5 : Nat) : Int) = 5 := rfl
  have l5 : lenOk 5 = true := rfl
  rw [e6] at t1
  rw [e40] at t2
  rw [e5] at t3
  rw [e1]
  generalize (v1 : Int) = x1 at *
  generalize (v2 : Int) = x2 at *
  generalize (v3 : Int) = x3 at *
  generalize (w : Int) = wx at *
  simp [startE, exSs, exS, evE, evEs, evS, evT, ioIx, finF, ioOut, dat, slotD, stoV, stoVs, asgT_nm, asgT_tp, asgTs_nil, asgTs_cons, keepV, keepVs, dats, binD, cmpD, idxD, isiD, isiE, isiOk, tyName, callE, callP, ownIx, permR, ioSl, lent, setIo, ownS, trimE, augD, oLst, chgL, setD, wipeE, backE, plainAt, endR, isSkip, slcD, biD, eqOk, SeqAt.shaped, PyData.canLay0, PyData.canLayAll0, PyData.depth, PyData.depthAll, PyData.eqv, PyData.eqvAll, indexD, bitlD, isBD, revD, popD, oMut, setO, augG, kOk, zipD, t1, t2, t3, l5, hj1, hj2]
theorem door0 (n : Nat) {B : Nat} {c key cnt : Int} (h : SkOk B c key cnt) (hB : B ≤ 60000000) {d : Nat} (d1 : 2 ≤ d) (d60 : d ≤ 60) : ∃ (p : Nat × Nat) (c' key' cnt' : Int), Bg p ∧ SkOk (B + 30000) c' key' cnt' ∧ run T (n + 4) 30 [SK c key cnt, .int 0, .int (d : Nat), .int 40] = .ret false (.tuple [NN p, .str (numP p)]) [SK c' key' cnt'] := by
  obtain ⟨m, c1, k1, n1, m1, m2, s1, S0⟩ := door_many n h hB 0 (d : Nat)
  obtain ⟨p, c2, k2, n2, bp, s2, t2⟩ := number_ok n s1 (by omega) (d := d) (by omega) d60
  have R : run T (n + 3) 23 [NN p] = .ret false (.str (numP p)) [] := said_num (n + 2) bp.bi
  refine ⟨p, c2, k2, n2, bp, s2.le (by omega), ?_⟩
  have l2 : lenOk 2 = true := rfl
  have E : exSs T.io (run T (n + 3)) [0] c30 [some (true, SK c key cnt), some (false, .int 0), some (false, .int (d : Nat)), some (false, .int 40), none, none, none, none, none, none, none, none] = .ret (.val (.tuple [NN p, .str (numP p)])) [some (true, SK c2 k2 n2), some (false, .int 0), some (false, .int (d : Nat)), some (false, .int 40), some (false, .int (m : Nat)), some (false, NN p), none, none, none, none, none, none] := by
    refine seq_go S0 (if_take rfl ?_)
    generalize NN p = X at *
    generalize numP p = s at *
    generalize (d : Int) = dx at *
    generalize (m : Int) = mx at *
    simp [startE, exSs, exS, evE, evEs, evS, evT, ioIx, finF, ioOut, dat, slotD, stoV, stoVs, asgT_nm, asgT_tp, asgTs_nil, asgTs_cons, keepV, keepVs, dats, binD, cmpD, idxD, isiD, isiE, isiOk, tyName, callE, callP, ownIx, permR, ioSl, lent, setIo, ownS, trimE, augD, oLst, chgL, setD, wipeE, backE, plainAt, endR, isSkip, slcD, biD, eqOk, SeqAt.shaped, PyData.canLay0, PyData.canLayAll0, PyData.depth, PyData.depthAll, PyData.eqv, PyData.eqvAll, indexD, bitlD, isBD, revD, popD, oMut, setO, augG, kOk, zipD, t2, R, l2]
  rw [run_of (io := [true, false, false, false]) (m := 12) (b := c30) rfl rfl (by decide)]
  exact (congrArg (finF [0]) E).trans rfl
theorem door1 (n : Nat) {B : Nat} {c key cnt : Int} (h : SkOk B c key cnt) (hB : B ≤ 60000000) {d : Nat} (d1 : 2 ≤ d) (d60 : d ≤ 60) : ∃ (X : PyData) (s : Str) (c' key' cnt' : Int), Told 1 X s ∧ SkOk (B + 30000) c' key' cnt' ∧ run T (n + 4) 30 [SK c key cnt, .int 1, .int (d : Nat), .int 40] = .ret false (.tuple [X, .str s]) [SK c' key' cnt'] := by
  obtain ⟨m, c1, k1, n1, m1, m2, s1, S0⟩ := door_many n h hB 1 (d : Nat)
  obtain ⟨l, c2, k2, n2, hp, hl, s2, t2⟩ := shares_draw n s1 (by omega) (m := m) (by omega) (by omega) (d := d - 1) (by omega) (by omega)
  have R := all_ok (n + 1) hp hl
  refine ⟨LP l, allS l, c2, k2, n2, ⟨(all_fit hp).mono (by omega), fun n nm => shown1 n nm (shares_ok n hp hl)⟩, s2.le (by omega), ?_⟩
  have l2 : lenOk 2 = true := rfl
  have ed : ((d - 1 : Nat) : Int) = (d : Int) - 1 := by omega
  rw [ed] at t2
  have E : exSs T.io (run T (n + 3)) [0] c30 [some (true, SK c key cnt), some (false, .int 1), some (false, .int (d : Nat)), some (false, .int 40), none, none, none, none, none, none, none, none] = .ret (.val (.tuple [LP l, .str (allS l)])) [some (true, SK c2 k2 n2), some (false, .int 1), some (false, .int (d : Nat)), some (false, .int 40), some (false, .int (m : Nat)), some (false, LP l), none, none, none, none, none, none] := by
    refine seq_go S0 (if_skip rfl rfl (if_take rfl ?_))
    generalize LP l = X at *
    generalize allS l = s at *
    generalize (d : Int) = dx at *
    generalize (m : Int) = mx at *
    simp [startE, exSs, exS, evE, evEs, evS, evT, ioIx, finF, ioOut, dat, slotD, stoV, stoVs, asgT_nm, asgT_tp, asgTs_nil, asgTs_cons, keepV, keepVs, dats, binD, cmpD, idxD, isiD, isiE, isiOk, tyName, callE, callP, ownIx, permR, ioSl, lent, setIo, ownS, trimE, augD, oLst, chgL, setD, wipeE, backE, plainAt, endR, isSkip, slcD, biD, eqOk, SeqAt.shaped, PyData.canLay0, PyData.canLayAll0, PyData.depth, PyData.depthAll, PyData.eqv, PyData.eqvAll, indexD, bitlD, isBD, revD, popD, oMut, setO, augG, kOk, zipD, t2, R, l2]
  rw [run_of (io := [true, false, false, false]) (m := 12) (b := c30) rfl rfl (by decide)]
  exact (congrArg (finF [0]) E).trans rfl
theorem door6 (n : Nat) {B : Nat} {c key cnt : Int} (h : SkOk B c key cnt) (hB : B ≤ 60000000) {d : Nat} (d1 : 2 ≤ d) (d60 : d ≤ 60) : ∃ (X : PyData) (s : Str) (c' key' cnt' : Int), Told 6 X s ∧ SkOk (B + 30000) c' key' cnt' ∧ run T (n + 4) 30 [SK c key cnt, .int 6, .int (d : Nat), .int 40] = .ret false (.tuple [X, .str s]) [SK c' key' cnt'] := by
  obtain ⟨m, c1, k1, n1, m1, m2, s1, S0⟩ := door_many n h hB 6 (d : Nat)
  obtain ⟨M, c2, k2, n2, hm, s2, t2⟩ := machine_draw n s1 (by omega)
  have R := said_mc (n + 1) hm
  refine ⟨McD M, mcS M, c2, k2, n2, ⟨(mc_fit hm).mono (by omega), fun n nm => shown6 n nm (show_mc n hm)⟩, s2.le (by omega), ?_⟩
  have l2 : lenOk 2 = true := rfl
  have E : exSs T.io (run T (n + 3)) [0] c30 [some (true, SK c key cnt), some (false, .int 6), some (false, .int (d : Nat)), some (false, .int 40), none, none, none, none, none, none, none, none] = .ret (.val (.tuple [McD M, .str (mcS M)])) [some (true, SK c2 k2 n2), some (false, .int 6), some (false, .int (d : Nat)), some (false, .int 40), some (false, .int (m : Nat)), some (false, McD M), none, none, none, none, none, none] := by
    refine seq_go S0 (if_skip rfl rfl (if_skip rfl rfl (if_skip rfl rfl (if_skip rfl rfl (if_skip rfl rfl (if_skip rfl rfl ?_))))))
    generalize McD M = X at *
    generalize mcS M = s at *
    generalize (d : Int) = dx at *
    generalize (m : Int) = mx at *
    simp [startE, exSs, exS, evE, evEs, evS, evT, ioIx, finF, ioOut, dat, slotD, stoV, stoVs, asgT_nm, asgT_tp, asgTs_nil, asgTs_cons, keepV, keepVs, dats, binD, cmpD, idxD, isiD, isiE, isiOk, tyName, callE, callP, ownIx, permR, ioSl, lent, setIo, ownS, trimE, augD, oLst, chgL, setD, wipeE, backE, plainAt, endR, isSkip, slcD, biD, eqOk, SeqAt.shaped, PyData.canLay0, PyData.canLayAll0, PyData.depth, PyData.depthAll, PyData.eqv, PyData.eqvAll, indexD, bitlD, isBD, revD, popD, oMut, setO, augG, kOk, zipD, t2, R, l2]
  rw [run_of (io := [true, false, false, false]) (m := 12) (b := c30) rfl rfl (by decide)]
  exact (congrArg (finF [0]) E).trans rfl
end LW
set_option maxRecDepth 100000
set_option autoImplicit false
set_option maxHeartbeats 2000000
set_option exponentiation.threshold 10000
namespace LW
open PySem PD
theorem ne_TI (l : List Nat) : cmpD .ne (TI l) (.tuple []) = some (!decide (l = [])) := by
  have e0 : eqOk (.tuple []) = true := rfl
  have e1 : eqOk (TI l) = true := by
    obtain ⟨h1, h2⟩ := lay_TI l
    have h3 : (TI l).depth ≤ 64 := by omega
    simp [eqOk, SeqAt.shaped, h1, h3]
  have ev : PyData.eqv (TI l) (.tuple []) = decide (l = []) := by
    cases l with
    | nil => rfl
    | cons a r => simp [TI, PyData.eqv, PyData.eqvAll]
  simp only [cmpD, e1, e0, Bool.and_self, if_true, ev]
theorem three (v a b c : Nat) (h : v < 3) (ha : 0 < a) (hb : 0 < b) (hc : 0 < c) : ∃ w : Nat, 0 < w ∧ w ≤ a + b + c ∧ (w = a ∨ w = b ∨ w = c) ∧ ∃ j, ixD 3 (v : Int) = some j ∧ ([.int (a : Nat), .int (b : Nat), .int (c : Nat)] : List PyData)[j]? = some (.int (w : Nat)) := by
  rcases (show v = 0 ∨ v = 1 ∨ v = 2 by omega) with rfl | rfl | rfl
  · exact ⟨a, ha, by omega, by omega, 0, rfl, rfl⟩
  · exact ⟨b, hb, by omega, by omega, 1, rfl, rfl⟩
  · exact ⟨c, hc, by omega, by omega, 2, rfl, rfl⟩
theorem two (v a b : Nat) (h : v < 2) : ∃ w : Nat, (w = a ∨ w = b) ∧ ∃ j, ixD 2 (v : Int) = some j ∧ ([.int (a : Nat), .int (b : Nat)] : List PyData)[j]? = some (.int (w : Nat)) := by
  rcases (show v = 0 ∨ v = 1 by omega) with rfl | rfl
  · exact ⟨a, by omega, 0, rfl, rfl⟩
  · exact ⟨b, by omega, 1, rfl, rfl⟩
theorem door4 (n : Nat) {B : Nat} {c key cnt : Int} (h : SkOk B c key cnt) (hB : B ≤ 60000000) {d : Nat} (d1 : 2 ≤ d) (d60 : d ≤ 60) : ∃ (X : PyData) (s : Str) (c' key' cnt' : Int), Told 4 X s ∧ SkOk (B + 30000) c' key' cnt' ∧ run T (n + 4) 30 [SK c key cnt, .int 4, .int (d : Nat), .int 40] = .ret false (.tuple [X, .str s]) [SK c' key' cnt'] := by
  obtain ⟨m, c1, k1, n1, m1, m2, s1, S0⟩ := door_many n h hB 4 (d : Nat)
  obtain ⟨v2, c2, k2, n2, h2, s2, t2⟩ := draw_ok (n + 2) s1 (by omega) (many := 3) (by decide) (by decide)
  obtain ⟨w, hw0, hw1, hw2, j, hj1, hj2⟩ := three v2 2 9 301 h2 (by decide) (by decide) (by decide)
  obtain ⟨v3, c3, k3, n3, h3, s3, t3⟩ := draw_ok (n + 2) s2 (by omega) (many := w) (by omega) (by omega)
  obtain ⟨l, c4, k4, n4, hl, hn, s4, t4⟩ := signs_draw (n + 1) s3 (by omega) (m := v3) (by omega)
  have R := signs_ok (n + 2) hl.all hl.few
  refine ⟨TI l, tosS l, c4, k4, n4, ⟨(tos_fit hl).mono (by omega), fun n nm => shown4 n nm (show_tos_ok n hl)⟩, s4.le (by omega), ?_⟩
  have l2 : lenOk 2 = true := rfl
  have l3 : lenOk 3 = true := rfl
  have e3 : ((3 : Nat) : Int) = 3 := rfl
  have f2 : ((2 : Nat) : Int) = 2 := rfl
  have f9 : ((9 : Nat) : Int) = 9 := rfl
  have f301 : ((301 : Nat) : Int) = 301 := rfl
  rw [f2, f9, f301] at hj2
  rw [e3] at t2
  have S1 : exS T.io (run T (n + 3)) [0] (.asg (.nm 5) (.callP 18 (.cons (.var 0) (.cons (.callP 11 (.cons (.var 0) (.cons (.idx (.lst (.cons (.lit (.int 2)) (.cons (.lit (.int 9)) (.cons (.lit (.int 301)) .nil)))) (.callP 11 (.cons (.var 0) (.cons (.lit (.int 3)) .nil)))) .nil))) .nil)))) [some (true, SK c1 k1 n1), some (false, .int 4), some (false, .int (d : Nat)), some (false, .int 40), some (false, .int (m : Nat)), none, none, none, none, none, none, none] = .nx [some (true, SK c4 k4 n4), some (false, .int 4), some (false, .int (d : Nat)), some (false, .int 40), some (false, .int (m : Nat)), some (false, TI l), none, none, none, none, none, none] := by
    generalize TI l = X at *
    generalize (d : Int) = dx at *
    generalize (m : Int) = mx at *
    generalize (w : Int) = wx at *
    generalize (v2 : Int) = x2 at *
    generalize (v3 : Int) = x3 at *
    simp [startE, exSs, exS, evE, evEs, evS, evT, ioIx, finF, ioOut, dat, slotD, stoV, stoVs, asgT_nm, asgT_tp, asgTs_nil, asgTs_cons, keepV, keepVs, dats, binD, cmpD, idxD, isiD, isiE, isiOk, tyName, callE, callP, ownIx, permR, ioSl, lent, setIo, ownS, trimE, augD, oLst, chgL, setD, wipeE, backE, plainAt, endR, isSkip, slcD, biD, eqOk, SeqAt.shaped, PyData.canLay0, PyData.canLayAll0, PyData.depth, PyData.depthAll, PyData.eqv, PyData.eqvAll, indexD, bitlD, isBD, revD, popD, oMut, setO, augG, kOk, zipD, t2, l3, hj1, hj2, t3, t4]
  have tst : evE T.io (run T (n + 3)) [0] (.cmp .ne (.var 5) (.tup .nil)) [some (true, SK c4 k4 n4), some (false, .int 4), some (false, .int (d : Nat)), some (false, .int 40), some (false, .int (m : Nat)), some (false, TI l), none, none, none, none, none, none] = .ok (.val (.bool (!decide (l = [])))) [some (true, SK c4 k4 n4), some (false, .int 4), some (false, .int (d : Nat)), some (false, .int 40), some (false, .int (m : Nat)), some (false, TI l), none, none, none, none, none, none] :=
    ev_cmp (ev_var rfl) (ev_tup (ds := []) ev_es0 rfl rfl) rfl rfl (ne_TI l)
  have C1 : evE T.io (run T (n + 3)) [0] (.callP 25 (.cons (.var 5) .nil)) [some (true, SK c4 k4 n4), some (false, .int 4), some (false, .int (d : Nat)), some (false, .int 40), some (false, .int (m : Nat)), some (false, TI l), none, none, none, none, none, none] = .ok (.val (.str (signS l))) [some (true, SK c4 k4 n4), some (false, .int 4), some (false, .int (d : Nat)), some (false, .int 40), some (false, .int (m : Nat)), some (false, TI l), none, none, none, none, none, none] := by
    generalize TI l = X at *
    generalize signS l = s at *
    simp [startE, exSs, exS, evE, evEs, evS, evT, ioIx, finF, ioOut, dat, slotD, stoV, stoVs, asgT_nm, asgT_tp, asgTs_nil, asgTs_cons, keepV, keepVs, dats, binD, cmpD, idxD, isiD, isiE, isiOk, tyName, callE, callP, ownIx, permR, ioSl, lent, setIo, ownS, trimE, augD, oLst, chgL, setD, wipeE, backE, plainAt, endR, isSkip, slcD, biD, eqOk, SeqAt.shaped, PyData.canLay0, PyData.canLayAll0, PyData.depth, PyData.depthAll, PyData.eqv, PyData.eqvAll, indexD, bitlD, isBD, revD, popD, oMut, setO, augG, kOk, zipD, R]
  have H : evE T.io (run T (n + 3)) [0] (.ife (.cmp .ne (.var 5) (.tup .nil)) (.callP 25 (.cons (.var 5) .nil)) (.lit (.str (Str.ofString "-")))) [some (true, SK c4 k4 n4), some (false, .int 4), some (false, .int (d : Nat)), some (false, .int 40), some (false, .int (m : Nat)), some (false, TI l), none, none, none, none, none, none] = .ok (.val (.str (tosS l))) [some (true, SK c4 k4 n4), some (false, .int 4), some (false, .int (d : Nat)), some (false, .int 40), some (false, .int (m : Nat)), some (false, TI l), none, none, none, none, none, none] := by
    unfold tosS
    by_cases z : l = []
    · rw [if_pos z]
      rw [decide_eq_true z] at tst
      exact ev_ife_f tst ev_lit
    · rw [if_neg z]
      rw [decide_eq_false z] at tst
      exact ev_ife_t tst C1
  have E : exSs T.io (run T (n + 3)) [0] c30 [some (true, SK c key cnt), some (false, .int 4), some (false, .int (d : Nat)), some (false, .int 40), none, none, none, none, none, none, none, none] = .ret (.val (.tuple [TI l, .str (tosS l)])) [some (true, SK c4 k4 n4), some (false, .int 4), some (false, .int (d : Nat)), some (false, .int 40), some (false, .int (m : Nat)), some (false, TI l), none, none, none, none, none, none] :=
    seq_go S0 (if_skip rfl rfl (if_skip rfl rfl (if_skip rfl rfl (if_skip rfl rfl (if_take rfl (seq_go S1 (seq_end (exs_ret (ev_tup (ds := [TI l, .str (tosS l)]) (ev_es (ev_var rfl) (ev_es H ev_es0)) rfl rfl)))))))))
  rw [run_of (io := [true, false, false, false]) (m := 12) (b := c30) rfl rfl (by decide)]
  exact (congrArg (finF [0]) E).trans rfl
theorem door2 (n : Nat) {B : Nat} {c key cnt : Int} (h : SkOk B c key cnt) (hB : B ≤ 60000000) {d : Nat} (d1 : 2 ≤ d) (d60 : d ≤ 60) : ∃ (X : PyData) (s : Str) (c' key' cnt' : Int), Told 2 X s ∧ SkOk (B + 30000) c' key' cnt' ∧ run T (n + 4) 30 [SK c key cnt, .int 2, .int (d : Nat), .int 40] = .ret false (.tuple [X, .str s]) [SK c' key' cnt'] := by
  obtain ⟨m, c1, k1, n1, m1, m2, s1, S0⟩ := door_many n h hB 2 (d : Nat)
  obtain ⟨v2, c2, k2, n2, h2, s2, t2⟩ := draw_ok (n + 2) s1 (by omega) (many := 3) (by decide) (by decide)
  obtain ⟨w, hw0, hw1, hw2, j, hj1, hj2⟩ := three v2 2 9 100 h2 (by decide) (by decide) (by decide)
  obtain ⟨v3, c3, k3, n3, h3, s3, t3⟩ := draw_ok (n + 2) s2 (by omega) (many := w) (by omega) (by omega)
  obtain ⟨v4, c4, k4, n4, h4, s4, t4⟩ := draw_ok (n + 2) s3 (by omega) (many := 3) (by decide) (by decide)
  obtain ⟨u, hu0, hu1, hu2, j', hi1, hi2⟩ := three v4 1 9 (200 - v3) h4 (by decide) (by decide) (by omega)
  obtain ⟨v5, c5, k5, n5, h5, s5, t5⟩ := draw_ok (n + 2) s4 (by omega) (many := u) (by omega) (by omega)
  obtain ⟨a, c6, k6, n6, ha, hn6, s6, t6⟩ := signs_draw (n + 1) s5 (by omega) (m := v3) (by omega)
  obtain ⟨b, c7, k7, n7, hb, hn7, s7, t7⟩ := signs_draw (n + 1) s6 (by omega) (m := 1 + v5) (by omega)
  have R1 := signs_ok (n + 2) ha.all ha.few
  have R2 := signs_ok (n + 2) hb.all hb.few
  refine ⟨.tuple [TI a, TI b], figS a b, c7, k7, n7, ⟨(fig_fit ha hb).mono (by omega), fun n nm => shown2 n nm (show_fig_ok n ha hb)⟩, s7.le (by omega), ?_⟩
  have l2 : lenOk 2 = true := rfl
  have l3 : lenOk 3 = true := rfl
  have e3 : ((3 : Nat) : Int) = 3 := rfl
  have f1 : ((1 : Nat) : Int) = 1 := rfl
  have f2 : ((2 : Nat) : Int) = 2 := rfl
  have f9 : ((9 : Nat) : Int) = 9 := rfl
  have f100 : ((100 : Nat) : Int) = 100 := rfl
  have e200 : ((200 - v3 : Nat) : Int) = 200 - (v3 : Int) := by omega
  have e5 : ((1 + v5 : Nat) : Int) = 1 + (v5 : Int) := by omega
  rw [f2, f9, f100] at hj2
  rw [f1, f9, e200] at hi2
  rw [e3] at t2 t4
  rw [e5] at t7
  have S1 : exS T.io (run T (n + 3)) [0] (.asg (.nm 6) (.callP 11 (.cons (.var 0) (.cons (.idx (.lst (.cons (.lit (.int 2)) (.cons (.lit (.int 9)) (.cons (.lit (.int 100)) .nil)))) (.callP 11 (.cons (.var 0) (.cons (.lit (.int 3)) .nil)))) .nil)))) [some (true, SK c1 k1 n1), some (false, .int 2), some (false, .int (d : Nat)), some (false, .int 40), some (false, .int (m : Nat)), none, none, none, none, none, none, none] = .nx [some (true, SK c3 k3 n3), some (false, .int 2), some (false, .int (d : Nat)), some (false, .int 40), some (false, .int (m : Nat)), none, some (false, .int (v3 : Nat)), none, none, none, none, none] := by
    generalize (d : Int) = dx at *
    generalize (m : Int) = mx at *
    generalize (w : Int) = wx at *
    generalize (v2 : Int) = x2 at *
    generalize (v3 : Int) = x3 at *
    simp [startE, exSs, exS, evE, evEs, evS, evT, ioIx, finF, ioOut, dat, slotD, stoV, stoVs, asgT_nm, asgT_tp, asgTs_nil, asgTs_cons, keepV, keepVs, dats, binD, cmpD, idxD, isiD, isiE, isiOk, tyName, callE, callP, ownIx, permR, ioSl, lent, setIo, ownS, trimE, augD, oLst, chgL, setD, wipeE, backE, plainAt, endR, isSkip, slcD, biD, eqOk, SeqAt.shaped, PyData.canLay0, PyData.canLayAll0, PyData.depth, PyData.depthAll, PyData.eqv, PyData.eqvAll, indexD, bitlD, isBD, revD, popD, oMut, setO, augG, kOk, zipD, t2, l3, hj1, hj2, t3]
  have S2 : exS T.io (run T (n + 3)) [0] (.asg (.nm 7) (.bin .add (.lit (.int 1)) (.callP 11 (.cons (.var 0) (.cons (.idx (.lst (.cons (.lit (.int 1)) (.cons (.lit (.int 9)) (.cons (.bin .sub (.lit (.int 200)) (.var 6)) .nil)))) (.callP 11 (.cons (.var 0) (.cons (.lit (.int 3)) .nil)))) .nil))))) [some (true, SK c3 k3 n3), some (false, .int 2), some (false, .int (d : Nat)), some (false, .int 40), some (false, .int (m : Nat)), none, some (false, .int (v3 : Nat)), none, none, none, none, none] = .nx [some (true, SK c5 k5 n5), some (false, .int 2), some (false, .int (d : Nat)), some (false, .int 40), some (false, .int (m : Nat)), none, some (false, .int (v3 : Nat)), some (false, .int (1 + (v5 : Int))), none, none, none, none] := by
    generalize (d : Int) = dx at *
    generalize (m : Int) = mx at *
    generalize (u : Int) = ux at *
    generalize (v3 : Int) = x3 at *
    generalize (v4 : Int) = x4 at *
    generalize (v5 : Int) = x5 at *
    simp [startE, exSs, exS, evE, evEs, evS, evT, ioIx, finF, ioOut, dat, slotD, stoV, stoVs, asgT_nm, asgT_tp, asgTs_nil, asgTs_cons, keepV, keepVs, dats, binD, cmpD, idxD, isiD, isiE, isiOk, tyName, callE, callP, ownIx, permR, ioSl, lent, setIo, ownS, trimE, augD, oLst, chgL, setD, wipeE, backE, plainAt, endR, isSkip, slcD, biD, eqOk, SeqAt.shaped, PyData.canLay0, PyData.canLayAll0, PyData.depth, PyData.depthAll, PyData.eqv, PyData.eqvAll, indexD, bitlD, isBD, revD, popD, oMut, setO, augG, kOk, zipD, t4, l3, hi1, hi2, t5]
  have S3 : exS T.io (run T (n + 3)) [0] (.asg (.nm 5) (.tup (.cons (.callP 18 (.cons (.var 0) (.cons (.var 6) .nil))) (.cons (.callP 18 (.cons (.var 0) (.cons (.var 7) .nil))) .nil)))) [some (true, SK c5 k5 n5), some (false, .int 2), some (false, .int (d : Nat)), some (false, .int 40), some (false, .int (m : Nat)), none, some (false, .int (v3 : Nat)), some (false, .int (1 + (v5 : Int))), none, none, none, none] = .nx [some (true, SK c7 k7 n7), some (false, .int 2), some (false, .int (d : Nat)), some (false, .int 40), some (false, .int (m : Nat)), some (false, .tuple [TI a, TI b]), some (false, .int (v3 : Nat)), some (false, .int (1 + (v5 : Int))), none, none, none, none] := by
    generalize TI a = X at *
    generalize TI b = Y at *
    generalize (d : Int) = dx at *
    generalize (m : Int) = mx at *
    generalize (v3 : Int) = x3 at *
    generalize (v5 : Int) = x5 at *
    simp [startE, exSs, exS, evE, evEs, evS, evT, ioIx, finF, ioOut, dat, slotD, stoV, stoVs, asgT_nm, asgT_tp, asgTs_nil, asgTs_cons, keepV, keepVs, dats, binD, cmpD, idxD, isiD, isiE, isiOk, tyName, callE, callP, ownIx, permR, ioSl, lent, setIo, ownS, trimE, augD, oLst, chgL, setD, wipeE, backE, plainAt, endR, isSkip, slcD, biD, eqOk, SeqAt.shaped, PyData.canLay0, PyData.canLayAll0, PyData.depth, PyData.depthAll, PyData.eqv, PyData.eqvAll, indexD, bitlD, isBD, revD, popD, oMut, setO, augG, kOk, zipD, t6, t7, l2]
  have i0 : idxD (.tuple [TI a, TI b]) (.int 0) = some (.val (TI a)) := rfl
  have i1 : idxD (.tuple [TI a, TI b]) (.int 1) = some (.val (TI b)) := rfl
  have C1 : evE T.io (run T (n + 3)) [0] (.callP 25 (.cons (.idx (.var 5) (.lit (.int 0))) .nil)) [some (true, SK c7 k7 n7), some (false, .int 2), some (false, .int (d : Nat)), some (false, .int 40), some (false, .int (m : Nat)), some (false, .tuple [TI a, TI b]), some (false, .int (v3 : Nat)), some (false, .int (1 + (v5 : Int))), none, none, none, none] = .ok (.val (.str (signS a))) [some (true, SK c7 k7 n7), some (false, .int 2), some (false, .int (d : Nat)), some (false, .int 40), some (false, .int (m : Nat)), some (false, .tuple [TI a, TI b]), some (false, .int (v3 : Nat)), some (false, .int (1 + (v5 : Int))), none, none, none, none] := by
    refine ev_call (rs := [.val (TI a)]) (ev_es (ev_idx (ev_var rfl) ev_lit rfl rfl i0) ev_es0) ?_
    generalize TI a = X at *
    generalize TI b = Y at *
    generalize signS a = s at *
    simp [startE, exSs, exS, evE, evEs, evS, evT, ioIx, finF, ioOut, dat, slotD, stoV, stoVs, asgT_nm, asgT_tp, asgTs_nil, asgTs_cons, keepV, keepVs, dats, binD, cmpD, idxD, isiD, isiE, isiOk, tyName, callE, callP, ownIx, permR, ioSl, lent, setIo, ownS, trimE, augD, oLst, chgL, setD, wipeE, backE, plainAt, endR, isSkip, slcD, biD, eqOk, SeqAt.shaped, PyData.canLay0, PyData.canLayAll0, PyData.depth, PyData.depthAll, PyData.eqv, PyData.eqvAll, indexD, bitlD, isBD, revD, popD, oMut, setO, augG, kOk, zipD, R1]
  have C2 : evE T.io (run T (n + 3)) [0] (.callP 25 (.cons (.idx (.var 5) (.lit (.int 1))) .nil)) [some (true, SK c7 k7 n7), some (false, .int 2), some (false, .int (d : Nat)), some (false, .int 40), some (false, .int (m : Nat)), some (false, .tuple [TI a, TI b]), some (false, .int (v3 : Nat)), some (false, .int (1 + (v5 : Int))), none, none, none, none] = .ok (.val (.str (signS b))) [some (true, SK c7 k7 n7), some (false, .int 2), some (false, .int (d : Nat)), some (false, .int 40), some (false, .int (m : Nat)), some (false, .tuple [TI a, TI b]), some (false, .int (v3 : Nat)), some (false, .int (1 + (v5 : Int))), none, none, none, none] := by
    refine ev_call (rs := [.val (TI b)]) (ev_es (ev_idx (ev_var rfl) ev_lit rfl rfl i1) ev_es0) ?_
    generalize TI a = X at *
    generalize TI b = Y at *
    generalize signS b = s at *
    simp [startE, exSs, exS, evE, evEs, evS, evT, ioIx, finF, ioOut, dat, slotD, stoV, stoVs, asgT_nm, asgT_tp, asgTs_nil, asgTs_cons, keepV, keepVs, dats, binD, cmpD, idxD, isiD, isiE, isiOk, tyName, callE, callP, ownIx, permR, ioSl, lent, setIo, ownS, trimE, augD, oLst, chgL, setD, wipeE, backE, plainAt, endR, isSkip, slcD, biD, eqOk, SeqAt.shaped, PyData.canLay0, PyData.canLayAll0, PyData.depth, PyData.depthAll, PyData.eqv, PyData.eqvAll, indexD, bitlD, isBD, revD, popD, oMut, setO, augG, kOk, zipD, R2]
  have g1 := ha.fit.le
  have g2 := hb.fit.le
  have g3 : (Str.ofString "(").length ≤ 1 := (fit_e "(" (n := 1) (by decide)).le
  have g4 : (Str.ofString ")").length ≤ 1 := (fit_e ")" (n := 1) (by decide)).le
  have H : evE T.io (run T (n + 3)) [0] (.bin .add (.bin .add (.bin .add (.callP 25 (.cons (.idx (.var 5) (.lit (.int 0))) .nil)) (.lit (.str (Str.ofString "(")))) (.callP 25 (.cons (.idx (.var 5) (.lit (.int 1))) .nil))) (.lit (.str (Str.ofString ")")))) [some (true, SK c7 k7 n7), some (false, .int 2), some (false, .int (d : Nat)), some (false, .int 40), some (false, .int (m : Nat)), some (false, .tuple [TI a, TI b]), some (false, .int (v3 : Nat)), some (false, .int (1 + (v5 : Int))), none, none, none, none] = .ok (.val (.str (figS a b))) [some (true, SK c7 k7 n7), some (false, .int 2), some (false, .int (d : Nat)), some (false, .int 40), some (false, .int (m : Nat)), some (false, .tuple [TI a, TI b]), some (false, .int (v3 : Nat)), some (false, .int (1 + (v5 : Int))), none, none, none, none] :=
    ev_cat (ev_cat (ev_cat C1 ev_lit (by omega)) C2 (by rw [Str.length_append]; omega)) ev_lit (by rw [Str.length_append, Str.length_append]; omega)
  have E : exSs T.io (run T (n + 3)) [0] c30 [some (true, SK c key cnt), some (false, .int 2), some (false, .int (d : Nat)), some (false, .int 40), none, none, none, none, none, none, none, none] = .ret (.val (.tuple [.tuple [TI a, TI b], .str (figS a b)])) [some (true, SK c7 k7 n7), some (false, .int 2), some (false, .int (d : Nat)), some (false, .int 40), some (false, .int (m : Nat)), some (false, .tuple [TI a, TI b]), some (false, .int (v3 : Nat)), some (false, .int (1 + (v5 : Int))), none, none, none, none] :=
    seq_go S0 (if_skip rfl rfl (if_skip rfl rfl (if_take rfl (seq_go S1 (seq_go S2 (seq_go S3 (seq_end (exs_ret (ev_tup (ds := [.tuple [TI a, TI b], .str (figS a b)]) (ev_es (ev_var rfl) (ev_es H ev_es0)) rfl rfl)))))))))
  rw [run_of (io := [true, false, false, false]) (m := 12) (b := c30) rfl rfl (by decide)]
  exact (congrArg (finF [0]) E).trans rfl
theorem door5 (n : Nat) {B : Nat} {c key cnt : Int} (h : SkOk B c key cnt) (hB : B ≤ 60000000) {d : Nat} (d1 : 2 ≤ d) (d60 : d ≤ 60) : ∃ (X : PyData) (s : Str) (c' key' cnt' : Int), Told 5 X s ∧ SkOk (B + 30000) c' key' cnt' ∧ run T (n + 4) 30 [SK c key cnt, .int 5, .int (d : Nat), .int 40] = .ret false (.tuple [X, .str s]) [SK c' key' cnt'] := by
  obtain ⟨m, c1, k1, n1, m1, m2, s1, S0⟩ := door_many n h hB 5 (d : Nat)
  obtain ⟨v2, c2, k2, n2, h2, s2, t2⟩ := draw_ok (n + 2) s1 (by omega) (many := 2) (by decide) (by decide)
  obtain ⟨w, hw, j, hj1, hj2⟩ := two v2 1 3 h2
  have l2 : lenOk 2 = true := rfl
  have e2 : ((2 : Nat) : Int) = 2 := rfl
  have f1 : ((1 : Nat) : Int) = 1 := rfl
  have f3 : ((3 : Nat) : Int) = 3 := rfl
  obtain ⟨K, hK, eK⟩ : ∃ K : Nat, K ≤ 60 ∧ (if (m : Int) * (w : Int) < 60 then (m : Int) * (w : Int) else 60) = (K : Int) := by
    refine ⟨if m * w < 60 then m * w else 60, by split <;> omega, ?_⟩
    rw [show (m : Int) * (w : Int) = ((m * w : Nat) : Int) by rw [Int.natCast_mul]]
    split <;> split <;> omega
  obtain ⟨t, c3, k3, n3, hl, hp, s3, C⟩ := comp_draws CeD CeOk 21 (lk := [0]) (own := [11]) (ρ0 := [some (true, SK c2 k2 n2), some (false, .int 5), some (false, .int (d : Nat)), some (false, .int 40), some (false, .int (m : Nat)), none, none, none, some (false, .int (w : Nat)), none, none, none]) (t := .nm 11) (e := evE T.io (run T (n + 3)) [0] c30_E1)
    (fun c key cnt => [some (true, SK c key cnt), some (false, .int 5), some (false, .int (d : Nat)), some (false, .int 40), some (false, .int (m : Nat)), none, none, none, some (false, .int (w : Nat)), none, none, none]) (k := K) (by omega) (M := 70000000) s2 (by omega) fun i B c key cnt hi s hM => by
      obtain ⟨v4, c4, k4, n4, h4, s4, t4⟩ := draw_ok (n + 2) s (by omega) (many := 2) (by decide) (by decide)
      obtain ⟨u, hu, j', hi1, hi2⟩ := two v4 1 d h4
      obtain ⟨x, c5, k5, n5, hx, s5, t5⟩ := cell_draw n s4 (by omega) (d := u) (by omega) (by omega)
      refine ⟨x, c5, k5, n5, hx, s5.le (by omega), [some (true, SK c key cnt), some (false, .int 5), some (false, .int (d : Nat)), some (false, .int 40), some (false, .int (m : Nat)), none, none, none, some (false, .int (w : Nat)), none, none, some (false, .int (i : Nat))], [some (true, SK c5 k5 n5), some (false, .int 5), some (false, .int (d : Nat)), some (false, .int 40), some (false, .int (m : Nat)), none, none, none, some (false, .int (w : Nat)), none, none, some (false, .int (i : Nat))], by simp [startE, exSs, exS, evE, evEs, evS, evT, ioIx, finF, ioOut, dat, slotD, stoV, stoVs, asgT_nm, asgT_tp, asgTs_nil, asgTs_cons, keepV, keepVs, dats, binD, cmpD, idxD, isiD, isiE, isiOk, tyName, callE, callP, ownIx, permR, ioSl, lent, setIo, ownS, trimE, augD, oLst, chgL, setD, wipeE, backE, plainAt, endR, isSkip, slcD, biD, ixD, L2.ixN, eqOk, SeqAt.shaped, PyData.canLay0, PyData.canLayAll0, PyData.depth, PyData.depthAll, PyData.eqv, PyData.eqvAll, indexD, bitlD, isBD, revD, popD, oMut, setO, augG, kOk, zipD], ⟨.val (CeD x), ?_, rfl⟩, by simp [startE, exSs, exS, evE, evEs, evS, evT, ioIx, finF, ioOut, dat, slotD, stoV, stoVs, asgT_nm, asgT_tp, asgTs_nil, asgTs_cons, keepV, keepVs, dats, binD, cmpD, idxD, isiD, isiE, isiOk, tyName, callE, callP, ownIx, permR, ioSl, lent, setIo, ownS, trimE, augD, oLst, chgL, setD, wipeE, backE, plainAt, endR, isSkip, slcD, biD, ixD, L2.ixN, eqOk, SeqAt.shaped, PyData.canLay0, PyData.canLayAll0, PyData.depth, PyData.depthAll, PyData.eqv, PyData.eqvAll, indexD, bitlD, isBD, revD, popD, oMut, setO, augG, kOk, zipD]⟩
      rw [e2] at t4
      rw [f1] at hi2
      generalize CeD x = X at *
      generalize (d : Int) = dx at *
      generalize (m : Int) = mx at *
      generalize (w : Int) = wx at *
      generalize (u : Int) = ux at *
      generalize (i : Int) = ix at *
      generalize (v4 : Int) = x4 at *
      simp [startE, exSs, exS, evE, evEs, evS, evT, ioIx, finF, ioOut, dat, slotD, stoV, stoVs, asgT_nm, asgT_tp, asgTs_nil, asgTs_cons, keepV, keepVs, dats, binD, cmpD, idxD, isiD, isiE, isiOk, tyName, callE, callP, ownIx, permR, ioSl, lent, setIo, ownS, trimE, augD, oLst, chgL, setD, wipeE, backE, plainAt, endR, isSkip, slcD, biD, eqOk, SeqAt.shaped, PyData.canLay0, PyData.canLayAll0, PyData.depth, PyData.depthAll, PyData.eqv, PyData.eqvAll, indexD, bitlD, isBD, revD, popD, oMut, setO, augG, kOk, zipD, c30_E1, t4, l2, hi1, hi2, t5]
  have R := said_tb (n + 1) hp (by omega)
  refine ⟨TbD t, tbS t, c3, k3, n3, ⟨(tb_fit hp (by omega)).mono (by omega), fun n nm => shown5 n nm (show_tb n hp (by omega))⟩, s3.le (by omega), ?_⟩
  rw [e2] at t2
  rw [f1, f3] at hj2
  have mo : mulOk (m : Int) (w : Int) = true := mulOk_l (by rw [Int.natAbs_natCast]; omega)
  have rK : rngOk (K : Int) = true := rngOk_nat (by omega)
  have E : exSs T.io (run T (n + 3)) [0] c30 [some (true, SK c key cnt), some (false, .int 5), some (false, .int (d : Nat)), some (false, .int 40), none, none, none, none, none, none, none, none] = .ret (.val (.tuple [TbD t, .str (tbS t)])) [some (true, SK c3 k3 n3), some (false, .int 5), some (false, .int (d : Nat)), some (false, .int 40), some (false, .int (m : Nat)), some (false, TbD t), none, none, some (false, .int (w : Nat)), none, none, none] := by
    refine seq_go S0 (if_skip rfl rfl (if_skip rfl rfl (if_skip rfl rfl (if_skip rfl rfl (if_skip rfl rfl (if_take rfl ?_))))))
    unfold TbD at *
    generalize tbS t = s at *
    generalize t.map CeD = Y at *
    generalize (d : Int) = dx at *
    generalize (m : Int) = mx at *
    generalize (w : Int) = wx at *
    generalize (v2 : Int) = x2 at *
    generalize (K : Int) = kx at *
    simp [startE, exSs, exS, evE, evEs, evS, evT, ioIx, finF, ioOut, dat, slotD, stoV, stoVs, asgT_nm, asgT_tp, asgTs_nil, asgTs_cons, keepV, keepVs, dats, binD, cmpD, idxD, isiD, isiE, isiOk, tyName, callE, callP, ownIx, permR, ioSl, lent, setIo, ownS, trimE, augD, oLst, chgL, setD, wipeE, backE, plainAt, endR, isSkip, slcD, biD, eqOk, SeqAt.shaped, PyData.canLay0, PyData.canLayAll0, PyData.depth, PyData.depthAll, PyData.eqv, PyData.eqvAll, indexD, bitlD, isBD, revD, popD, oMut, setO, augG, kOk, zipD, t2, l2, hj1, hj2, mo, eK, rK, C, R]
  rw [run_of (io := [true, false, false, false]) (m := 12) (b := c30) rfl rfl (by decide)]
  exact (congrArg (finF [0]) E).trans rfl
theorem door3 (n : Nat) {B : Nat} {c key cnt : Int} (h : SkOk B c key cnt) (hB : B ≤ 60000000) {d : Nat} (d1 : 2 ≤ d) (d60 : d ≤ 60) : ∃ (X : PyData) (s : Str) (c' key' cnt' : Int), Told 3 X s ∧ SkOk (B + 30000) c' key' cnt' ∧ run T (n + 4) 30 [SK c key cnt, .int 3, .int (d : Nat), .int 40] = .ret false (.tuple [X, .str s]) [SK c' key' cnt'] := by
  obtain ⟨m, c1, k1, n1, m1, m2, s1, S0⟩ := door_many n h hB 3 (d : Nat)
  obtain ⟨v2, c2, k2, n2, h2, s2, t2⟩ := draw_ok (n + 2) s1 (by omega) (many := 2) (by decide) (by decide)
  obtain ⟨f, hf, j, hj1, hj2⟩ := two v2 1 d h2
  obtain ⟨v3, c3, k3, n3, h3, s3, t3⟩ := draw_ok (n + 2) s2 (by omega) (many := 3) (by decide) (by decide)
  obtain ⟨w, hw0, hw1, hw2, i, hi1, hi2⟩ := three v3 2 5 51 h3 (by decide) (by decide) (by decide)
  obtain ⟨v4, c4, k4, n4, h4, s4, t4⟩ := draw_ok (n + 2) s3 (by omega) (many := w) (by omega) (by omega)
  obtain ⟨a, c5, k5, n5, ha, hn5, s5, t5⟩ := rows_draw n s4 (by omega) (m := v4) (w := m) (d := f) (by omega) (by omega) (by omega) (by omega)
  obtain ⟨v6, c6, k6, n6, h6, s6, t6⟩ := draw_ok (n + 2) s5 (by omega) (many := 3) (by decide) (by decide)
  obtain ⟨u, hu0, hu1, hu2, q, hq1, hq2⟩ := three v6 1 4 50 h6 (by decide) (by decide) (by decide)
  obtain ⟨v7, c7, k7, n7, h7, s7, t7⟩ := draw_ok (n + 2) s6 (by omega) (many := u) (by omega) (by omega)
  obtain ⟨b, c8, k8, n8, hb, hn8, s8, t8⟩ := rows_draw n s7 (by omega) (m := 1 + v7) (w := m) (d := f) (by omega) (by omega) (by omega) (by omega)
  have R1 := said_rows_ok (n + 2) ha
  have R2 := said_rows_ok (n + 2) hb
  have nb : ¬ b = [] := by
    intro y
    rw [y] at hn8
    simp at hn8
    omega
  rw [if_neg nb] at R2
  refine ⟨.tuple [RS a, RS b], leafS a b, c8, k8, n8, ⟨(leaf_fit ha hb).mono (by omega), fun n nm => shown3 n nm (show_leaves_ok n ha hb)⟩, s8.le (by omega), ?_⟩
  have l2 : lenOk 2 = true := rfl
  have l3 : lenOk 3 = true := rfl
  have e3 : ((3 : Nat) : Int) = 3 := rfl
  have f1 : ((1 : Nat) : Int) = 1 := rfl
  have f2 : ((2 : Nat) : Int) = 2 := rfl
  have f4 : ((4 : Nat) : Int) = 4 := rfl
  have f5 : ((5 : Nat) : Int) = 5 := rfl
  have f50 : ((50 : Nat) : Int) = 50 := rfl
  have f51 : ((51 : Nat) : Int) = 51 := rfl
  have e7 : ((1 + v7 : Nat) : Int) = 1 + (v7 : Int) := by omega
  rw [f1] at hj2
  rw [f2, f5, f51] at hi2
  rw [f1, f4, f50] at hq2
  rw [f2] at t2
  rw [e3] at t3 t6
  rw [e7] at t8
  have S1 : exS T.io (run T (n + 3)) [0] (.par [9, 10] (.cons (.idx (.lst (.cons (.lit (.int 1)) (.cons (.var 2) .nil))) (.callP 11 (.cons (.var 0) (.cons (.lit (.int 2)) .nil)))) (.cons (.callP 11 (.cons (.var 0) (.cons (.idx (.lst (.cons (.lit (.int 2)) (.cons (.lit (.int 5)) (.cons (.lit (.int 51)) .nil)))) (.callP 11 (.cons (.var 0) (.cons (.lit (.int 3)) .nil)))) .nil))) .nil))) [some (true, SK c1 k1 n1), some (false, .int 3), some (false, .int (d : Nat)), some (false, .int 40), some (false, .int (m : Nat)), none, none, none, none, none, none, none] = .nx [some (true, SK c4 k4 n4), some (false, .int 3), some (false, .int (d : Nat)), some (false, .int 40), some (false, .int (m : Nat)), none, none, none, none, some (false, .int (f : Nat)), some (false, .int (v4 : Nat)), none] := by
    generalize (d : Int) = dx at *
    generalize (m : Int) = mx at *
    generalize (w : Int) = wx at *
    generalize (f : Int) = fx at *
    generalize (v2 : Int) = x2 at *
    generalize (v3 : Int) = x3 at *
    generalize (v4 : Int) = x4 at *
    simp [startE, exSs, exS, evE, evEs, evS, evT, ioIx, finF, ioOut, dat, slotD, stoV, stoVs, asgT_nm, asgT_tp, asgTs_nil, asgTs_cons, keepV, keepVs, dats, binD, cmpD, idxD, isiD, isiE, isiOk, tyName, callE, callP, ownIx, permR, ioSl, lent, setIo, ownS, trimE, augD, oLst, chgL, setD, wipeE, backE, plainAt, endR, isSkip, slcD, biD, eqOk, SeqAt.shaped, PyData.canLay0, PyData.canLayAll0, PyData.depth, PyData.depthAll, PyData.eqv, PyData.eqvAll, indexD, bitlD, isBD, revD, popD, oMut, setO, augG, kOk, zipD, t2, l2, l3, hj1, hj2, t3, hi1, hi2, t4]
  have S2 : exS T.io (run T (n + 3)) [0] (.asg (.nm 6) (.callP 19 (.cons (.var 0) (.cons (.var 10) (.cons (.var 4) (.cons (.var 9) .nil)))))) [some (true, SK c4 k4 n4), some (false, .int 3), some (false, .int (d : Nat)), some (false, .int 40), some (false, .int (m : Nat)), none, none, none, none, some (false, .int (f : Nat)), some (false, .int (v4 : Nat)), none] = .nx [some (true, SK c5 k5 n5), some (false, .int 3), some (false, .int (d : Nat)), some (false, .int 40), some (false, .int (m : Nat)), none, some (false, RS a), none, none, some (false, .int (f : Nat)), some (false, .int (v4 : Nat)), none] := by
    generalize RS a = X at *
    generalize (d : Int) = dx at *
    generalize (m : Int) = mx at *
    generalize (f : Int) = fx at *
    generalize (v4 : Int) = x4 at *
    simp [startE, exSs, exS, evE, evEs, evS, evT, ioIx, finF, ioOut, dat, slotD, stoV, stoVs, asgT_nm, asgT_tp, asgTs_nil, asgTs_cons, keepV, keepVs, dats, binD, cmpD, idxD, isiD, isiE, isiOk, tyName, callE, callP, ownIx, permR, ioSl, lent, setIo, ownS, trimE, augD, oLst, chgL, setD, wipeE, backE, plainAt, endR, isSkip, slcD, biD, eqOk, SeqAt.shaped, PyData.canLay0, PyData.canLayAll0, PyData.depth, PyData.depthAll, PyData.eqv, PyData.eqvAll, indexD, bitlD, isBD, revD, popD, oMut, setO, augG, kOk, zipD, t5]
  have S3 : exS T.io (run T (n + 3)) [0] (.asg (.nm 5) (.tup (.cons (.var 6) (.cons (.callP 19 (.cons (.var 0) (.cons (.bin .add (.lit (.int 1)) (.callP 11 (.cons (.var 0) (.cons (.idx (.lst (.cons (.lit (.int 1)) (.cons (.lit (.int 4)) (.cons (.lit (.int 50)) .nil)))) (.callP 11 (.cons (.var 0) (.cons (.lit (.int 3)) .nil)))) .nil)))) (.cons (.var 4) (.cons (.var 9) .nil))))) .nil)))) [some (true, SK c5 k5 n5), some (false, .int 3), some (false, .int (d : Nat)), some (false, .int 40), some (false, .int (m : Nat)), none, some (false, RS a), none, none, some (false, .int (f : Nat)), some (false, .int (v4 : Nat)), none] = .nx [some (true, SK c8 k8 n8), some (false, .int 3), some (false, .int (d : Nat)), some (false, .int 40), some (false, .int (m : Nat)), some (false, .tuple [RS a, RS b]), some (false, RS a), none, none, some (false, .int (f : Nat)), some (false, .int (v4 : Nat)), none] := by
    generalize RS a = X at *
    generalize RS b = Y at *
    generalize (d : Int) = dx at *
    generalize (m : Int) = mx at *
    generalize (f : Int) = fx at *
    generalize (u : Int) = ux at *
    generalize (v4 : Int) = x4 at *
    generalize (v6 : Int) = x6 at *
    generalize (v7 : Int) = x7 at *
    simp [startE, exSs, exS, evE, evEs, evS, evT, ioIx, finF, ioOut, dat, slotD, stoV, stoVs, asgT_nm, asgT_tp, asgTs_nil, asgTs_cons, keepV, keepVs, dats, binD, cmpD, idxD, isiD, isiE, isiOk, tyName, callE, callP, ownIx, permR, ioSl, lent, setIo, ownS, trimE, augD, oLst, chgL, setD, wipeE, backE, plainAt, endR, isSkip, slcD, biD, eqOk, SeqAt.shaped, PyData.canLay0, PyData.canLayAll0, PyData.depth, PyData.depthAll, PyData.eqv, PyData.eqvAll, indexD, bitlD, isBD, revD, popD, oMut, setO, augG, kOk, zipD, t6, l3, hq1, hq2, t7, t8, l2]
  have i0 : idxD (.tuple [RS a, RS b]) (.int 0) = some (.val (RS a)) := rfl
  have i1 : idxD (.tuple [RS a, RS b]) (.int 1) = some (.val (RS b)) := rfl
  have C1 : evE T.io (run T (n + 3)) [0] (.callP 26 (.cons (.idx (.var 5) (.lit (.int 0))) .nil)) [some (true, SK c8 k8 n8), some (false, .int 3), some (false, .int (d : Nat)), some (false, .int 40), some (false, .int (m : Nat)), some (false, .tuple [RS a, RS b]), some (false, RS a), none, none, some (false, .int (f : Nat)), some (false, .int (v4 : Nat)), none] = .ok (.val (.str (if a = [] then Str.ofString "-" else rowsS a))) [some (true, SK c8 k8 n8), some (false, .int 3), some (false, .int (d : Nat)), some (false, .int 40), some (false, .int (m : Nat)), some (false, .tuple [RS a, RS b]), some (false, RS a), none, none, some (false, .int (f : Nat)), some (false, .int (v4 : Nat)), none] := by
    refine ev_call (rs := [.val (RS a)]) (ev_es (ev_idx (ev_var rfl) ev_lit rfl rfl i0) ev_es0) ?_
    generalize RS a = X at *
    generalize RS b = Y at *
    generalize (if a = [] then Str.ofString "-" else rowsS a) = s at *
    simp [startE, exSs, exS, evE, evEs, evS, evT, ioIx, finF, ioOut, dat, slotD, stoV, stoVs, asgT_nm, asgT_tp, asgTs_nil, asgTs_cons, keepV, keepVs, dats, binD, cmpD, idxD, isiD, isiE, isiOk, tyName, callE, callP, ownIx, permR, ioSl, lent, setIo, ownS, trimE, augD, oLst, chgL, setD, wipeE, backE, plainAt, endR, isSkip, slcD, biD, eqOk, SeqAt.shaped, PyData.canLay0, PyData.canLayAll0, PyData.depth, PyData.depthAll, PyData.eqv, PyData.eqvAll, indexD, bitlD, isBD, revD, popD, oMut, setO, augG, kOk, zipD, R1]
  have C2 : evE T.io (run T (n + 3)) [0] (.callP 26 (.cons (.idx (.var 5) (.lit (.int 1))) .nil)) [some (true, SK c8 k8 n8), some (false, .int 3), some (false, .int (d : Nat)), some (false, .int 40), some (false, .int (m : Nat)), some (false, .tuple [RS a, RS b]), some (false, RS a), none, none, some (false, .int (f : Nat)), some (false, .int (v4 : Nat)), none] = .ok (.val (.str (rowsS b))) [some (true, SK c8 k8 n8), some (false, .int 3), some (false, .int (d : Nat)), some (false, .int 40), some (false, .int (m : Nat)), some (false, .tuple [RS a, RS b]), some (false, RS a), none, none, some (false, .int (f : Nat)), some (false, .int (v4 : Nat)), none] := by
    refine ev_call (rs := [.val (RS b)]) (ev_es (ev_idx (ev_var rfl) ev_lit rfl rfl i1) ev_es0) ?_
    generalize RS a = X at *
    generalize RS b = Y at *
    generalize rowsS b = s at *
    simp [startE, exSs, exS, evE, evEs, evS, evT, ioIx, finF, ioOut, dat, slotD, stoV, stoVs, asgT_nm, asgT_tp, asgTs_nil, asgTs_cons, keepV, keepVs, dats, binD, cmpD, idxD, isiD, isiE, isiOk, tyName, callE, callP, ownIx, permR, ioSl, lent, setIo, ownS, trimE, augD, oLst, chgL, setD, wipeE, backE, plainAt, endR, isSkip, slcD, biD, eqOk, SeqAt.shaped, PyData.canLay0, PyData.canLayAll0, PyData.depth, PyData.depthAll, PyData.eqv, PyData.eqvAll, indexD, bitlD, isBD, revD, popD, oMut, setO, augG, kOk, zipD, R2]
  have g1 := (half_fit ha).le
  have g2 := (rows_fit hb).le
  have g3 : (Str.ofString " | ").length ≤ 3 := (fit_e " | " (n := 3) (by decide)).le
  have H : evE T.io (run T (n + 3)) [0] (.bin .add (.bin .add (.callP 26 (.cons (.idx (.var 5) (.lit (.int 0))) .nil)) (.lit (.str (Str.ofString " | ")))) (.callP 26 (.cons (.idx (.var 5) (.lit (.int 1))) .nil))) [some (true, SK c8 k8 n8), some (false, .int 3), some (false, .int (d : Nat)), some (false, .int 40), some (false, .int (m : Nat)), some (false, .tuple [RS a, RS b]), some (false, RS a), none, none, some (false, .int (f : Nat)), some (false, .int (v4 : Nat)), none] = .ok (.val (.str (leafS a b))) [some (true, SK c8 k8 n8), some (false, .int 3), some (false, .int (d : Nat)), some (false, .int 40), some (false, .int (m : Nat)), some (false, .tuple [RS a, RS b]), some (false, RS a), none, none, some (false, .int (f : Nat)), some (false, .int (v4 : Nat)), none] :=
    ev_cat (ev_cat C1 ev_lit (by omega)) C2 (by rw [Str.length_append]; omega)
  have E : exSs T.io (run T (n + 3)) [0] c30 [some (true, SK c key cnt), some (false, .int 3), some (false, .int (d : Nat)), some (false, .int 40), none, none, none, none, none, none, none, none] = .ret (.val (.tuple [.tuple [RS a, RS b], .str (leafS a b)])) [some (true, SK c8 k8 n8), some (false, .int 3), some (false, .int (d : Nat)), some (false, .int 40), some (false, .int (m : Nat)), some (false, .tuple [RS a, RS b]), some (false, RS a), none, none, some (false, .int (f : Nat)), some (false, .int (v4 : Nat)), none] :=
    seq_go S0 (if_skip rfl rfl (if_skip rfl rfl (if_skip rfl rfl (if_take rfl (seq_go S1 (seq_go S2 (seq_go S3 (seq_end (exs_ret (ev_tup (ds := [.tuple [RS a, RS b], .str (leafS a b)]) (ev_es (ev_var rfl) (ev_es H ev_es0)) rfl rfl))))))))))
  rw [run_of (io := [true, false, false, false]) (m := 12) (b := c30) rfl rfl (by decide)]
  exact (congrArg (finF [0]) E).trans rfl
end LW
set_option maxRecDepth 100000
set_option autoImplicit false
set_option maxHeartbeats 2000000
set_option exponentiation.threshold 10000
namespace LW
open PySem PD
/-! ### the law -/
theorem door_k (n : Nat) {B : Nat} {c key cnt : Int} (h : SkOk B c key cnt) (hB : B ≤ 60000000) {d : Nat} (d1 : 2 ≤ d) (d60 : d ≤ 60) {k : Nat} (h1 : 1 ≤ k) (h7 : k < 7) : ∃ (X : PyData) (s : Str) (c' key' cnt' : Int), Told (k : Nat) X s ∧ SkOk (B + 30000) c' key' cnt' ∧ run T (n + 4) 30 [SK c key cnt, .int (k : Nat), .int (d : Nat), .int 40] = .ret false (.tuple [X, .str s]) [SK c' key' cnt'] := by
  rcases (show k = 1 ∨ k = 2 ∨ k = 3 ∨ k = 4 ∨ k = 5 ∨ k = 6 by omega) with rfl | rfl | rfl | rfl | rfl | rfl
  · exact door1 n h hB d1 d60
  · exact door2 n h hB d1 d60
  · exact door3 n h hB d1 d60
  · exact door4 n h hB d1 d60
  · exact door5 n h hB d1 d60
  · exact door6 n h hB d1 d60
theorem told_num {p : Nat × Nat} (h : Bg p) : Told 0 (NN p) (numP p) :=
  ⟨(numP_fit h).mono (by omega), fun n nm => shown0 n nm (show_num (n + 1) h.bi)⟩
theorem bi_neg {p : Nat × Nat} (h : Bg p) (h0 : 0 < p.1) : BI (0 - (p.1 : Int)) p.2 := by
  refine ⟨?_, ?_, h.b⟩
  · have := h.a
    omega
  · rw [ti_neg h0]
    exact ((fit_e "-" (n := 1) (by decide)).app (fit_ti h.a)).mono (by omega)
theorem num_neg {p : Nat × Nat} (h0 : 0 < p.1) : numI (0 - (p.1 : Int)) p.2 = Str.ofString "-" ++ numP p := by
  unfold numP numI
  rw [ti_neg h0]
  split
  · rfl
  · rw [Str.append_assoc, Str.append_assoc, Str.append_assoc]
theorem told_neg {p : Nat × Nat} (h : Bg p) (h0 : 0 < p.1) : Told 0 (NI (0 - (p.1 : Int)) p.2) (Str.ofString "-" ++ numP p) := by
  rw [← num_neg h0]
  exact ⟨(num_fit (bi_neg h h0)).mono (by omega), fun n nm => shown0 n nm (show_num (n + 1) (bi_neg h h0))⟩
/-- a row that the law keeps -/
structure Row where
  k : Nat
  X : PyData
  s : Str
def RowD (r : Row) : PyData := .tuple [.int (r.k : Nat), r.X, .str r.s]
def RowOk (r : Row) : Prop := Told (r.k : Nat) r.X r.s
theorem tail_ok (n : Nat) {B : Nat} {c key cnt : Int} (h : SkOk B c key cnt) (hB : B ≤ 60000000) {k : Nat} {X : PyData} {s : Str} (hT : Told (k : Nat) X s) {rs : List PyData} (hr : rs.length ≤ 1000) (a0 a2 : Option (Bool × PyData)) : ∃ (c' key' cnt' : Int), SkOk (B + 1) c' key' cnt' ∧
    exSs T.io (run T (n + 4)) [] (.cons (.ife (.not (.callP 12 (.cons (.callP 31 (.cons (.var 4) (.cons (.var 5) (.cons (.cmp .eq (.callP 11 (.cons (.var 3) (.cons (.lit (.int 2)) .nil))) (.lit (.int 0))) .nil)))) (.cons (.var 6) .nil)))) (.cons (.ret (.lit (.bool false))) .nil) .nil) (.cons (.app 1 (.tup (.cons (.var 4) (.cons (.var 5) (.cons (.var 6) .nil))))) .nil)) [a0, some (true, .list rs), a2, some (true, SK c key cnt), some (false, .int (k : Nat)), some (false, X), some (false, .str s)] = .nx [a0, some (true, .list (rs ++ [.tuple [.int (k : Nat), X, .str s]])), a2, some (true, SK c' key' cnt'), some (false, .int (k : Nat)), some (false, X), some (false, .str s)] := by
  obtain ⟨v, c1, k1, n1, h1, s1, t1⟩ := draw_ok (n + 3) h (by omega) (many := 2) (by decide) (by decide)
  refine ⟨c1, k1, n1, s1, ?_⟩
  have R := hT.run (n + 1) ((v : Int) == 0)
  have SM : run T (n + 4) 12 [.str s, .str s] = .ret false (.bool true) [] := same_str (n + 3) hT.fit.ok
  have e2 : ((2 : Nat) : Int) = 2 := rfl
  have l3 : lenOk 3 = true := rfl
  have la : lenOk (rs.length + 1) = true := decide_eq_true (by omega)
  rw [e2] at t1
  generalize (v : Int) = vx at *
  generalize (k : Int) = kx at *
  simp [startE, exSs, exS, evE, evEs, evS, evT, ioIx, finF, ioOut, dat, slotD, stoV, stoVs, asgT_nm, asgT_tp, asgTs_nil, asgTs_cons, keepV, keepVs, dats, binD, cmpD, idxD, isiD, isiE, isiOk, tyName, callE, callP, ownIx, permR, ioSl, lent, setIo, ownS, trimE, augD, oLst, chgL, setD, wipeE, backE, plainAt, endR, isSkip, slcD, biD, eqOk, SeqAt.shaped, PyData.canLay0, PyData.canLayAll0, PyData.depth, PyData.depthAll, PyData.eqv, PyData.eqvAll, indexD, bitlD, isBD, revD, popD, oMut, setO, augG, kOk, zipD, t1, R, SM, l3, la]
theorem turn_ok (n : Nat) {B : Nat} {c key cnt : Int} (h : SkOk B c key cnt) (hB : B ≤ 50000000) {k : Nat} (hk : k < 7) {rs : List PyData} (hr : rs.length ≤ 1000) (a0 a2 a5 a6 : Option (Bool × PyData)) : ∃ (X : PyData) (s : Str) (c' key' cnt' : Int), Told (k : Nat) X s ∧ SkOk (B + 30003) c' key' cnt' ∧
    exSs T.io (run T (n + 4)) [] c32_L2 [a0, some (true, .list rs), a2, some (true, SK c key cnt), some (false, .int (k : Nat)), a5, a6] = .nx [a0, some (true, .list (rs ++ [.tuple [.int (k : Nat), X, .str s]])), a2, some (true, SK c' key' cnt'), some (false, .int (k : Nat)), some (false, X), some (false, .str s)] := by
  obtain ⟨v, c1, k1, n1, h1, s1, t1⟩ := draw_ok (n + 3) h (by omega) (many := 3) (by decide) (by decide)
  obtain ⟨d, hd0, hd1, hd2, j, hj1, hj2⟩ := three v 30 30 60 h1 (by decide) (by decide) (by decide)
  have l2 : lenOk 2 = true := rfl
  have l3 : lenOk 3 = true := rfl
  have e3 : ((3 : Nat) : Int) = 3 := rfl
  have f30 : ((30 : Nat) : Int) = 30 := rfl
  have f60 : ((60 : Nat) : Int) = 60 := rfl
  rw [e3] at t1
  rw [f30, f60] at hj2
  by_cases hk0 : k = 0
  · subst hk0
    obtain ⟨p, c2, k2, n2, bp, s2, t2⟩ := door0 n s1 (by omega) (d := d) (by omega) (by omega)
    have S0 : exS T.io (run T (n + 4)) [] (.asg (.tp [(.nm 5), (.nm 6)]) (.callP 30 (.cons (.var 3) (.cons (.var 4) (.cons (.idx (.lst (.cons (.lit (.int 30)) (.cons (.lit (.int 30)) (.cons (.lit (.int 60)) .nil)))) (.callP 11 (.cons (.var 3) (.cons (.lit (.int 3)) .nil)))) (.cons (.lit (.int 40)) .nil)))))) [a0, some (true, .list rs), a2, some (true, SK c key cnt), some (false, .int 0), a5, a6] = .nx [a0, some (true, .list rs), a2, some (true, SK c2 k2 n2), some (false, .int 0), some (false, NN p), some (false, .str (numP p))] := by
      generalize NN p = X at *
      generalize numP p = s at *
      generalize (v : Int) = vx at *
      generalize (d : Int) = dx at *
      simp [startE, exSs, exS, evE, evEs, evS, evT, ioIx, finF, ioOut, dat, slotD, stoV, stoVs, asgT_nm, asgT_tp, asgTs_nil, asgTs_cons, keepV, keepVs, dats, binD, cmpD, idxD, isiD, isiE, isiOk, tyName, callE, callP, ownIx, permR, ioSl, lent, setIo, ownS, trimE, augD, oLst, chgL, setD, wipeE, backE, plainAt, endR, isSkip, slcD, biD, eqOk, SeqAt.shaped, PyData.canLay0, PyData.canLayAll0, PyData.depth, PyData.depthAll, PyData.eqv, PyData.eqvAll, indexD, bitlD, isBD, revD, popD, oMut, setO, augG, kOk, zipD, t1, l3, hj1, hj2, t2]
    have i0 : ixD 2 0 = some 0 := rfl
    have i1 : ixD 2 1 = some 1 := rfl
    by_cases hp : 0 < p.1
    · obtain ⟨v3, c3, k3, n3, h3, s3, t3⟩ := draw_ok (n + 3) s2 (by omega) (many := 3) (by decide) (by decide)
      rw [e3] at t3
      have hp' : (0 : Int) < (p.1 : Nat) := by omega
      by_cases z : v3 = 0
      · subst z
        obtain ⟨c4, k4, n4, s4, E⟩ := tail_ok n s3 (by omega) (k := 0) (told_neg bp hp) hr (a0 := a0) (a2 := a2)
        refine ⟨_, _, c4, k4, n4, told_neg bp hp, s4.le (by omega), seq_go S0 (seq_go ?_ E)⟩
        have fl := (numP_fit bp).le
        have f3 : (Str.ofString "-").length ≤ 1 := (fit_e "-" (n := 1) (by decide)).le
        have lo : lenOk ((Str.ofString "-").length + (numP p).length) = true := decide_eq_true (by omega)
        have bb : ∀ a b : Str, lenOk (a.length + b.length) = true → binD .add (.str a) (.str b) = some (.val (.str (a ++ b))) := fun a b y => by simp only [binD, y, if_true]
        have bx := bb _ _ lo
        unfold NN NI
        generalize (p.1 : Int) = p1 at *
        generalize (p.2 : Int) = p2 at *
        generalize numP p = s at *
        generalize hq : Str.ofString "-" = q at *
        simp [startE, exSs, exS, evE, evEs, evS, evT, ioIx, finF, ioOut, dat, slotD, stoV, stoVs, asgT_nm, asgT_tp, asgTs_nil, asgTs_cons, keepV, keepVs, dats, binD, cmpD, idxD, isiD, isiE, isiOk, tyName, callE, callP, ownIx, permR, ioSl, lent, setIo, ownS, trimE, augD, oLst, chgL, setD, wipeE, backE, plainAt, endR, isSkip, slcD, biD, eqOk, SeqAt.shaped, PyData.canLay0, PyData.canLayAll0, PyData.depth, PyData.depthAll, PyData.eqv, PyData.eqvAll, indexD, bitlD, isBD, revD, popD, oMut, setO, augG, kOk, zipD, t3, l2, hp', lo, i0, i1]
      · have z' : ((v3 : Int) == 0) = false := by simp; omega
        obtain ⟨c4, k4, n4, s4, E⟩ := tail_ok n s3 (by omega) (k := 0) (told_num bp) hr (a0 := a0) (a2 := a2)
        refine ⟨_, _, c4, k4, n4, told_num bp, s4.le (by omega), seq_go S0 (seq_go ?_ E)⟩
        unfold NN
        generalize (p.1 : Int) = p1 at *
        generalize (p.2 : Int) = p2 at *
        generalize numP p = s at *
        generalize (v3 : Int) = x3 at *
        simp [startE, exSs, exS, evE, evEs, evS, evT, ioIx, finF, ioOut, dat, slotD, stoV, stoVs, asgT_nm, asgT_tp, asgTs_nil, asgTs_cons, keepV, keepVs, dats, binD, cmpD, idxD, isiD, isiE, isiOk, tyName, callE, callP, ownIx, permR, ioSl, lent, setIo, ownS, trimE, augD, oLst, chgL, setD, wipeE, backE, plainAt, endR, isSkip, slcD, biD, eqOk, SeqAt.shaped, PyData.canLay0, PyData.canLayAll0, PyData.depth, PyData.depthAll, PyData.eqv, PyData.eqvAll, indexD, bitlD, isBD, revD, popD, oMut, setO, augG, kOk, zipD, t3, l2, hp', z', i0, i1]
    · have hp' : ¬ (0 : Int) < (p.1 : Nat) := by omega
      obtain ⟨c4, k4, n4, s4, E⟩ := tail_ok n s2 (by omega) (k := 0) (told_num bp) hr (a0 := a0) (a2 := a2)
      refine ⟨_, _, c4, k4, n4, told_num bp, s4.le (by omega), seq_go S0 (seq_go ?_ E)⟩
      unfold NN
      generalize (p.1 : Int) = p1 at *
      generalize (p.2 : Int) = p2 at *
      generalize numP p = s at *
      simp [startE, exSs, exS, evE, evEs, evS, evT, ioIx, finF, ioOut, dat, slotD, stoV, stoVs, asgT_nm, asgT_tp, asgTs_nil, asgTs_cons, keepV, keepVs, dats, binD, cmpD, idxD, isiD, isiE, isiOk, tyName, callE, callP, ownIx, permR, ioSl, lent, setIo, ownS, trimE, augD, oLst, chgL, setD, wipeE, backE, plainAt, endR, isSkip, slcD, biD, eqOk, SeqAt.shaped, PyData.canLay0, PyData.canLayAll0, PyData.depth, PyData.depthAll, PyData.eqv, PyData.eqvAll, indexD, bitlD, isBD, revD, popD, oMut, setO, augG, kOk, zipD, hp', i0, i1]
  · obtain ⟨X, s, c2, k2, n2, hT, s2, t2⟩ := door_k n s1 (by omega) (d := d) (by omega) (by omega) (k := k) (by omega) hk
    obtain ⟨c4, k4, n4, s4, E⟩ := tail_ok n s2 (by omega) (k := k) hT hr (a0 := a0) (a2 := a2)
    refine ⟨X, s, c4, k4, n4, hT, s4.le (by omega), seq_go (ρ1 := [a0, some (true, .list rs), a2, some (true, SK c2 k2 n2), some (false, .int (k : Nat)), some (false, X), some (false, .str s)]) ?_ (seq_go (ρ1 := [a0, some (true, .list rs), a2, some (true, SK c2 k2 n2), some (false, .int (k : Nat)), some (false, X), some (false, .str s)]) ?_ E)⟩
    · generalize (v : Int) = vx at *
      generalize (d : Int) = dx at *
      generalize (k : Int) = kx at *
      simp [startE, exSs, exS, evE, evEs, evS, evT, ioIx, finF, ioOut, dat, slotD, stoV, stoVs, asgT_nm, asgT_tp, asgTs_nil, asgTs_cons, keepV, keepVs, dats, binD, cmpD, idxD, isiD, isiE, isiOk, tyName, callE, callP, ownIx, permR, ioSl, lent, setIo, ownS, trimE, augD, oLst, chgL, setD, wipeE, backE, plainAt, endR, isSkip, slcD, biD, eqOk, SeqAt.shaped, PyData.canLay0, PyData.canLayAll0, PyData.depth, PyData.depthAll, PyData.eqv, PyData.eqvAll, indexD, bitlD, isBD, revD, popD, oMut, setO, augG, kOk, zipD, t1, l3, hj1, hj2, t2]
    · have z' : ((k : Int) == 0) = false := by simp; omega
      generalize (k : Int) = kx at *
      simp [startE, exSs, exS, evE, evEs, evS, evT, ioIx, finF, ioOut, dat, slotD, stoV, stoVs, asgT_nm, asgT_tp, asgTs_nil, asgTs_cons, keepV, keepVs, dats, binD, cmpD, idxD, isiD, isiE, isiOk, tyName, callE, callP, ownIx, permR, ioSl, lent, setIo, ownS, trimE, augD, oLst, chgL, setD, wipeE, backE, plainAt, endR, isSkip, slcD, biD, eqOk, SeqAt.shaped, PyData.canLay0, PyData.canLayAll0, PyData.depth, PyData.depthAll, PyData.eqv, PyData.eqvAll, indexD, bitlD, isBD, revD, popD, oMut, setO, augG, kOk, zipD, z']
theorem place_turn (n : Nat) (ns : List Int) (i : Nat) {l : List Row} (hl : l.length ≤ 7 * i) (hi : i ≤ 6) (ok : ∀ r ∈ l, RowOk r) (a3 a4 a5 a6 : Option (Bool × PyData)) : ∃ (l' : List Row) (x3 x4 x5 x6 : Option (Bool × PyData)), l'.length ≤ 7 * (i + 1) ∧ (∀ r ∈ l', RowOk r) ∧
    exSs T.io (run T (n + 4)) [] c32_L3 [some (false, .list (ns.map .int)), some (true, .list (l.map RowD)), some (false, .int (i : Nat)), a3, a4, a5, a6] = .nx [some (false, .list (ns.map .int)), some (true, .list (l'.map RowD)), some (false, .int (i : Nat)), x3, x4, x5, x6] := by
  obtain ⟨c, key, s0, W⟩ := well_ok (n + 3) ns i
  obtain ⟨ρ', e, c2, k2, n2, l', x4, x5, x6, g1, g2, s2, e2⟩ := for_inv (lk := []) (t := .nm 4) (b := exSs T.io (run T (n + 4)) [] c32_L2) (ds := rngD 0 ((7 : Nat) : Int)) (ρ := [some (false, .list (ns.map .int)), some (true, .list (l.map RowD)), some (false, .int (i : Nat)), some (true, SK c key 0), a4, a5, a6])
    (fun j ρ => ∃ (c2 k2 n2 : Int) (l' : List Row) (x4 x5 x6 : Option (Bool × PyData)), l'.length ≤ 7 * i + j ∧ (∀ r ∈ l', RowOk r) ∧ SkOk (0 + 30003 * j) c2 k2 n2 ∧ ρ = [some (false, .list (ns.map .int)), some (true, .list (l'.map RowD)), some (false, .int (i : Nat)), some (true, SK c2 k2 n2), x4, x5, x6]) ⟨c, key, 0, l, a4, a5, a6, hl, ok, s0, rfl⟩ fun j d ρ hd hI => by
    obtain ⟨c2, k2, n2, l', x4, x5, x6, g1, g2, s2, rfl⟩ := hI
    obtain ⟨hj, rfl⟩ := rngD_at hd
    obtain ⟨X, s, c3, k3, n3, hT, s3, D⟩ := turn_ok n s2 (by omega) (k := j) hj (rs := l'.map RowD) (by simp; omega) (a0 := some (false, .list (ns.map .int))) (a2 := some (false, .int (i : Nat))) (a5 := x5) (a6 := x6)
    refine ⟨_, by simp [startE, exSs, exS, evE, evEs, evS, evT, ioIx, finF, ioOut, dat, slotD, stoV, stoVs, asgT_nm, asgT_tp, asgTs_nil, asgTs_cons, keepV, keepVs, dats, binD, cmpD, idxD, isiD, isiE, isiOk, tyName, callE, callP, ownIx, permR, ioSl, lent, setIo, ownS, trimE, augD, oLst, chgL, setD, wipeE, backE, plainAt, endR, isSkip, slcD, biD, ixD, L2.ixN, eqOk, SeqAt.shaped, PyData.canLay0, PyData.canLayAll0, PyData.depth, PyData.depthAll, PyData.eqv, PyData.eqvAll, indexD, bitlD, isBD, revD, popD, oMut, setO, augG, kOk, zipD], _, D, c3, k3, n3, l' ++ [⟨j, X, s⟩], some (false, .int (j : Nat)), some (false, X), some (false, .str s), by simp; omega, fun r hr => ?_, s3.le (by omega), ?_⟩
    · rcases List.mem_append.mp hr with hr | hr
      · exact g2 r hr
      · have := List.mem_singleton.mp hr; subst this; exact hT
    · rw [List.map_append]
      rfl
  rw [rngD_len, show (((7 : Nat) : Int) - 0).toNat = 7 from rfl] at g1
  refine ⟨l', some (true, SK c2 k2 n2), x4, x5, x6, by omega, g2, ?_⟩
  rw [e2] at e
  have r7 : rngOk 7 = true := rfl
  have e7 : ((7 : Nat) : Int) = 7 := rfl
  rw [e7] at e
  generalize ns.map PyData.int = NS at *
  generalize l.map RowD = Y at *
  generalize l'.map RowD = Z at *
  generalize (i : Int) = ii at *
  simp [startE, exSs, exS, evE, evEs, evS, evT, ioIx, finF, ioOut, dat, slotD, stoV, stoVs, asgT_nm, asgT_tp, asgTs_nil, asgTs_cons, keepV, keepVs, dats, binD, cmpD, idxD, isiD, isiE, isiOk, tyName, callE, callP, ownIx, permR, ioSl, lent, setIo, ownS, trimE, augD, oLst, chgL, setD, wipeE, backE, plainAt, endR, isSkip, slcD, biD, eqOk, SeqAt.shaped, PyData.canLay0, PyData.canLayAll0, PyData.depth, PyData.depthAll, PyData.eqv, PyData.eqvAll, indexD, bitlD, isBD, revD, popD, oMut, setO, augG, kOk, zipD, c32_L3, W, r7, e]
theorem again_ok (n : Nat) {r : Row} (ok : RowOk r) (a0 a1 a2 a3 : Option (Bool × PyData)) : exSs T.io (run T (n + 4)) [] c32_L1 [a0, a1, a2, a3, some (false, .int (r.k : Nat)), some (false, r.X), some (false, .str r.s)] = .nx [a0, a1, a2, a3, some (false, .int (r.k : Nat)), some (false, r.X), some (false, .str r.s)] := by
  obtain ⟨k, X, s⟩ := r
  have hT : Told (k : Nat) X s := ok
  have R := hT.run (n + 1) (decide ((s.length : Int) < 9))
  have SM : run T (n + 4) 12 [.str s, .str s] = .ret false (.bool true) [] := same_str (n + 3) hT.fit.ok
  have ls : lenOk s.length = true := decide_eq_true (by have := hT.fit.le; omega)
  have HB : evE T.io (run T (n + 4)) [] (.cmp .lt (.bi .len (.cons (.var 6) .nil)) (.lit (.int 9))) [a0, a1, a2, a3, some (false, .int (k : Nat)), some (false, X), some (false, .str s)] = .ok (.val (.bool (decide ((s.length : Int) < 9)))) [a0, a1, a2, a3, some (false, .int (k : Nat)), some (false, X), some (false, .str s)] :=
    ev_cmp (ev_bi1 (d := .str s) (r := .val (.int (s.length : Nat))) (ev_var rfl) rfl (by simp only [biD, ls, if_true])) ev_lit rfl rfl rfl
  have C : evE T.io (run T (n + 4)) [] (.callP 31 (.cons (.var 4) (.cons (.var 5) (.cons (.cmp .lt (.bi .len (.cons (.var 6) .nil)) (.lit (.int 9))) .nil)))) [a0, a1, a2, a3, some (false, .int (k : Nat)), some (false, X), some (false, .str s)] = .ok (.val (.str s)) [a0, a1, a2, a3, some (false, .int (k : Nat)), some (false, X), some (false, .str s)] := by
    refine ev_call (rs := [.val (.int (k : Nat)), .val X, .val (.bool (decide ((s.length : Int) < 9)))]) (ev_es (ev_var rfl) (ev_es (ev_var rfl) (ev_es HB ev_es0))) ?_
    generalize decide ((s.length : Int) < 9) = b at *
    generalize (k : Int) = kx at *
    simp [startE, exSs, exS, evE, evEs, evS, evT, ioIx, finF, ioOut, dat, slotD, stoV, stoVs, asgT_nm, asgT_tp, asgTs_nil, asgTs_cons, keepV, keepVs, dats, binD, cmpD, idxD, isiD, isiE, isiOk, tyName, callE, callP, ownIx, permR, ioSl, lent, setIo, ownS, trimE, augD, oLst, chgL, setD, wipeE, backE, plainAt, endR, isSkip, slcD, biD, eqOk, SeqAt.shaped, PyData.canLay0, PyData.canLayAll0, PyData.depth, PyData.depthAll, PyData.eqv, PyData.eqvAll, indexD, bitlD, isBD, revD, popD, oMut, setO, augG, kOk, zipD, R]
  have C2 : evE T.io (run T (n + 4)) [] (.callP 12 (.cons (.callP 31 (.cons (.var 4) (.cons (.var 5) (.cons (.cmp .lt (.bi .len (.cons (.var 6) .nil)) (.lit (.int 9))) .nil)))) (.cons (.var 6) .nil))) [a0, a1, a2, a3, some (false, .int (k : Nat)), some (false, X), some (false, .str s)] = .ok (.val (.bool true)) [a0, a1, a2, a3, some (false, .int (k : Nat)), some (false, X), some (false, .str s)] := by
    refine ev_call (rs := [.val (.str s), .val (.str s)]) (ev_es C (ev_es (ev_var rfl) ev_es0)) ?_
    generalize (k : Int) = kx at *
    simp [startE, exSs, exS, evE, evEs, evS, evT, ioIx, finF, ioOut, dat, slotD, stoV, stoVs, asgT_nm, asgT_tp, asgTs_nil, asgTs_cons, keepV, keepVs, dats, binD, cmpD, idxD, isiD, isiE, isiOk, tyName, callE, callP, ownIx, permR, ioSl, lent, setIo, ownS, trimE, augD, oLst, chgL, setD, wipeE, backE, plainAt, endR, isSkip, slcD, biD, eqOk, SeqAt.shaped, PyData.canLay0, PyData.canLayAll0, PyData.depth, PyData.depthAll, PyData.eqv, PyData.eqvAll, indexD, bitlD, isBD, revD, popD, oMut, setO, augG, kOk, zipD, SM]
  have S : exS T.io (run T (n + 4)) [] (.ife (.not (.callP 12 (.cons (.callP 31 (.cons (.var 4) (.cons (.var 5) (.cons (.cmp .lt (.bi .len (.cons (.var 6) .nil)) (.lit (.int 9))) .nil)))) (.cons (.var 6) .nil)))) (.cons (.ret (.lit (.bool false))) .nil) .nil) [a0, a1, a2, a3, some (false, .int (k : Nat)), some (false, X), some (false, .str s)] = .nx [a0, a1, a2, a3, some (false, .int (k : Nat)), some (false, X), some (false, .str s)] := by
    rw [exS, evT_of (ev_not C2)]
    simp [exSs]
  exact seq_go S (by simp only [exSs])
theorem law_true (ns : List Int) (hl : ns.length ≤ 63) : run T 60 32 [.list (ns.map .int)] = .ret false (.bool true) [] := by
  have hm : ∃ k : Nat, 1 ≤ k ∧ k ≤ 6 ∧ (if (if (ns.length : Int) < 6 then (ns.length : Int) else 6) > 1 then (if (ns.length : Int) < 6 then (ns.length : Int) else 6) else 1) = (k : Int) := by
    refine ⟨if (if ns.length < 6 then ns.length else 6) > 1 then (if ns.length < 6 then ns.length else 6) else 1, ?_, ?_, ?_⟩
    · split <;> split <;> omega
    · split <;> split <;> omega
    · split <;> split <;> split <;> split <;> omega
  obtain ⟨k, hk1, hk, e⟩ := hm
  obtain ⟨ρ', L, l, x2, x3, x4, x5, x6, g1, g2, e2⟩ := for_inv (lk := []) (t := .nm 2) (b := exSs T.io (run T 59) [] c32_L3) (ds := rngD 0 (k : Int)) (ρ := [some (false, .list (ns.map .int)), some (true, .list (([] : List Row).map RowD)), none, none, none, none, none])
      (fun i ρ => ∃ (l : List Row) (x2 x3 x4 x5 x6 : Option (Bool × PyData)), l.length ≤ 7 * i ∧ (∀ r ∈ l, RowOk r) ∧ ρ = [some (false, .list (ns.map .int)), some (true, .list (l.map RowD)), x2, x3, x4, x5, x6]) ⟨[], none, none, none, none, none, by simp, fun r hr => by simp at hr, rfl⟩ fun i d ρ hd hi => by
      obtain ⟨l, x2, x3, x4, x5, x6, g1, g2, rfl⟩ := hi
      obtain ⟨hlt, rfl⟩ := rngD_at hd
      obtain ⟨l', y3, y4, y5, y6, q1, q2, S⟩ := place_turn 55 ns i g1 (by omega) g2 (a3 := x3) (a4 := x4) (a5 := x5) (a6 := x6)
      exact ⟨_, by simp [startE, exSs, exS, evE, evEs, evS, evT, ioIx, finF, ioOut, dat, slotD, stoV, stoVs, asgT_nm, asgT_tp, asgTs_nil, asgTs_cons, keepV, keepVs, dats, binD, cmpD, idxD, isiD, isiE, isiOk, tyName, callE, callP, ownIx, permR, ioSl, lent, setIo, ownS, trimE, augD, oLst, chgL, setD, wipeE, backE, plainAt, endR, isSkip, slcD, biD, ixD, L2.ixN, eqOk, SeqAt.shaped, PyData.canLay0, PyData.canLayAll0, PyData.depth, PyData.depthAll, PyData.eqv, PyData.eqvAll, indexD, bitlD, isBD, revD, popD, oMut, setO, augG, kOk, zipD], _, S, l', some (false, .int (i : Nat)), y3, y4, y5, y6, q1, q2, rfl⟩
  subst e2
  obtain ⟨ρ2, L2, y4, y5, y6, e2⟩ := for_inv (lk := []) (t := .tp [.nm 4, .nm 5, .nm 6]) (b := exSs T.io (run T 59) [] c32_L1) (ds := (l.map RowD).reverse) (ρ := [some (false, .list (ns.map .int)), some (true, .list (l.map RowD)), x2, x3, x4, x5, x6])
      (fun i ρ => ∃ (y4 y5 y6 : Option (Bool × PyData)), ρ = [some (false, .list (ns.map .int)), some (true, .list (l.map RowD)), x2, x3, y4, y5, y6]) ⟨x4, x5, x6, rfl⟩ fun i d ρ hd hI => by
      obtain ⟨y4, y5, y6, rfl⟩ := hI
      have hd2 := List.mem_reverse.mp (List.mem_of_getElem? hd)
      obtain ⟨r, hr, rfl⟩ := List.mem_map.mp hd2
      have A := again_ok 55 (g2 r hr) (a0 := some (false, .list (ns.map .int))) (a1 := some (true, .list (l.map RowD))) (a2 := x2) (a3 := x3)
      refine ⟨_, ?_, _, A, _, _, _, rfl⟩
      unfold RowD
      generalize (l.map fun r => PyData.tuple [.int (r.k : Nat), r.X, .str r.s]) = Y
      generalize ns.map PyData.int = NS
      simp [startE, exSs, exS, evE, evEs, evS, evT, ioIx, finF, ioOut, dat, slotD, stoV, stoVs, asgT_nm, asgT_tp, asgTs_nil, asgTs_cons, keepV, keepVs, dats, binD, cmpD, idxD, isiD, isiE, isiOk, tyName, callE, callP, ownIx, permR, ioSl, lent, setIo, ownS, trimE, augD, oLst, chgL, setD, wipeE, backE, plainAt, endR, isSkip, slcD, biD, ixD, L2.ixN, eqOk, SeqAt.shaped, PyData.canLay0, PyData.canLayAll0, PyData.depth, PyData.depthAll, PyData.eqv, PyData.eqvAll, indexD, bitlD, isBD, revD, popD, oMut, setO, augG, kOk, zipD]
  subst e2
  have r1 : rngOk (k : Int) = true := rngOk_nat (by omega)
  have l0 : lenOk 0 = true := rfl
  have hlen : (ns.map PyData.int).length = ns.length := List.length_map ..
  rw [List.map_nil] at L
  rw [run_of (io := [false]) (m := 7) (b := c32) rfl rfl (by decide)]
  generalize ns.map PyData.int = NS at *
  generalize l.map RowD = Y at *
  simp [startE, exSs, exS, evE, evEs, evS, evT, ioIx, finF, ioOut, dat, slotD, stoV, stoVs, asgT_nm, asgT_tp, asgTs_nil, asgTs_cons, keepV, keepVs, dats, binD, cmpD, idxD, isiD, isiE, isiOk, tyName, callE, callP, ownIx, permR, ioSl, lent, setIo, ownS, trimE, augD, oLst, chgL, setD, wipeE, backE, plainAt, endR, isSkip, slcD, biD, eqOk, SeqAt.shaped, PyData.canLay0, PyData.canLayAll0, PyData.depth, PyData.depthAll, PyData.eqv, PyData.eqvAll, indexD, bitlD, isBD, revD, popD, oMut, setO, augG, kOk, zipD, c32, hlen, l0, e, r1, L, L2]
end LW
def LW.depth : Nat := 60
open PySem PySem.W PyProof.Rows
set_option maxRecDepth 100000 in
set_option maxHeartbeats 0 in
theorem PySem.Challenge.cw_tosstrees_k40_whole_texts_shown_holds : PySem.Challenge.rw_tosstrees_k40_whole_texts_shown.Holds := by
  w_on; o_law; k_head; (case hw => w_witness2)
  k_fill
  refine L2.walk_of (l := PySem.Challenge.rw_tosstrees_k40_whole_texts_shown) (n := 63) (k := LW.depth + 2) (x := "script") (CX := fun w => L2.CX PySem.Challenge.pw_tosstrees_k40_whole_texts_shown w) (sp := fun w => letI : PD.WW := ⟨w⟩; PD.spR _ LW.T LW.depth 32) rfl (by decide) rfl ⟨rfl, by decide, by decide⟩ (fun w h Y => PySem.W.kIn_of Y) ?F (fun w H a ns hl ho hs => letI : PD.WW := ⟨w⟩; PD.law_sp ho hs rfl (LW.law_true ns hl)) (fun w _ _ _ _ h => letI : PD.WW := ⟨w⟩; PD.cx_no h)
  case F =>
    intro w mg fa h KX G hmg
    letI : PD.WW := ⟨w⟩
    refine' PD.law_fd (x := "law") rfl (LW.facts KX G ?hA0 ?hL0 ?hC0 ?hK0 ?hA1 ?hL1 ?hC1 ?hK1 ?hA2 ?hL2 ?hC2 ?hK2 ?hA3 ?hL3 ?hC3 ?hK3 ?hA4 ?hL4 ?hC4 ?hK4 ?hA5 ?hL5 ?hC5 ?hK5 ?hA6 ?hL6 ?hC6 ?hK6 ?hA7 ?hL7 ?hC7 ?hK7 ?hA8 ?hL8 ?hC8 ?hK8 ?hA9 ?hL9 ?hC9 ?hK9 ?hA10 ?hL10 ?hC10 ?hK10 ?hA11 ?hL11 ?hC11 ?hK11 ?hA12 ?hL12 ?hC12 ?hK12 ?hA13 ?hL13 ?hC13 ?hK13 ?hA14 ?hL14 ?hC14 ?hK14 ?hA15 ?hL15 ?hC15 ?hK15 ?hA16 ?hL16 ?hC16 ?hK16 ?hA17 ?hL17 ?hC17 ?hK17 ?hA18 ?hL18 ?hC18 ?hK18 ?hA19 ?hL19 ?hC19 ?hK19 ?hA20 ?hL20 ?hC20 ?hK20 ?hA21 ?hL21 ?hC21 ?hK21 ?hA22 ?hL22 ?hC22 ?hK22 ?hA23 ?hL23 ?hC23 ?hK23 ?hA24 ?hL24 ?hC24 ?hK24 ?hA25 ?hL25 ?hC25 ?hK25 ?hA26 ?hL26 ?hC26 ?hK26 ?hA27 ?hL27 ?hC27 ?hK27 ?hA28 ?hL28 ?hC28 ?hK28 ?hA29 ?hL29 ?hC29 ?hK29 ?hA30 ?hL30 ?hC30 ?hK30 ?hA31 ?hL31 ?hC31 ?hK31 ?hA32 ?hL32 ?hC32 ?hK32 ?aC0 ?aD0 ?lD0 ?kD0 ?vD0_0 ?vD0_1 ?z0 ?z1 ?z2 ?z3 ?z4 ?z5 ?z6 ?z7 ?z8 ?z9 ?z10 ?z11) (L2.fun_mk (st := LW.s32) ?hL32 ?hC32 ?hK32) (PySem.W.mg_of KX G ?hA32) hmg (fun _ _ _ _ _ _ _ => rfl) LW.sc32 rfl rfl LW.ok32
    (case hA0 => k_is); (case hL0 => k_is); (case hC0 => k_is); (case hK0 => k_is); (case hA1 => k_is); (case hL1 => k_is); (case hC1 => k_is); (case hK1 => k_is)
    (case hA2 => k_is); (case hL2 => k_is); (case hC2 => k_is); (case hK2 => k_is); (case hA3 => k_is); (case hL3 => k_is); (case hC3 => k_is); (case hK3 => k_is)
    (case hA4 => k_is); (case hL4 => k_is); (case hC4 => k_is); (case hK4 => k_is); (case hA5 => k_is); (case hL5 => k_is); (case hC5 => k_is); (case hK5 => k_is)
    (case hA6 => k_is); (case hL6 => k_is); (case hC6 => k_is); (case hK6 => k_is); (case hA7 => k_is); (case hL7 => k_is); (case hC7 => k_is); (case hK7 => k_is)
    (case hA8 => k_is); (case hL8 => k_is); (case hC8 => k_is); (case hK8 => k_is); (case hA9 => k_is); (case hL9 => k_is); (case hC9 => k_is); (case hK9 => k_is)
    (case hA10 => k_is); (case hL10 => k_is); (case hC10 => k_is); (case hK10 => k_is); (case hA11 => k_is); (case hL11 => k_is); (case hC11 => k_is); (case hK11 => k_is)
    (case hA12 => k_is); (case hL12 => k_is); (case hC12 => k_is); (case hK12 => k_is); (case hA13 => k_is); (case hL13 => k_is); (case hC13 => k_is); (case hK13 => k_is)
    (case hA14 => k_is); (case hL14 => k_is); (case hC14 => k_is); (case hK14 => k_is); (case hA15 => k_is); (case hL15 => k_is); (case hC15 => k_is); (case hK15 => k_is)
    (case hA16 => k_is); (case hL16 => k_is); (case hC16 => k_is); (case hK16 => k_is); (case hA17 => k_is); (case hL17 => k_is); (case hC17 => k_is); (case hK17 => k_is)
    (case hA18 => k_is); (case hL18 => k_is); (case hC18 => k_is); (case hK18 => k_is); (case hA19 => k_is); (case hL19 => k_is); (case hC19 => k_is); (case hK19 => k_is)
    (case hA20 => k_is); (case hL20 => k_is); (case hC20 => k_is); (case hK20 => k_is); (case hA21 => k_is); (case hL21 => k_is); (case hC21 => k_is); (case hK21 => k_is)
    (case hA22 => k_is); (case hL22 => k_is); (case hC22 => k_is); (case hK22 => k_is); (case hA23 => k_is); (case hL23 => k_is); (case hC23 => k_is); (case hK23 => k_is)
    (case hA24 => k_is); (case hL24 => k_is); (case hC24 => k_is); (case hK24 => k_is); (case hA25 => k_is); (case hL25 => k_is); (case hC25 => k_is); (case hK25 => k_is)
    (case hA26 => k_is); (case hL26 => k_is); (case hC26 => k_is); (case hK26 => k_is); (case hA27 => k_is); (case hL27 => k_is); (case hC27 => k_is); (case hK27 => k_is)
    (case hA28 => k_is); (case hL28 => k_is); (case hC28 => k_is); (case hK28 => k_is); (case hA29 => k_is); (case hL29 => k_is); (case hC29 => k_is); (case hK29 => k_is)
    (case hA30 => k_is); (case hL30 => k_is); (case hC30 => k_is); (case hK30 => k_is); (case hA31 => k_is); (case hL31 => k_is); (case hC31 => k_is); (case hK31 => k_is)
    (case hA32 => k_is); (case hL32 => k_is); (case hC32 => k_is); (case hK32 => k_is); (case aC0 => k_is); (case aD0 => k_is); (case lD0 => k_is); (case kD0 => exact ⟨⟨_, _, rfl, rfl⟩, ⟨_, _, rfl, rfl⟩, True.intro⟩)
    (case vD0_0 => k_is); (case vD0_1 => k_is); (case z0 => k_is); (case z1 => k_is); (case z2 => k_is); (case z3 => k_is); (case z4 => k_is); (case z5 => k_is)
    (case z6 => k_is); (case z7 => k_is); (case z8 => k_is); (case z9 => k_is); (case z10 => k_is); (case z11 => k_is)
