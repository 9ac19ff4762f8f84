import PyProof.Rows.All
import Wide.All
import OpenK.AllK
import Wide.FinOn
import HandS.ForMost
import HandS.ForExc
import HandS.Flow
import HandS.Style
import HandS.Wide
import HandS.IsInst
import HandS.Conv
import HandS.SortInts
import HandS.Strs
import HandS.FStr
import HandS.SetFor
import HandS.ExcValue
import HandS.ExcIs
import KE.RegKTryMore
import PyProof.StrLawsTight
import PyProof.StrLawsIn
import PySem.Challenge.RW_firstdigits_k12_more_errors
set_option Elab.async false
set_option linter.all false
set_option maxRecDepth 100000
set_option maxHeartbeats 4000000
namespace FD
open PySem L2

abbrev D := PyData
/-- an exception of the k-th class, as data -/
abbrev exc (k : Nat) : D := .dict [(.none, .int k)]

structure Gm where
  K : PySem.W.Frag
  w : World
  cls : Nat → Addr
  row : Addr

/-! ### heaps -/
def Ex (H H' : Hp) : Prop := ∀ a o, H a = some o → H' a = some o
theorem Ex.refl (H : Hp) : Ex H H := fun _ _ h => h
theorem Ex.trans {H H1 H2 : Hp} (a : Ex H H1) (b : Ex H1 H2) : Ex H H2 := fun x o h => b x o (a x o h)
theorem Ex.new {H : Hp} {p : Addr} {o : HO} (h : H p = none) : Ex H (upd H p o) := fun a u e => by
  rw [upd_ne (ne_of_none e h)]
  exact e
theorem Ex.upd2 {I H : Hp} {p : Addr} {o : HO} (e : Ex I H) : Ex (upd I p o) (upd H p o) := fun a u h => by
  by_cases q : a = p
  · subst q; rw [upd_same] at h ⊢; exact h
  · rw [upd_ne q] at h ⊢; exact e _ _ h

/-- an exception of the class cls that is no longer on its way, at a -/
def ExK (cls : Value) (a : Addr) : HO := .ext fun h => ∃ (oe : Obj) (vs : Array Value), h.get? a = some oe ∧ Zc cls none oe ∧ oe.data = .fields vs
mutual
inductive Rep (G : Gm) (I : Hp) : V → D → Prop
  | non : Rep G I .non .none
  | bl (b : Bool) : Rep G I (.bl b) (.bool b)
  | int (i : Int) : Rep G I (.int i) (.int i)
  | str (x : Str) : Rep G I (.str x) (.str x)
  | lst {a : Addr} {xs : List V} {ds : List D} : I a = some (.lst xs) → Reps G I xs ds → Rep G I (.ref a) (.list ds)
  | tup {a : Addr} {xs : List V} {ds : List D} : I a = some (.tup xs) → Reps G I xs ds → Rep G I (.ref a) (.tuple ds)
  | exc {a : Addr} {k : Nat} : I a = some (ExK (.ref (G.cls k)) a) → Rep G I (.ref a) (exc k)
  | obj {a : Addr} : Rep G I (.ref a) (.dict [])
inductive Reps (G : Gm) (I : Hp) : List V → List D → Prop
  | nil : Reps G I [] []
  | cons {v : V} {vs : List V} {d : D} {ds : List D} : Rep G I v d → Reps G I vs ds → Reps G I (v :: vs) (d :: ds)
end

mutual
theorem Rep.mono {G : Gm} {I J : Hp} (e : Ex I J) : ∀ {v : V} {d : D}, Rep G I v d → Rep G J v d
  | _, _, .non => .non
  | _, _, .bl b => .bl b
  | _, _, .int i => .int i
  | _, _, .str x => .str x
  | _, _, .lst h r => .lst (e _ _ h) (Reps.mono e r)
  | _, _, .tup h r => .tup (e _ _ h) (Reps.mono e r)
  | _, _, .exc h => .exc (e _ _ h)
  | _, _, .obj => .obj
theorem Reps.mono {G : Gm} {I J : Hp} (e : Ex I J) : ∀ {vs : List V} {ds : List D}, Reps G I vs ds → Reps G J vs ds
  | _, _, .nil => .nil
  | _, _, .cons h r => .cons (Rep.mono e h) (Reps.mono e r)
end
theorem Reps.length {G : Gm} {I : Hp} : ∀ {vs : List V} {ds : List D}, Reps G I vs ds → vs.length = ds.length
  | _, _, .nil => rfl
  | _, _, .cons _ r => by simp [Reps.length r]
theorem Reps.get {G : Gm} {I : Hp} : ∀ {vs : List V} {ds : List D} {i : Nat} {d : D}, Reps G I vs ds → ds[i]? = some d → ∃ v, vs[i]? = some v ∧ Rep G I v d
  | _, _, _, _, .nil, e => by simp at e
  | _, _, 0, _, .cons h _, e => by simp at e; subst e; exact ⟨_, rfl, h⟩
  | _, _, i + 1, d, .cons _ r, e => by
    obtain ⟨v, h1, h2⟩ := Reps.get (i := i) (d := d) r (by simpa using e)
    exact ⟨v, by simpa using h1, h2⟩
theorem Reps.app {G : Gm} {I : Hp} : ∀ {xs ys : List V} {ds es : List D}, Reps G I xs ds → Reps G I ys es → Reps G I (xs ++ ys) (ds ++ es)
  | _, _, _, _, .nil, s => s
  | _, _, _, _, .cons h r, s => .cons h (Reps.app r s)
theorem Reps.set {G : Gm} {I : Hp} {v : V} {d : D} (q : Rep G I v d) : ∀ {xs : List V} {ds : List D} (i : Nat), Reps G I xs ds → Reps G I (xs.set i v) (ds.set i d)
  | _, _, _, .nil => .nil
  | _, _, 0, .cons _ r => .cons q r
  | _, _, i + 1, .cons h r => .cons h (Reps.set q i r)
theorem Reps.drop {G : Gm} {I : Hp} : ∀ {xs : List V} {ds : List D} (n : Nat), Reps G I xs ds → Reps G I (xs.drop n) (ds.drop n)
  | _, _, 0, r => r
  | _, _, _ + 1, .nil => .nil
  | _, _, n + 1, .cons _ t => Reps.drop n t
theorem Reps.take {G : Gm} {I : Hp} : ∀ {xs : List V} {ds : List D} (n : Nat), Reps G I xs ds → Reps G I (xs.take n) (ds.take n)
  | _, _, 0, _ => .nil
  | _, _, _ + 1, .nil => .nil
  | _, _, n + 1, .cons r t => .cons r (Reps.take n t)
theorem Reps.rev {G : Gm} {I : Hp} : ∀ {xs : List V} {ds : List D}, Reps G I xs ds → Reps G I xs.reverse ds.reverse
  | _, _, .nil => .nil
  | _, _, .cons r t => by rw [List.reverse_cons, List.reverse_cons]; exact Reps.app (Reps.rev t) (.cons r .nil)
theorem Reps.ints {G : Gm} {I : Hp} : ∀ {xs : List V} {ns : List Int}, Reps G I xs (ns.map .int) → xs = ns.map .int
  | _, [], .nil => rfl
  | _, n :: ns, .cons h r => by cases h; rw [Reps.ints r]; rfl
theorem Reps.ofInts {G : Gm} {I : Hp} : ∀ (ns : List Int), Reps G I (ns.map .int) (ns.map .int)
  | [] => .nil
  | n :: ns => .cons (.int n) (Reps.ofInts ns)
theorem Reps.bls {G : Gm} {I : Hp} : ∀ {xs : List V} {ns : List Bool}, Reps G I xs (ns.map .bool) → xs = ns.map .bl
  | _, [], .nil => rfl
  | _, n :: ns, .cons h r => by cases h; rw [Reps.bls r]; rfl
theorem Reps.strs {G : Gm} {I : Hp} : ∀ {xs : List V} {ns : List Str}, Reps G I xs (ns.map .str) → xs = ns.map .str
  | _, [], .nil => rfl
  | _, n :: ns, .cons h r => by cases h; rw [Reps.strs r]; rfl
theorem Reps.ofStrs {G : Gm} {I : Hp} : ∀ (ns : List Str), Reps G I (ns.map .str) (ns.map .str)
  | [] => .nil
  | n :: ns => .cons (.str n) (Reps.ofStrs ns)

/-- data that is read as the layer's own data (no exception within) -/
def plainD : D → Bool := fun d => SeqAt.shaped d
mutual
theorem Rep.dp {G : Gm} {I : Hp} {H : Hp} (e : Ex I H) : ∀ {v : V} {d : D}, Rep G I v d → d.canLay0 = true → Dp G.K H v d
  | _, _, .non, _ => .non
  | _, _, .bl b, _ => .bl b
  | _, _, .int i, _ => .int i
  | _, _, .str x, _ => .str x
  | _, _, .lst h r, c => .lst (Or.inl (Or.inl (e _ _ h))) (Reps.dp e r (by simpa [PyData.canLay0] using c))
  | _, _, .tup h r, c => .tup (Or.inl (Or.inl (e _ _ h))) (Reps.dp e r (by simpa [PyData.canLay0] using c))
  | _, _, .exc h, c => by simp [PyData.canLay0] at c
theorem Reps.dp {G : Gm} {I : Hp} {H : Hp} (e : Ex I H) : ∀ {vs : List V} {ds : List D}, Reps G I vs ds → PyData.canLayAll0 ds = true → DpAll G.K H vs ds
  | _, _, .nil, _ => .nil
  | _, _, .cons h r, c => by
    have c' := c
    simp [PyData.canLayAll0] at c'
    exact .cons (Rep.dp e h c'.1) (Reps.dp e r c'.2)
end

/-! ### what a slot holds -/
abbrev DrawSt := List Int × Int
inductive OD where
  | lst (ds : List D)
  | draws (s : DrawSt)
  | row (l p : List Int)
def OD.kind : OD → Nat
  | .lst _ => 0
  | .draws _ => 1
  | .row _ _ => 2
inductive Sl where
  | im (d : D)
  | ow (o : OD)
abbrev Env := List (Option Sl)

def rowFlds (a b : Addr) : List (Str × V) := putF "past" (.ref b) (putF "line" (.ref a) [])
inductive Own (G : Gm) (I H : Hp) : V → OD → List Addr → Prop
  | lst {a : Addr} {vs : List V} {ds : List D} : H a = some (.lst vs) → Reps G I vs ds → Own G I H (.ref a) (.lst ds) [a]
  | draws {d a : Addr} {s : DrawSt} : H d = some (.lst [.ref a, .int s.2]) → H a = some (.lst (s.1.map .int)) → Own G I H (.ref d) (.draws s) [d, a]
  | row {x dx a b : Addr} {l p : List Int} : H x = some (.ins G.row dx (rowFlds a b)) → H a = some (.lst (l.map .int)) → H b = some (.lst (p.map .int)) → Own G I H (.ref x) (.row l p) [x, a, b]
theorem Own.live {G : Gm} {I H : Hp} {v : V} {o : OD} {as : List Addr} (h : Own G I H v o as) : ∀ a ∈ as, ∃ x, H a = some x := by
  cases h with
  | lst h r => intro a ha; simp at ha; subst ha; exact ⟨_, h⟩
  | draws h r => intro a ha; simp at ha; rcases ha with rfl | rfl; exact ⟨_, h⟩; exact ⟨_, r⟩
  | row h r q => intro a ha; simp at ha; rcases ha with rfl | rfl | rfl; exact ⟨_, h⟩; exact ⟨_, r⟩; exact ⟨_, q⟩
theorem Own.mono {G : Gm} {I J H H' : Hp} {v : V} {o : OD} {as : List Addr} (h : Own G I H v o as) (e : Ex I J) (k : ∀ a ∈ as, ∀ x, H a = some x → H' a = some x) : Own G J H' v o as := by
  cases h with
  | lst h r => exact .lst (k _ (by simp) _ h) (r.mono e)
  | draws h r => exact .draws (k _ (by simp) _ h) (k _ (by simp) _ r)
  | row h r q => exact .row (k _ (by simp) _ h) (k _ (by simp) _ r) (k _ (by simp) _ q)

theorem Own.fun {G : Gm} {I H : Hp} {v : V} {o : OD} {as bs : List Addr} (h : Own G I H v o as) (h' : Own G I H v o bs) : as = bs := by
  cases h with
  | lst _ _ => cases h'; rfl
  | draws e _ =>
    cases h' with
    | draws e' _ => rw [e] at e'; cases e'; rfl
  | row e _ _ =>
    cases h' with
    | row e' _ _ =>
      rw [e] at e'
      cases e'
      rfl
inductive SlOk (G : Gm) (I H : Hp) : L2.St → Env → List Addr → Prop
  | nil : SlOk G I H [] [] []
  | skip {o : Option V} {σ : L2.St} {env : Env} {as : List Addr} : SlOk G I H σ env as → SlOk G I H (o :: σ) (none :: env) as
  | im {v : V} {d : D} {σ : L2.St} {env : Env} {as : List Addr} : Rep G I v d → SlOk G I H σ env as → SlOk G I H (some v :: σ) (some (.im d) :: env) as
  | ow {v : V} {o : OD} {bs : List Addr} {σ : L2.St} {env : Env} {as : List Addr} : Own G I H v o bs → SlOk G I H σ env as → SlOk G I H (some v :: σ) (some (.ow o) :: env) (bs ++ as)
theorem SlOk.live {G : Gm} {I H : Hp} : ∀ {σ : L2.St} {env : Env} {as : List Addr}, SlOk G I H σ env as → ∀ a ∈ as, ∃ x, H a = some x
  | _, _, _, .nil => by simp
  | _, _, _, .skip r => r.live
  | _, _, _, .im _ r => r.live
  | _, _, _, .ow o r => fun a ha => by
    rcases List.mem_append.mp ha with h | h
    · exact o.live a h
    · exact r.live a h
theorem SlOk.mono {G : Gm} {I J H H' : Hp} (e : Ex I J) : ∀ {σ : L2.St} {env : Env} {as : List Addr}, SlOk G I H σ env as → (∀ a ∈ as, ∀ x, H a = some x → H' a = some x) → SlOk G J H' σ env as
  | _, _, _, .nil, _ => .nil
  | _, _, _, .skip r, k => .skip (r.mono e k)
  | _, _, _, .im h r, k => .im (h.mono e) (r.mono e k)
  | _, _, _, .ow o r, k => .ow (o.mono e fun a ha => k a (List.mem_append_left _ ha)) (r.mono e fun a ha => k a (List.mem_append_right _ ha))
theorem SlOk.getIm {G : Gm} {I H : Hp} : ∀ {σ : L2.St} {env : Env} {as : List Addr} {i : Nat} {d : D}, SlOk G I H σ env as → env[i]? = some (some (.im d)) → ∃ v, σ[i]? = some (some v) ∧ Rep G I v d
  | _, _, _, _, _, .nil, e => by simp at e
  | _, _, _, 0, _, .skip _, e => by simp at e
  | _, _, _, 0, _, .im h _, e => by simp at e; subst e; exact ⟨_, rfl, h⟩
  | _, _, _, 0, _, .ow _ _, e => by simp at e
  | _, _, _, i + 1, _, .skip r, e => by simpa using r.getIm (by simpa using e)
  | _, _, _, i + 1, _, .im _ r, e => by simpa using r.getIm (by simpa using e)
  | _, _, _, i + 1, _, .ow _ r, e => by simpa using r.getIm (by simpa using e)
/-- what is owned at a slot, and how it is put back -/
theorem SlOk.getOw {G : Gm} {I H : Hp} : ∀ {σ : L2.St} {env : Env} {as : List Addr} {i : Nat} {o : OD}, SlOk G I H σ env as → env[i]? = some (some (.ow o)) →
    ∃ v as1 bs as2, σ[i]? = some (some v) ∧ as = as1 ++ bs ++ as2 ∧ Own G I H v o bs ∧ ∀ J H' o', Ex I J → (∀ a ∈ as1 ++ as2, ∀ x, H a = some x → H' a = some x) → Own G J H' v o' bs → SlOk G J H' σ (env.set i (some (.ow o'))) as
  | _, _, _, _, _, .nil, e => by simp at e
  | _, _, _, 0, _, .skip _, e => by simp at e
  | _, _, _, 0, _, .im h _, e => by simp at e
  | _, _, _, 0, _, .ow (bs := bs) (as := as) h r, e => by
    simp at e; subst e
    exact ⟨_, [], bs, as, rfl, by simp, h, fun J H' o' e k q => .ow q (r.mono e (by simpa using k))⟩
  | _, _, _, i + 1, _, .skip r, e => by
    obtain ⟨v, as1, bs, as2, h1, h2, h3, h4⟩ := r.getOw (i := i) (by simpa using e)
    exact ⟨v, as1, bs, as2, by simpa using h1, h2, h3, fun J H' o' e k q => .skip (h4 J H' o' e k q)⟩
  | _, _, _, i + 1, _, .im h r, e => by
    obtain ⟨v, as1, bs, as2, h1, h2, h3, h4⟩ := r.getOw (i := i) (by simpa using e)
    exact ⟨v, as1, bs, as2, by simpa using h1, h2, h3, fun J H' o' e k q => .im (h.mono e) (h4 J H' o' e k q)⟩
  | _, _, _, i + 1, _, .ow (bs := cs) h r, e => by
    obtain ⟨v, as1, bs, as2, h1, h2, h3, h4⟩ := r.getOw (i := i) (by simpa using e)
    refine ⟨v, cs ++ as1, bs, as2, by simpa using h1, by rw [h2]; simp, h3, fun J H' o' e k q => .ow (h.mono e fun a ha => k a ?_) (h4 J H' o' e (fun a ha => k a ?_) q)⟩
    · simp [ha]
    · rcases List.mem_append.mp ha with z | z <;> simp [z]
/-- a slot is given a value -/
theorem SlOk.setIm {G : Gm} {I H : Hp} {v : V} {d : D} (q : Rep G I v d) : ∀ {σ : L2.St} {env : Env} {as : List Addr} (i : Nat), SlOk G I H σ env as → i < σ.length → ∃ as', SlOk G I H (σ.set i (some v)) (env.set i (some (.im d))) as' ∧ as'.Sublist as
  | _, _, _, _, .nil, h => by simp at h
  | _, _, _, 0, .skip r, _ => ⟨_, .im q r, List.Sublist.refl _⟩
  | _, _, _, 0, .im _ r, _ => ⟨_, .im q r, List.Sublist.refl _⟩
  | _, _, _, 0, .ow _ r, _ => ⟨_, .im q r, List.sublist_append_right _ _⟩
  | _, _, _, i + 1, .skip r, h => by
    obtain ⟨as', h1, h2⟩ := r.setIm q i (by simpa using h)
    exact ⟨as', .skip h1, h2⟩
  | _, _, _, i + 1, .im k r, h => by
    obtain ⟨as', h1, h2⟩ := r.setIm q i (by simpa using h)
    exact ⟨as', .im k h1, h2⟩
  | _, _, _, i + 1, .ow k r, h => by
    obtain ⟨as', h1, h2⟩ := r.setIm q i (by simpa using h)
    exact ⟨_, .ow k h1, List.Sublist.append_left h2 _⟩
/-- a slot is given an owned object, new -/
theorem SlOk.setOw {G : Gm} {I H : Hp} {v : V} {o : OD} {bs : List Addr} (q : Own G I H v o bs) (nd : bs.Nodup) : ∀ {σ : L2.St} {env : Env} {as : List Addr} (i : Nat), SlOk G I H σ env as → as.Nodup → (∀ b ∈ bs, b ∉ as) → i < σ.length → ∃ as', SlOk G I H (σ.set i (some v)) (env.set i (some (.ow o))) as' ∧ as'.Nodup ∧ ∀ a ∈ as', a ∈ as ∨ a ∈ bs
  | _, _, _, _, .nil, _, _, h => by simp at h
  | _, _, _, 0, .skip r, n, f, _ => ⟨_, .ow q r, List.nodup_append.mpr ⟨nd, n, fun a ha b hb e => f a ha (e ▸ hb)⟩, fun a ha => by rcases List.mem_append.mp ha with z | z; exact .inr z; exact .inl z⟩
  | _, _, _, 0, .im _ r, n, f, _ => ⟨_, .ow q r, List.nodup_append.mpr ⟨nd, n, fun a ha b hb e => f a ha (e ▸ hb)⟩, fun a ha => by rcases List.mem_append.mp ha with z | z; exact .inr z; exact .inl z⟩
  | _, _, _, 0, .ow (bs := cs) _ r, n, f, _ => ⟨_, .ow q r, List.nodup_append.mpr ⟨nd, (List.nodup_append.mp n).2.1, fun a ha b hb e => f a ha (e ▸ List.mem_append_right _ hb)⟩, fun a ha => by rcases List.mem_append.mp ha with z | z; exact .inr z; exact .inl (List.mem_append_right _ z)⟩
  | _, _, _, i + 1, .skip r, n, f, h => by
    obtain ⟨as', h1, h2, h3⟩ := r.setOw q nd i n f (by simpa using h)
    exact ⟨as', .skip h1, h2, h3⟩
  | _, _, _, i + 1, .im k r, n, f, h => by
    obtain ⟨as', h1, h2, h3⟩ := r.setOw q nd i n f (by simpa using h)
    exact ⟨as', .im k h1, h2, h3⟩
  | _, _, _, i + 1, .ow (bs := cs) k r, n, f, h => by
    obtain ⟨n1, n2, n3⟩ := List.nodup_append.mp n
    obtain ⟨as', h1, h2, h3⟩ := r.setOw q nd i n2 (fun b hb z => f b hb (List.mem_append_right _ z)) (by simpa using h)
    refine ⟨_, .ow k h1, List.nodup_append.mpr ⟨n1, h2, fun a ha b hb e => ?_⟩, fun a ha => ?_⟩
    · rcases h3 b hb with z | z
      · exact n3 a ha b z e
      · exact f b z (e ▸ List.mem_append_left _ ha)
    · rcases List.mem_append.mp ha with z | z
      · exact .inl (List.mem_append_left _ z)
      · rcases h3 a z with y | y
        · exact .inl (List.mem_append_right _ y)
        · exact .inr y
/-- an owned list becomes a value: its address joins what never changes -/
theorem SlOk.len {G : Gm} {I H : Hp} : ∀ {σ : L2.St} {env : Env} {as : List Addr}, SlOk G I H σ env as → σ.length = env.length
  | _, _, _, .nil => rfl
  | _, _, _, .skip r => by simp [r.len]
  | _, _, _, .im _ r => by simp [r.len]
  | _, _, _, .ow _ r => by simp [r.len]
theorem SlOk.clear {G : Gm} {I H : Hp} : ∀ {σ : L2.St} {env : Env} {as : List Addr} (i : Nat) (o : Option V), SlOk G I H σ env as → ∃ as', SlOk G I H (σ.set i o) (env.set i none) as' ∧ as'.Sublist as
  | _, _, _, _, _, .nil => ⟨_, .nil, List.Sublist.refl _⟩
  | _, _, _, 0, _, .skip r => ⟨_, .skip r, List.Sublist.refl _⟩
  | _, _, _, 0, _, .im _ r => ⟨_, .skip r, List.Sublist.refl _⟩
  | _, _, _, 0, _, .ow _ r => ⟨_, .skip r, List.sublist_append_right _ _⟩
  | _, _, _, i + 1, o, .skip r => by
    obtain ⟨as', h1, h2⟩ := r.clear i o
    exact ⟨as', .skip h1, h2⟩
  | _, _, _, i + 1, o, .im k r => by
    obtain ⟨as', h1, h2⟩ := r.clear i o
    exact ⟨as', .im k h1, h2⟩
  | _, _, _, i + 1, o, .ow k r => by
    obtain ⟨as', h1, h2⟩ := r.clear i o
    exact ⟨_, .ow k h1, List.Sublist.append_left h2 _⟩

theorem SlOk.at {G : Gm} {I H : Hp} : ∀ {σ : L2.St} {env : Env} {as : List Addr} {i : Nat} {v : V} {o : OD} {bs : List Addr}, SlOk G I H σ env as → env[i]? = some (some (.ow o)) → σ[i]? = some (some v) → Own G I H v o bs → ∀ a ∈ bs, a ∈ as
  | _, _, _, _, _, _, _, .nil, e, _, _ => by simp at e
  | _, _, _, 0, _, _, _, .skip _, e, _, _ => by simp at e
  | _, _, _, 0, _, _, _, .im _ _, e, _, _ => by simp at e
  | _, _, _, 0, _, _, _, .ow h _, e, e2, q => fun a ha => by
    simp at e e2; subst e e2
    rw [h.fun q]
    exact List.mem_append_left _ ha
  | _, _, _, i + 1, _, _, _, .skip r, e, e2, q => fun a ha => r.at (by simpa using e) (by simpa using e2) q a ha
  | _, _, _, i + 1, _, _, _, .im _ r, e, e2, q => fun a ha => r.at (by simpa using e) (by simpa using e2) q a ha
  | _, _, _, i + 1, _, _, _, .ow _ r, e, e2, q => fun a ha => List.mem_append_right _ (r.at (by simpa using e) (by simpa using e2) q a ha)
theorem slot_disj {G : Gm} {I H : Hp} : ∀ {σ : L2.St} {env : Env} {as : List Addr} {i j : Nat} {v w : V} {o u : OD} {bs cs : List Addr}, SlOk G I H σ env as → as.Nodup → env[i]? = some (some (.ow o)) → env[j]? = some (some (.ow u)) → i ≠ j →
    σ[i]? = some (some v) → σ[j]? = some (some w) → Own G I H v o bs → Own G I H w u cs → ∀ a ∈ bs, a ∉ cs
  | _, _, _, _, _, _, _, _, _, _, _, .nil, _, e, _, _, _, _, _, _ => by simp at e
  | _, _, _, 0, 0, _, _, _, _, _, _, _, _, _, _, h, _, _, _, _ => absurd rfl h
  | _, _, _, 0, j + 1, _, _, _, _, _, _, .skip _, _, e, _, _, _, _, _, _ => by simp at e
  | _, _, _, 0, j + 1, _, _, _, _, _, _, .im _ _, _, e, _, _, _, _, _, _ => by simp at e
  | _, _, _, 0, j + 1, _, _, _, _, _, _, .ow h r, nd, e, e', _, x, y, q, q' => fun a ha hc => by
    simp at e x; subst e x
    rw [h.fun q] at nd
    exact (List.nodup_append.mp nd).2.2 a ha a (r.at (by simpa using e') (by simpa using y) q' a hc) rfl
  | _, _, _, i + 1, 0, _, _, _, _, _, _, .skip _, _, _, e, _, _, _, _, _ => by simp at e
  | _, _, _, i + 1, 0, _, _, _, _, _, _, .im _ _, _, _, e, _, _, _, _, _ => by simp at e
  | _, _, _, i + 1, 0, _, _, _, _, _, _, .ow h r, nd, e, e', _, x, y, q, q' => fun a ha hc => by
    simp at e' y; subst e' y
    rw [h.fun q'] at nd
    exact (List.nodup_append.mp nd).2.2 a hc a (r.at (by simpa using e) (by simpa using x) q a ha) rfl
  | _, _, _, i + 1, j + 1, _, _, _, _, _, _, .skip r, nd, e, e', n, x, y, q, q' => slot_disj r nd (by simpa using e) (by simpa using e') (fun z => n (by rw [z])) (by simpa using x) (by simpa using y) q q'
  | _, _, _, i + 1, j + 1, _, _, _, _, _, _, .im _ r, nd, e, e', n, x, y, q, q' => slot_disj r nd (by simpa using e) (by simpa using e') (fun z => n (by rw [z])) (by simpa using x) (by simpa using y) q q'
  | _, _, _, i + 1, j + 1, _, _, _, _, _, _, .ow _ r, nd, e, e', n, x, y, q, q' => slot_disj r (List.nodup_append.mp nd).2.1 (by simpa using e) (by simpa using e') (fun z => n (by rw [z])) (by simpa using x) (by simpa using y) q q'

/-! ### the state of a body -/
structure Bs where
  H0 : Hp
  I0 : Hp
  fp : List Addr
  v0 : Option V
structure Sim (G : Gm) (B : Bs) (σ : L2.St) (env : Env) (H I : Hp) : Prop where
  i0 : Ex B.I0 I
  ih : Ex I H
  fr : ∀ b o, I b = some o → B.I0 b = none → B.H0 b = none
  keep : ∀ b o, B.H0 b = some o → b ∉ B.fp → H b = some o
  live : ∀ b ∈ B.fp, ∃ o, H b = some o
  sl : ∃ as, SlOk G I H σ env as ∧ as.Nodup ∧ ∀ a ∈ as, I a = none ∧ (a ∈ B.fp ∨ B.H0 a = none)
  lo : ∀ (i : Nat) (a : Addr) (ds : List D), env[i]? = some (some (Sl.ow (OD.lst ds))) → σ[i]? = some (some (V.ref a)) → B.H0 a = none
  s0 : ∀ v, B.v0 = some v → ∃ o, env[0]? = some (some (Sl.ow o)) ∧ o.kind ≠ 0 ∧ σ[0]? = some (some v) ∧ Own G I H v o B.fp
/-- a slot that may be given another value -/
def canSet (env : Env) (i : Nat) : Bool := decide (i < env.length) && match env[i]? with
  | some (some (.ow o)) => o.kind == 0
  | _ => true
theorem canSet_lt {env : Env} {i : Nat} (h : canSet env i = true) : i < env.length := by
  unfold canSet at h
  rw [Bool.and_eq_true] at h
  exact of_decide_eq_true h.1
theorem canSet_kind {env : Env} {i : Nat} {o : OD} (h : canSet env i = true) (e : env[i]? = some (some (.ow o))) : o.kind = 0 := by
  unfold canSet at h
  rw [Bool.and_eq_true, e] at h
  simpa using h.2
section
variable {G : Gm} {B : Bs} {σ : L2.St} {env : Env} {H I H' I' : Hp}
theorem Sim.h0 (S : Sim G B σ env H I) {p : Addr} (h : H p = none) : B.H0 p = none ∧ p ∉ B.fp := by
  have n : p ∉ B.fp := fun z => by
    obtain ⟨o, e⟩ := S.live p z
    rw [h] at e; cases e
  refine ⟨?_, n⟩
  cases q : B.H0 p with
  | none => rfl
  | some o => have := S.keep p o q n; rw [h] at this; cases this
theorem Sim.ni (S : Sim G B σ env H I) {p : Addr} (h : H p = none) : I p = none := by
  cases q : I p with
  | none => rfl
  | some o => have := S.ih p o q; rw [h] at this; cases this
/-- more is known; nothing known is changed -/
theorem Sim.step (S : Sim G B σ env H I) (e : Ex I I') (eh : Ex I' H') (nw : ∀ b o, I' b = some o → I b = none → H b = none) (k : Ex H H') : Sim G B σ env H' I' := by
  obtain ⟨as, s1, s2, s3⟩ := S.sl
  refine ⟨S.i0.trans e, eh, fun b o h1 h2 => ?_, fun b o h1 h2 => k _ _ (S.keep b o h1 h2), fun b hb => ?_, ⟨as, s1.mono e (fun a _ x h => k _ _ h), s2, fun a ha => ⟨?_, (s3 a ha).2⟩⟩, S.lo, fun v hv => (let ⟨o, q1, q2, q3, q4⟩ := S.s0 v hv; ⟨o, q1, q2, q3, q4.mono e fun a _ x h => k _ _ h⟩)⟩
  · cases q : I b with
    | some o' => exact S.fr b o' q h2
    | none => exact (S.h0 (nw b o h1 q)).1
  · obtain ⟨o, h⟩ := S.live b hb
    exact ⟨o, k _ _ h⟩
  · cases q : I' a with
    | none => rfl
    | some o =>
      obtain ⟨x, hx⟩ := s1.live a ha
      rw [nw a o q (s3 a ha).1] at hx; cases hx
theorem Sim.alloc (S : Sim G B σ env H I) {p : Addr} {o : HO} (h : H p = none) : Sim G B σ env (upd H p o) (upd I p o) ∧ Ex I (upd I p o) :=
  ⟨S.step (Ex.new (S.ni h)) S.ih.upd2 (fun b o' h1 h2 => by
    by_cases q : b = p
    · rw [q]; exact h
    · rw [upd_ne q, h2] at h1; cases h1) (Ex.new h), Ex.new (S.ni h)⟩
theorem Sim.getIm (S : Sim G B σ env H I) {i : Nat} {d : D} (h : env[i]? = some (some (.im d))) : ∃ v, σ[i]? = some (some v) ∧ Rep G I v d := by
  obtain ⟨as, s1, _⟩ := S.sl
  exact s1.getIm h
/-- an owned object is changed -/
theorem Sim.own (S : Sim G B σ env H I) {i : Nat} {o : OD} (h : env[i]? = some (some (.ow o))) : ∃ v bs, σ[i]? = some (some v) ∧ Own G I H v o bs ∧ bs.Nodup ∧ (∀ a ∈ bs, I a = none) ∧
    ∀ H' I' o', Ex I I' → Ex I' H' → (∀ b x, I' b = some x → I b = none → H b = none) → (∀ b x, H b = some x → b ∉ bs → H' b = some x) → o'.kind = o.kind → Own G I' H' v o' bs → Sim G B σ (env.set i (some (.ow o'))) H' I' := by
  obtain ⟨as, s1, s2, s3⟩ := S.sl
  obtain ⟨v, as1, bs, as2, h1, rfl, h3, h4⟩ := s1.getOw h
  have nd1 := List.nodup_append.mp s2
  have nd2 := List.nodup_append.mp nd1.1
  refine ⟨v, bs, h1, h3, nd2.2.1, fun a ha => (s3 a (by simp [ha])).1, fun H' I' o' e eh nw k hkd q => ?_⟩
  have nb : ∀ a ∈ as1 ++ as2, a ∉ bs := fun a ha hb => by
    rcases List.mem_append.mp ha with z | z
    · exact nd2.2.2 a z a hb rfl
    · exact nd1.2.2 a (List.mem_append_right _ hb) a z rfl
  refine ⟨S.i0.trans e, eh, fun b o h1 h2 => ?_, fun b o h1 h2 => ?_, fun b hb => ?_, ⟨_, h4 I' H' o' e (fun a ha x hx => k a x hx (nb a ha)) q, s2, fun a ha => ⟨?_, (s3 a ha).2⟩⟩, fun j a ds z1 z2 => ?_, fun w hw => ?_⟩
  · cases q : I b with
    | some o' => exact S.fr b o' q h2
    | none => exact (S.h0 (nw b o h1 q)).1
  · by_cases hb : b ∈ bs
    · rcases (s3 b (by simp [hb])).2 with z | z
      · exact absurd z h2
      · rw [z] at h1; cases h1
    · exact k _ _ (S.keep b o h1 h2) hb
  · by_cases hb' : b ∈ bs
    · exact q.live b hb'
    · obtain ⟨o, h⟩ := S.live b hb
      exact ⟨o, k _ _ h hb'⟩
  · cases q' : I' a with
    | none => rfl
    | some o =>
      obtain ⟨x, hx⟩ := s1.live a ha
      rw [nw a o q' (s3 a ha).1] at hx; cases hx
  · by_cases hj : j = i
    · subst hj
      have hlt : j < env.length := (List.getElem?_eq_some_iff.mp h).1
      rw [List.getElem?_set_self hlt] at z1
      cases z1
      cases o with
      | lst ds0 => exact S.lo j a ds0 h z2
      | draws _ => cases hkd
      | row _ _ => cases hkd
    · rw [List.getElem?_set_ne (Ne.symm hj)] at z1
      exact S.lo j a ds z1 z2
  · obtain ⟨o0, q1, q2, q3, q4⟩ := S.s0 w hw
    by_cases hj : i = 0
    · subst hj
      rw [h] at q1
      cases q1
      rw [h1] at q3
      cases q3
      have e := h3.fun q4
      subst e
      exact ⟨o', by rw [List.getElem?_set_self (List.getElem?_eq_some_iff.mp h).1], by rw [hkd]; exact q2, h1, q⟩
    · -- slot 0 stands
      have dj : ∀ a ∈ B.fp, a ∉ bs := by
        obtain ⟨w0, t1, t2, t3, y1, y2, y3, _⟩ := s1.getOw q1
        rw [q3] at y1
        cases y1
        have e := y3.fun q4
        subst e
        intro a ha hb
        exact slot_disj s1 s2 q1 h (fun z => hj z.symm) q3 h1 y3 h3 a ha hb
      exact ⟨o0, by rw [List.getElem?_set_ne hj]; exact q1, q2, q3, q4.mono e fun a ha x hx => k a x hx (dj a ha)⟩
theorem Sim.setIm (S : Sim G B σ env H I) {i : Nat} {v : V} {d : D} (q : Rep G I v d) (hc : canSet env i = true) : Sim G B (σ.set i (some v)) (env.set i (some (.im d))) H I := by
  have hi := canSet_lt hc
  obtain ⟨as, s1, s2, s3⟩ := S.sl
  obtain ⟨as', h1, h2⟩ := s1.setIm q i (by rw [s1.len]; exact hi)
  refine ⟨S.i0, S.ih, S.fr, S.keep, S.live, ⟨as', h1, h2.nodup s2, fun a ha => s3 a (h2.subset ha)⟩, fun j a ds z1 z2 => ?_, fun w hw => ?_⟩
  · by_cases hj : j = i
    · subst hj
      rw [List.getElem?_set_self hi] at z1
      cases z1
    · rw [List.getElem?_set_ne (Ne.symm hj)] at z1 z2
      exact S.lo j a ds z1 z2
  · obtain ⟨o, q1, q2, q3, q4⟩ := S.s0 w hw
    have hn : i ≠ 0 := fun z => by subst z; exact q2 (canSet_kind hc q1)
    exact ⟨o, by rw [List.getElem?_set_ne hn]; exact q1, q2, by rw [List.getElem?_set_ne hn]; exact q3, q4⟩
theorem Sim.clear (hv : B.v0 = none) (S : Sim G B σ env H I) (i : Nat) (o : Option V) : Sim G B (σ.set i o) (env.set i none) H I := by
  obtain ⟨as, s1, s2, s3⟩ := S.sl
  obtain ⟨as', h1, h2⟩ := s1.clear i o
  refine ⟨S.i0, S.ih, S.fr, S.keep, S.live, ⟨as', h1, h2.nodup s2, fun a ha => s3 a (h2.subset ha)⟩, fun j a ds z1 z2 => ?_, fun w hw => by rw [hv] at hw; cases hw⟩
  by_cases hj : j = i
  · subst hj
    by_cases hlt : j < env.length
    · rw [List.getElem?_set_self hlt] at z1; cases z1
    · rw [List.getElem?_eq_none (by simpa using hlt)] at z1; cases z1
  · rw [List.getElem?_set_ne (Ne.symm hj)] at z1 z2
    exact S.lo j a ds z1 z2
end
end FD
set_option Elab.async false
set_option linter.all false
set_option maxRecDepth 100000
set_option maxHeartbeats 4000000
noncomputable section
namespace FD
open PySem L2

/-! ### results -/
inductive R (α : Type) where
  | ok (a : α) (env : Env)
  | err (k : Nat) (env : Env)
  | bad
def R.bind {α β : Type} (r : R α) (f : α → Env → R β) : R β := match r with
  | .ok a e => f a e
  | .err k e => .err k e
  | .bad => .bad
def R.lift {α : Type} (o : Option α) (env : Env) : R α := match o with
  | some a => .ok a env
  | none => .bad
@[simp] theorem R.bind_ok {α β : Type} (a : α) (e : Env) (f : α → Env → R β) : (R.ok a e).bind f = f a e := Eq.trans rfl rfl
@[simp] theorem R.bind_err {α β : Type} (k : Nat) (e : Env) (f : α → Env → R β) : (R.err k e : R α).bind f = .err k e := Eq.trans rfl rfl
@[simp] theorem R.bind_bad {α β : Type} (f : α → Env → R β) : (R.bad : R α).bind f = .bad := Eq.trans rfl rfl
@[simp] theorem R.lift_some {α : Type} (a : α) (e : Env) : R.lift (some a) e = .ok a e := Eq.trans rfl rfl
@[simp] theorem R.lift_none {α : Type} (e : Env) : (R.lift none e : R α) = .bad := Eq.trans rfl rfl

def Post {α β : Type} (G : Gm) (B : Bs) (σ : L2.St) (W : WX) (Rel : Hp → β → α → Prop) (I : Hp) (Q : β → Hp → Prop) : R α → Prop
  | .ok a env' => ∀ v H' I', Sim G B σ env' H' I' → Ex I I' → Rel I' v a → Q v H'
  | .err k env' => ∀ H' I', Sim G B σ env' H' I' → Ex I I' → W (.ref (G.cls k)) none σ H'
  | .bad => False
section
variable {α β γ δ : Type} {G : Gm} {B : Bs} {σ : L2.St} {W : WX} {Rel : Hp → β → α → Prop} {Rel2 : Hp → δ → γ → Prop} {I J : Hp} {Q : β → Hp → Prop} {Q2 : δ → Hp → Prop}
theorem Post.mono {r : R α} (e : Ex I J) (P : Post G B σ W Rel I Q r) : Post G B σ W Rel J Q r := by
  cases r with
  | ok a env => exact fun v H' I' S e' r => P v H' I' S (e.trans e') r
  | err k env => exact fun H' I' S e' => P H' I' S (e.trans e')
  | bad => exact P
theorem Post.bind {r : R α} {f : α → Env → R γ} (P : Post G B σ W Rel2 I Q2 (r.bind f))
    (k : ∀ a env' v H' I', Sim G B σ env' H' I' → Ex I I' → Rel I' v a → Post G B σ W Rel2 I' Q2 (f a env') → Q v H') : Post G B σ W Rel I Q r := by
  cases r with
  | ok a env => exact fun v H' I' S e r => k a env v H' I' S e r (Post.mono e P)
  | err k env => exact P
  | bad => exact P
end

/-! ### expressions, tests, arguments -/
structure CE where
  t : Gm → WX → TE
  ev : Env → R D
  ok : ∀ {G : Gm} {B : Bs} {σ : L2.St} {env : Env} {H I : Hp} {W : WX} {Q : VK}, Sim G B σ env H I → Post G B σ W (Rep G) I Q (ev env) → t G W σ H Q
  pu : Bool
  pok : pu = true → ∀ env d env', ev env = .ok d env' → env' = env
structure CT where
  t : Gm → WX → TT
  ev : Env → R Bool
  ok : ∀ {G : Gm} {B : Bs} {σ : L2.St} {env : Env} {H I : Hp} {W : WX} {Q : Bool → Hp → Prop}, Sim G B σ env H I → Post G B σ W (fun _ (b c : Bool) => b = c) I Q (ev env) → t G W σ H Q
  pu : Bool
  pok : pu = true → ∀ env d env', ev env = .ok d env' → env' = env
structure CA where
  t : Gm → WX → TA
  ev : Env → R (List D)
  ok : ∀ {G : Gm} {B : Bs} {σ : L2.St} {env : Env} {H I : Hp} {W : WX} {Q : List V → Hp → Prop}, Sim G B σ env H I → Post G B σ W (Reps G) I Q (ev env) → t G W σ H Q
  pu : Bool
  pok : pu = true → ∀ env d env', ev env = .ok d env' → env' = env

theorem R.bind_eq_ok {α β : Type} {r : R α} {f : α → Env → R β} {b : β} {e : Env} (h : r.bind f = .ok b e) : ∃ a e1, r = .ok a e1 ∧ f a e1 = .ok b e := by
  cases r with
  | ok a e1 => exact ⟨a, e1, rfl, h⟩
  | err k e1 => cases h
  | bad => cases h
theorem R.lift_eq_ok {α : Type} {o : Option α} {e e' : Env} {a : α} (h : R.lift o e = .ok a e') : o = some a ∧ e' = e := by
  cases o with
  | none => cases h
  | some b => cases h; exact ⟨rfl, rfl⟩

abbrev Env.im (env : Env) (i : Nat) : Option D := match env[i]? with
  | some (some (.im d)) => some d
  | _ => none
theorem Env.im_eq {env : Env} {i : Nat} {d : D} (h : Env.im env i = some d) : env[i]? = some (some (.im d)) := by
  unfold Env.im at h
  split at h
  · rename_i d' e; cases h; exact e
  · cases h

def CE.var (i : Nat) : CE where
  t := fun _ _ => tVar i
  ev := fun env => R.lift (Env.im env i) env
  ok := fun {G B σ env H I W Q} S P => by
    cases h : Env.im env i with
    | none => rw [h] at P; exact P.elim
    | some d =>
      rw [h] at P
      obtain ⟨v, h1, h2⟩ := S.getIm (Env.im_eq h)
      exact ⟨v, h1, P v H I S (Ex.refl I) h2⟩
  pu := true
  pok := fun _ env d env' h => (R.lift_eq_ok h).2
def CE.cst (v : V) (d : D) (h : ∀ G I, Rep G I v d) : CE where
  t := fun _ _ => tC v
  ev := fun env => .ok d env
  ok := fun {G B σ env H I W Q} S P => P v H I S (Ex.refl I) (h G I)
  pu := true
  pok := fun _ env d env' h => by cases h; rfl
def CE.int (i : Int) : CE := CE.cst (.int i) (.int i) fun _ _ => .int i
def CE.bl (b : Bool) : CE := CE.cst (.bl b) (.bool b) fun _ _ => .bl b
def CE.non : CE := CE.cst .non .none fun _ _ => .non
def CE.str (x : Str) : CE := CE.cst (.str x) (.str x) fun _ _ => .str x

def BinOk (r : Gm → R2) (f : D → D → Option D) : Prop := ∀ {G : Gm} {B : Bs} {σ : L2.St} {env : Env} {H I : Hp} {x y : V} {d1 d2 d : D} {Q : VK}, Sim G B σ env H I → Rep G I x d1 → Rep G I y d2 → f d1 d2 = some d →
  (∀ v H' I', Sim G B σ env H' I' → Ex I I' → Rep G I' v d → Q v H') → r G x y H Q
def CE.bin (r : Gm → R2) (f : D → D → Option D) (h : BinOk r f) (a b : CE) : CE where
  t := fun G W => tOp (r G) (a.t G W) (b.t G W)
  ev := fun env => (a.ev env).bind fun x e1 => (b.ev e1).bind fun y e2 => R.lift (f x y) e2
  ok := fun {G B σ env H I W Q} S P => a.ok S (Post.bind P fun x e1 v H1 I1 S1 ex1 r1 P1 => b.ok S1 (Post.bind P1 fun y e2 w H2 I2 S2 ex2 r2 P2 => by
    cases q : f x y with
    | none => rw [q] at P2; exact P2.elim
    | some d => rw [q] at P2; exact h S2 (r1.mono ex2) r2 q P2))
  pu := a.pu && b.pu
  pok := fun p env d env' h => by
    rw [Bool.and_eq_true] at p
    obtain ⟨x, e1, h1, h⟩ := R.bind_eq_ok h
    obtain ⟨y, e2, h2, h⟩ := R.bind_eq_ok h
    rw [(R.lift_eq_ok h).2, b.pok p.2 _ _ _ h2, a.pok p.1 _ _ _ h1]

def UnOk (r : Gm → V → Hp → VK → Prop) (f : D → Option D) : Prop := ∀ {G : Gm} {B : Bs} {σ : L2.St} {env : Env} {H I : Hp} {x : V} {d1 d : D} {Q : VK}, Sim G B σ env H I → Rep G I x d1 → f d1 = some d →
  (∀ v H' I', Sim G B σ env H' I' → Ex I I' → Rep G I' v d → Q v H') → r G x H Q
/-- one operand, a reading of any make -/
def CE.un (t : Gm → TE → TE) (r : Gm → V → Hp → VK → Prop) (ht : ∀ G te σ H Q, te σ H (fun x H1 => r G x H1 Q) → t G te σ H Q) (f : D → Option D) (h : UnOk r f) (a : CE) : CE where
  t := fun G W => t G (a.t G W)
  ev := fun env => (a.ev env).bind fun x e1 => R.lift (f x) e1
  ok := fun {G B σ env H I W Q} S P => ht _ _ _ _ _ (a.ok S (Post.bind P fun x e1 v H1 I1 S1 ex1 r1 P1 => by
    cases q : f x with
    | none => rw [q] at P1; exact P1.elim
    | some d => rw [q] at P1; exact h S1 r1 q P1))
  pu := a.pu
  pok := fun p env d env' h => by
    obtain ⟨x, e1, h1, h⟩ := R.bind_eq_ok h
    rw [(R.lift_eq_ok h).2, a.pok p _ _ _ h1]

def CA.nil : CA where
  t := fun _ _ => tNil
  ev := fun env => .ok [] env
  ok := fun {G B σ env H I W Q} S P => P [] H I S (Ex.refl I) .nil
  pu := true
  pok := fun _ env d env' h => by cases h; rfl
def CA.cons (a : CE) (b : CA) : CA where
  t := fun G W => tCons (a.t G W) (b.t G W)
  ev := fun env => (a.ev env).bind fun x e1 => (b.ev e1).bind fun xs e2 => .ok (x :: xs) e2
  ok := fun {G B σ env H I W Q} S P => a.ok S (Post.bind P fun x e1 v H1 I1 S1 ex1 r1 P1 => b.ok S1 (Post.bind P1 fun y e2 w H2 I2 S2 ex2 r2 P2 =>
    P2 (v :: w) H2 I2 S2 (Ex.refl _) (.cons (r1.mono ex2) r2)))
  pu := a.pu && b.pu
  pok := fun p env d env' h => by
    rw [Bool.and_eq_true] at p
    obtain ⟨x, e1, h1, h⟩ := R.bind_eq_ok h
    obtain ⟨y, e2, h2, h⟩ := R.bind_eq_ok h
    cases h
    rw [b.pok p.2 _ _ _ h2, a.pok p.1 _ _ _ h1]

/-! displays -/
/-- the same truth, but the checker does not run it -/
def lk (b : Bool) : Bool := Classical.choose (⟨b, rfl⟩ : ∃ x, x = b)
@[simp] theorem lk_eq (b : Bool) : lk b = b := Classical.choose_spec (⟨b, rfl⟩ : ∃ x, x = b)
theorem of_lk {p : Prop} [Decidable p] (h : lk (decide p) = true) : p := by rw [lk_eq] at h; exact of_decide_eq_true h
theorem lk_of {p : Prop} [Decidable p] (h : p) : lk (decide p) = true := by rw [lk_eq]; exact decide_eq_true h
def lineOk (n : Nat) : Bool := lk (decide (n ≤ 100000))
theorem lineOk_le {n : Nat} (h : lineOk n = true) : n ≤ sizeLine := Nat.le_trans (of_lk h) (by rw [sizeLine_eq]; decide)
def CE.tup (a : CA) : CE where
  t := fun G W => tTup (a.t G W)
  ev := fun env => (a.ev env).bind fun xs e1 => if lineOk xs.length then .ok (.tuple xs) e1 else .bad
  ok := fun {G B σ env H I W Q} S P => a.ok S (Post.bind P fun xs e1 vs H1 I1 S1 ex1 r1 P1 => by
    cases q : lineOk xs.length with
    | false => rw [q] at P1; exact P1.elim
    | true =>
      rw [q] at P1
      refine ⟨by rw [r1.length]; exact lineOk_le q, fun p hp => ?_⟩
      obtain ⟨S2, e2⟩ := S1.alloc (o := .tup vs) hp
      exact P1 _ _ _ S2 e2 (.tup upd_same (r1.mono e2)))
  pu := a.pu
  pok := fun p env d env' h => by
    obtain ⟨x, e1, h1, h⟩ := R.bind_eq_ok h
    split at h
    · cases h; exact a.pok p _ _ _ h1
    · cases h
def CE.lst (a : CA) : CE where
  t := fun G W => tLst (a.t G W)
  ev := fun env => (a.ev env).bind fun xs e1 => if lineOk xs.length then .ok (.list xs) e1 else .bad
  ok := fun {G B σ env H I W Q} S P => a.ok S (Post.bind P fun xs e1 vs H1 I1 S1 ex1 r1 P1 => by
    cases q : lineOk xs.length with
    | false => rw [q] at P1; exact P1.elim
    | true =>
      rw [q] at P1
      refine ⟨by rw [r1.length]; exact lineOk_le q, fun p hp => ?_⟩
      obtain ⟨S2, e2⟩ := S1.alloc (o := .lst vs) hp
      exact P1 _ _ _ S2 e2 (.lst upd_same (r1.mono e2)))
  pu := a.pu
  pok := fun p env d env' h => by
    obtain ⟨x, e1, h1, h⟩ := R.bind_eq_ok h
    split at h
    · cases h; exact a.pok p _ _ _ h1
    · cases h

/-! ### tests -/
def CT.of (a : CE) : CT where
  t := fun G W => tTest (a.t G W)
  ev := fun env => (a.ev env).bind fun x e1 => match x with
    | .bool b => .ok b e1
    | _ => .bad
  ok := fun {G B σ env H I W Q} S P => a.ok S (Post.bind P fun x e1 v H1 I1 S1 ex1 r1 P1 => by
    cases r1 with
    | bl b => exact ⟨b, rfl, P1 b H1 I1 S1 (Ex.refl _) rfl⟩
    | _ => exact P1.elim)
  pu := a.pu
  pok := fun p env d env' h => by
    obtain ⟨x, e1, h1, h⟩ := R.bind_eq_ok h
    cases x <;> cases h
    exact a.pok p _ _ _ h1
def CT.and (a b : CT) : CT where
  t := fun G W => tAnd (a.t G W) (b.t G W)
  ev := fun env => (a.ev env).bind fun x e1 => if x = true then b.ev e1 else .ok false e1
  ok := fun {G B σ env H I W Q} S P => a.ok S (Post.bind P fun x e1 v H1 I1 S1 ex1 r1 P1 => by
    subst r1
    cases v with
    | true => exact b.ok S1 P1
    | false => exact P1 false H1 I1 S1 (Ex.refl _) rfl)
  pu := a.pu && b.pu
  pok := fun p env d env' h => by
    rw [Bool.and_eq_true] at p
    obtain ⟨x, e1, h1, h⟩ := R.bind_eq_ok h
    have := a.pok p.1 _ _ _ h1
    cases x with
    | true => rw [← this]; exact b.pok p.2 _ _ _ h
    | false => cases h; exact this
def CT.or (a b : CT) : CT where
  t := fun G W => tOr (a.t G W) (b.t G W)
  ev := fun env => (a.ev env).bind fun x e1 => if x = true then .ok true e1 else b.ev e1
  ok := fun {G B σ env H I W Q} S P => a.ok S (Post.bind P fun x e1 v H1 I1 S1 ex1 r1 P1 => by
    subst r1
    cases v with
    | false => exact b.ok S1 P1
    | true => exact P1 true H1 I1 S1 (Ex.refl _) rfl)
  pu := a.pu && b.pu
  pok := fun p env d env' h => by
    rw [Bool.and_eq_true] at p
    obtain ⟨x, e1, h1, h⟩ := R.bind_eq_ok h
    have := a.pok p.1 _ _ _ h1
    cases x with
    | false => rw [← this]; exact b.pok p.2 _ _ _ h
    | true => cases h; exact this
def CT.not (a : CT) : CT where
  t := fun G W => tNot (a.t G W)
  ev := fun env => (a.ev env).bind fun x e1 => .ok (!x) e1
  ok := fun {G B σ env H I W Q} S P => a.ok S (Post.bind P fun x e1 v H1 I1 S1 ex1 r1 P1 => by
    subst r1
    exact P1 (!v) H1 I1 S1 (Ex.refl _) rfl)
  pu := a.pu
  pok := fun p env d env' h => by
    obtain ⟨x, e1, h1, h⟩ := R.bind_eq_ok h
    cases h
    exact a.pok p _ _ _ h1
def CT.yes : CT where
  t := fun _ _ => tYes
  ev := fun env => .ok true env
  ok := fun {G B σ env H I W Q} S P => P true H I S (Ex.refl _) rfl
  pu := true
  pok := fun p env d env' h => by cases h; rfl

/-! and, or, not as values; a if t else b -/
def CE.andV (a b : CE) : CE where
  t := fun G W => tAndV (a.t G W) (b.t G W)
  ev := fun env => (a.ev env).bind fun x e1 => match x with
    | .bool true => b.ev e1
    | .bool false => .ok (.bool false) e1
    | _ => .bad
  ok := fun {G B σ env H I W Q} S P => a.ok S (Post.bind P fun x e1 v H1 I1 S1 ex1 r1 P1 => by
    cases r1 with
    | bl c =>
      cases c with
      | true => exact ⟨true, rfl, b.ok S1 P1⟩
      | false => exact ⟨false, rfl, P1 _ H1 I1 S1 (Ex.refl _) (.bl _)⟩
    | _ => exact P1.elim)
  pu := a.pu && b.pu
  pok := fun p env d env' h => by
    rw [Bool.and_eq_true] at p
    obtain ⟨x, e1, h1, h⟩ := R.bind_eq_ok h
    have := a.pok p.1 _ _ _ h1
    split at h
    · rw [← this]; exact b.pok p.2 _ _ _ h
    · cases h; exact this
    · cases h
def CE.orV (a b : CE) : CE where
  t := fun G W => tOrV (a.t G W) (b.t G W)
  ev := fun env => (a.ev env).bind fun x e1 => match x with
    | .bool false => b.ev e1
    | .bool true => .ok (.bool true) e1
    | _ => .bad
  ok := fun {G B σ env H I W Q} S P => a.ok S (Post.bind P fun x e1 v H1 I1 S1 ex1 r1 P1 => by
    cases r1 with
    | bl c =>
      cases c with
      | false => exact ⟨false, rfl, b.ok S1 P1⟩
      | true => exact ⟨true, rfl, P1 _ H1 I1 S1 (Ex.refl _) (.bl _)⟩
    | _ => exact P1.elim)
  pu := a.pu && b.pu
  pok := fun p env d env' h => by
    rw [Bool.and_eq_true] at p
    obtain ⟨x, e1, h1, h⟩ := R.bind_eq_ok h
    have := a.pok p.1 _ _ _ h1
    split at h
    · rw [← this]; exact b.pok p.2 _ _ _ h
    · cases h; exact this
    · cases h
def CE.notV (a : CE) : CE where
  t := fun G W => tNotV (a.t G W)
  ev := fun env => (a.ev env).bind fun x e1 => match x with
    | .bool b => .ok (.bool (!b)) e1
    | _ => .bad
  ok := fun {G B σ env H I W Q} S P => a.ok S (Post.bind P fun x e1 v H1 I1 S1 ex1 r1 P1 => by
    cases r1 with
    | bl c => exact ⟨c, rfl, P1 _ H1 I1 S1 (Ex.refl _) (.bl _)⟩
    | _ => exact P1.elim)
  pu := a.pu
  pok := fun p env d env' h => by
    obtain ⟨x, e1, h1, h⟩ := R.bind_eq_ok h
    cases x <;> cases h
    exact a.pok p _ _ _ h1
def CE.ite (c : CT) (a b : CE) : CE where
  t := fun G W => tIf (c.t G W) (a.t G W) (b.t G W)
  ev := fun env => (c.ev env).bind fun x e1 => if x = true then a.ev e1 else b.ev e1
  ok := fun {G B σ env H I W Q} S P => c.ok S (Post.bind P fun x e1 v H1 I1 S1 ex1 r1 P1 => by
    subst r1
    cases v with
    | true => exact a.ok S1 P1
    | false => exact b.ok S1 P1)
  pu := c.pu && a.pu && b.pu
  pok := fun p env d env' h => by
    rw [Bool.and_eq_true, Bool.and_eq_true] at p
    obtain ⟨x, e1, h1, h⟩ := R.bind_eq_ok h
    have := c.pok p.1.1 _ _ _ h1
    cases x with
    | true => rw [← this]; exact a.pok p.1.2 _ _ _ h
    | false => rw [← this]; exact b.pok p.2 _ _ _ h
/-- a op b op' c -/
def CE.chain (r r' : Gm → R2) (f f' : D → D → Option D) (h : BinOk r f) (h' : BinOk r' f') (a b c : CE) : CE where
  t := fun G W => tChain (r G) (r' G) (a.t G W) (b.t G W) (c.t G W)
  ev := fun env => (a.ev env).bind fun x e1 => (b.ev e1).bind fun y e2 => (R.lift (f x y) e2).bind fun q e3 => match q with
    | .bool true => (c.ev e3).bind fun z e4 => R.lift (f' y z) e4
    | .bool false => .ok (.bool false) e3
    | _ => .bad
  ok := fun {G B σ env H I W Q} S P => a.ok S (Post.bind P fun x e1 v H1 I1 S1 ex1 r1 P1 => b.ok S1 (Post.bind P1 fun y e2 w H2 I2 S2 ex2 r2 P2 => by
    cases q : f x y with
    | none => rw [q] at P2; exact P2.elim
    | some d =>
      rw [q] at P2
      refine h S2 (r1.mono ex2) r2 q fun u H3 I3 S3 ex3 r3 => ?_
      have P2 := P2.mono ex3
      cases r3 with
      | bl k =>
        cases k with
        | true =>
          refine ⟨true, rfl, ?_⟩
          show c.t G W σ H3 _
          refine c.ok S3 (Post.bind P2 fun z e4 w2 H4 I4 S4 ex4 r4 P4 => ?_)
          cases q' : f' y z with
          | none => rw [q'] at P4; exact P4.elim
          | some d => rw [q'] at P4; exact h' S4 ((r2.mono ex3).mono ex4) r4 q' P4
        | false => exact ⟨false, rfl, P2 _ H3 I3 S3 (Ex.refl _) (.bl _)⟩
      | _ => exact P2.elim))
  pu := a.pu && b.pu && c.pu
  pok := fun p env d env' h => by
    rw [Bool.and_eq_true, Bool.and_eq_true] at p
    obtain ⟨x, e1, h1, h⟩ := R.bind_eq_ok h
    obtain ⟨y, e2, h2, h⟩ := R.bind_eq_ok h
    obtain ⟨z, e3, h3, h⟩ := R.bind_eq_ok h
    have t1 := a.pok p.1.1 _ _ _ h1
    have t2 := b.pok p.1.2 _ _ _ h2
    have t3 := (R.lift_eq_ok h3).2
    split at h
    · obtain ⟨w, e4, h4, h⟩ := R.bind_eq_ok h
      rw [(R.lift_eq_ok h).2, c.pok p.2 _ _ _ h4, t3, t2, t1]
    · cases h; rw [t3, t2, t1]
    · cases h

/-! ### operators -/
def BIG : Nat := 10 ^ 1200
theorem log2_big {n : Nat} (h : n < BIG) : n.log2 < 4000 := by
  by_cases e : n = 0
  · subst e; decide
  · rw [Nat.log2_lt e]
    exact Nat.lt_trans h (by unfold BIG; decide +kernel)
def sm (i : Int) : Bool := lk (decide (i.natAbs < BIG))
def fAdd : D → D → Option D
  | .int i, .int j => some (.int (i + j))
  | _, _ => none
def fSub : D → D → Option D
  | .int i, .int j => some (.int (i - j))
  | _, _ => none
def fMul : D → D → Option D
  | .int i, .int j => if sm i && sm j then some (.int (i * j)) else none
  | _, _ => none
def fDiv : D → D → Option D
  | .int i, .int j => if lk (decide (0 < j)) && sm j then some (.int (i / j)) else none
  | _, _ => none
def fMod : D → D → Option D
  | .int i, .int j => if lk (decide (0 < j)) then some (.int (i % j)) else none
  | _, _ => none
def fPow : D → D → Option D
  | .int i, .int j => if lk (decide (0 ≤ j)) && lk (decide (j ≤ 1000)) && lk (decide (i.natAbs < 2 ^ 64)) then some (.int (i ^ j.toNat)) else none
  | _, _ => none
def fCmp (p : Int → Int → Bool) : D → D → Option D
  | .int i, .int j => some (.bool (p i j))
  | _, _ => none
def fEq (neg : Bool) (d e : D) : Option D := if SeqAt.shaped d && SeqAt.shaped e then some (.bool (if neg then !PyData.eqv d e else PyData.eqv d e)) else none
def fIs (neg : Bool) : D → D → Option D
  | .bool a, .bool b => some (.bool (if neg then !decide (a = b) else decide (a = b)))
  | _, _ => none
def isNone : D → Bool
  | .none => true
  | _ => false
def fIsN (neg : Bool) (d e : D) : Option D := match e with
  | .none => some (.bool (if neg then !isNone d else isNone d))
  | _ => none
def fAddS : D → D → Option D
  | .str x, .str y => if lineOk (x.length + y.length) then some (.str (x ++ y)) else none
  | _, _ => none
def fCat : D → D → Option D
  | .list xs, .list ys => if lineOk (xs.length + ys.length) then some (.list (xs ++ ys)) else none
  | _, _ => none
def fRep : D → D → Option D
  | .list xs, .int k => if lk (decide (-100000 ≤ k)) && lk (decide (k ≤ 100000)) && lineOk (xs.length * k.toNat) then some (.list (List.replicate k.toNat xs).flatten) else none
  | _, _ => none
def flatD : D → Bool
  | .none => true
  | .bool _ => true
  | .int _ => true
  | .str _ => true
  | _ => false
def fIn (neg : Bool) (d e : D) : Option D := match e with
  | .list xs => if flatD d && xs.all flatD then some (.bool (if neg then !(xs.any fun y => PyData.eqv y d) else xs.any fun y => PyData.eqv y d)) else none
  | .tuple xs => if flatD d && xs.all flatD then some (.bool (if neg then !(xs.any fun y => PyData.eqv y d) else xs.any fun y => PyData.eqv y d)) else none
  | _ => none
def fInS : D → D → Option D
  | .str c, .str z => match c.cps.toList with
    | [k] => some (.bool (decide (k ∈ z.cps.toList)))
    | _ => none
  | _, _ => none
def fIx : D → D → Option D
  | .list xs, .int i => atI xs i
  | .tuple xs, .int i => atI xs i
  | .str z, .int i => if lineOk z.length then (atI z.cps.toList i).map fun c => .str ⟨#[c]⟩ else none
  | _, _ => none

theorem atI_get {α : Type} {xs : List α} {i : Int} {d : α} (h : atI xs i = some d) : ∃ j, ixN xs.length i = some j ∧ xs[j]? = some d := by
  unfold atI at h
  cases q : ixN xs.length i with
  | none => rw [q] at h; cases h
  | some j => rw [q] at h; exact ⟨j, rfl, h⟩
theorem Reps.atI {G : Gm} {I : Hp} {vs : List V} {ds : List D} {i : Int} {d : D} (r : Reps G I vs ds) (h : L2.atI ds i = some d) : ∃ v, L2.atI vs i = some v ∧ Rep G I v d := by
  obtain ⟨j, h1, h2⟩ := atI_get h
  obtain ⟨v, h3, h4⟩ := r.get h2
  refine ⟨v, ?_, h4⟩
  unfold L2.atI
  rw [r.length, h1]
  exact h3
theorem flat_rep {G : Gm} {I : Hp} {v : V} {d : D} (r : Rep G I v d) (f : flatD d = true) : flatV v = true := by
  cases r <;> first | rfl | cases f
theorem flat_reps {G : Gm} {I : Hp} : ∀ {vs : List V} {ds : List D}, Reps G I vs ds → ds.all flatD = true → vs.all flatV = true
  | _, _, .nil, _ => rfl
  | _, _, .cons h r, f => by
    rw [List.all_cons, Bool.and_eq_true] at f ⊢
    exact ⟨flat_rep h f.1, flat_reps r f.2⟩
theorem eqV_rep {G : Gm} {I : Hp} {v w : V} {d e : D} (r : Rep G I v d) (q : Rep G I w e) (f : flatD d = true) (g : flatD e = true) : eqV v w = PyData.eqv d e := by
  cases r <;> cases q <;> first | (cases f; done) | (cases g; done) | rfl | (simp [eqV, PyData.eqv]; done)
theorem inV_rep {G : Gm} {I : Hp} {v : V} {d : D} (r : Rep G I v d) (f : flatD d = true) : ∀ {vs : List V} {ds : List D}, Reps G I vs ds → ds.all flatD = true → inV v vs = ds.any fun y => PyData.eqv y d
  | _, _, .nil, _ => rfl
  | _, _, .cons h q, g => by
    rw [List.all_cons, Bool.and_eq_true] at g
    unfold inV
    rw [List.any_cons, List.any_cons, eqV_rep h r g.1 f]
    have := inV_rep r f q g.2
    unfold inV at this
    rw [this]

theorem bAdd : BinOk (fun _ => rI0 fun i j => .int (i + j)) fAdd := by
  intro G B σ env H I x y d1 d2 d Q S r1 r2 h k
  cases r1 <;> cases r2 <;> cases h
  exact ⟨_, _, rfl, rfl, k _ H I S (Ex.refl _) (.int _)⟩
theorem bSub : BinOk (fun _ => rI0 fun i j => .int (i - j)) fSub := by
  intro G B σ env H I x y d1 d2 d Q S r1 r2 h k
  cases r1 <;> cases r2 <;> cases h
  exact ⟨_, _, rfl, rfl, k _ H I S (Ex.refl _) (.int _)⟩
theorem bMul : BinOk (fun _ => rI CMulW fun i j => .int (i * j)) fMul := by
  intro G B σ env H I x y d1 d2 d Q S r1 r2 h k
  cases r1 <;> cases r2 <;> first | (cases h; done) | skip
  rename_i i j
  simp only [fMul] at h
  split at h
  · rename_i c
    cases h
    rw [Bool.and_eq_true] at c
    have l1 := log2_big (of_lk c.1)
    have l2 := log2_big (of_lk c.2)
    exact ⟨_, _, rfl, rfl, by unfold CMulW; omega, k _ H I S (Ex.refl _) (.int _)⟩
  · cases h
theorem bDiv : BinOk (fun _ => rI CDivW fun i j => .int (i / j)) fDiv := by
  intro G B σ env H I x y d1 d2 d Q S r1 r2 h k
  cases r1 <;> cases r2 <;> first | (cases h; done) | skip
  rename_i i j
  simp only [fDiv] at h
  split at h
  · rename_i c
    cases h
    rw [Bool.and_eq_true] at c
    have l2 := log2_big (of_lk c.2)
    exact ⟨_, _, rfl, rfl, ⟨of_lk c.1, by omega⟩, k _ H I S (Ex.refl _) (.int _)⟩
  · cases h
theorem bMod : BinOk (fun _ => rI (fun _ j => j ≠ 0) fun i j => .int (i.fmod j)) fMod := by
  intro G B σ env H I x y d1 d2 d Q S r1 r2 h k
  cases r1 <;> cases r2 <;> first | (cases h; done) | skip
  rename_i i j
  simp only [fMod] at h
  split at h
  · rename_i c
    cases h
    have c := of_lk c
    refine ⟨_, _, rfl, rfl, by omega, ?_⟩
    show Q (.int (i.fmod j)) H
    rw [Int.fmod_eq_emod_of_nonneg i (show 0 ≤ j by omega)]
    exact k _ H I S (Ex.refl _) (.int _)
  · cases h
theorem bPow : BinOk (fun _ => rI CPow fun i j => .int (i ^ j.toNat)) fPow := by
  intro G B σ env H I x y d1 d2 d Q S r1 r2 h k
  cases r1 <;> cases r2 <;> first | (cases h; done) | skip
  rename_i i j
  simp only [fPow] at h
  split at h
  · rename_i c
    cases h
    rw [Bool.and_eq_true, Bool.and_eq_true] at c
    have c1 := of_lk c.1.1
    have c2 := of_lk c.1.2
    have c3 := of_lk c.2
    exact ⟨_, _, rfl, rfl, ⟨c1, by omega, c3⟩, k _ H I S (Ex.refl _) (.int _)⟩
  · cases h
theorem bCmp (p : Int → Int → Bool) : BinOk (fun _ => rI0 fun i j => .bl (p i j)) (fCmp p) := by
  intro G B σ env H I x y d1 d2 d Q S r1 r2 h k
  cases r1 <;> cases r2 <;> cases h
  exact ⟨_, _, rfl, rfl, k _ H I S (Ex.refl _) (.bl _)⟩
theorem bEq : BinOk (fun G => rEqD G.K) (fEq false) := by
  intro G B σ env H I x y d1 d2 d Q S r1 r2 h k
  unfold fEq at h
  split at h
  · rename_i c
    cases h
    rw [Bool.and_eq_true] at c
    exact ⟨d1, d2, r1.dp S.ih (SeqAt.canLay_of_shaped c.1), r2.dp S.ih (SeqAt.canLay_of_shaped c.2), c.1, c.2, k _ H I S (Ex.refl _) (.bl _)⟩
  · cases h
theorem bNe : BinOk (fun G => rNeD G.K) (fEq true) := by
  intro G B σ env H I x y d1 d2 d Q S r1 r2 h k
  unfold fEq at h
  split at h
  · rename_i c
    cases h
    rw [Bool.and_eq_true] at c
    exact ⟨d1, d2, r1.dp S.ih (SeqAt.canLay_of_shaped c.1), r2.dp S.ih (SeqAt.canLay_of_shaped c.2), c.1, c.2, k _ H I S (Ex.refl _) (.bl _)⟩
  · cases h
theorem bIsB : BinOk (fun _ => rIsB) (fIs false) := by
  intro G B σ env H I x y d1 d2 d Q S r1 r2 h k
  cases r1 <;> cases r2 <;> cases h
  exact ⟨_, _, rfl, rfl, k _ H I S (Ex.refl _) (.bl _)⟩
theorem bNotB : BinOk (fun _ => rNotB) (fIs true) := by
  intro G B σ env H I x y d1 d2 d Q S r1 r2 h k
  cases r1 <;> cases r2 <;> cases h
  exact ⟨_, _, rfl, rfl, k _ H I S (Ex.refl _) (.bl _)⟩
def rIsNone : R2 := fun x y H Q => y = .non ∧ Q (.bl (decide (x = .non))) H
def rNotNone : R2 := fun x y H Q => y = .non ∧ Q (.bl (!decide (x = .non))) H
theorem isNone_rep {G : Gm} {I : Hp} {v : V} {d : D} (r : Rep G I v d) : decide (v = .non) = isNone d := by
  cases r <;> simp [isNone]
theorem bIsN : BinOk (fun _ => rIsNone) (fIsN false) := by
  intro G B σ env H I x y d1 d2 d Q S r1 r2 h k
  cases r2 <;> cases h
  refine ⟨rfl, ?_⟩
  rw [isNone_rep r1]
  exact k _ H I S (Ex.refl _) (.bl _)
theorem bNotN : BinOk (fun _ => rNotNone) (fIsN true) := by
  intro G B σ env H I x y d1 d2 d Q S r1 r2 h k
  cases r2 <;> cases h
  refine ⟨rfl, ?_⟩
  rw [isNone_rep r1]
  exact k _ H I S (Ex.refl _) (.bl _)
def rAddS : R2 := fun x y H Q => ∃ i j, x = .str i ∧ y = .str j ∧ i.length + j.length ≤ sizeLine ∧ Q (.str (i ++ j)) H
theorem bAddS : BinOk (fun _ => rAddS) fAddS := by
  intro G B σ env H I x y d1 d2 d Q S r1 r2 h k
  cases r1 <;> cases r2 <;> first | (cases h; done) | skip
  simp only [fAddS] at h
  split at h
  · rename_i c
    cases h
    exact ⟨_, _, rfl, rfl, lineOk_le c, k _ H I S (Ex.refl _) (.str _)⟩
  · cases h
theorem bCat : BinOk (fun _ => rCat) fCat := by
  intro G B σ env H I x y d1 d2 d Q S r1 r2 h k
  cases r1 <;> cases r2 <;> first | (cases h; done) | skip
  rename_i a xs ds h1 q1 b ys es h2 q2
  simp only [fCat] at h
  split at h
  · rename_i c
    cases h
    refine ⟨a, b, xs, ys, rfl, rfl, S.ih _ _ h1, S.ih _ _ h2, by rw [q1.length, q2.length]; exact lineOk_le c, fun p hp => ?_⟩
    obtain ⟨S2, e2⟩ := S.alloc (o := .lst (xs ++ ys)) hp
    exact k _ _ _ S2 e2 (.lst upd_same ((q1.app q2).mono e2))
  · cases h
theorem Reps.rep {G : Gm} {I : Hp} {vs : List V} {ds : List D} (r : Reps G I vs ds) : ∀ n : Nat, Reps G I (List.replicate n vs).flatten (List.replicate n ds).flatten
  | 0 => .nil
  | n + 1 => by rw [List.replicate_succ, List.replicate_succ, List.flatten_cons, List.flatten_cons]; exact r.app (Reps.rep r n)
theorem bIx : BinOk (fun G => rIx G.K) fIx := by
  intro G B σ env H I x y d1 d2 d Q S r1 r2 h k
  cases r1 with
  | lst h1 q1 =>
    cases r2 <;> first | (cases h; done) | skip
    obtain ⟨v, e1, e2⟩ := q1.atI h
    exact .inl ⟨_, _, _, v, rfl, rfl, .inl (.inl (S.ih _ _ h1)), e1, k v H I S (Ex.refl _) e2⟩
  | tup h1 q1 =>
    cases r2 <;> first | (cases h; done) | skip
    obtain ⟨v, e1, e2⟩ := q1.atI h
    exact .inr (.inl ⟨_, _, _, v, rfl, rfl, .inl (.inl (S.ih _ _ h1)), e1, k v H I S (Ex.refl _) e2⟩)
  | str z =>
    cases r2 <;> first | (cases h; done) | skip
    rename_i i
    simp only [fIx] at h
    split at h
    · rename_i c
      cases q : atI z.cps.toList i with
      | none => rw [q] at h; cases h
      | some w =>
        rw [q] at h
        cases h
        exact .inr (.inr ⟨z, i, w, rfl, rfl, lineOk_le c, q, k _ H I S (Ex.refl _) (.str _)⟩)
    · cases h
  | _ => cases r2 <;> cases h
theorem bIn : BinOk (fun G => rIn G.K false) (fIn false) := by
  intro G B σ env H I x y d1 d2 d Q S r1 r2 h k
  cases r2 with
  | lst h1 q1 =>
    simp only [fIn] at h
    split at h
    · rename_i c
      cases h
      rw [Bool.and_eq_true] at c
      refine ⟨_, _, rfl, .inl (.inl (.inl (S.ih _ _ h1))), flat_rep r1 c.1, flat_reps q1 c.2, ?_⟩
      rw [inV_rep r1 c.1 q1 c.2]
      exact k _ H I S (Ex.refl _) (.bl _)
    · cases h
  | tup h1 q1 =>
    simp only [fIn] at h
    split at h
    · rename_i c
      cases h
      rw [Bool.and_eq_true] at c
      refine ⟨_, _, rfl, .inr (.inl (.inl (S.ih _ _ h1))), flat_rep r1 c.1, flat_reps q1 c.2, ?_⟩
      rw [inV_rep r1 c.1 q1 c.2]
      exact k _ H I S (Ex.refl _) (.bl _)
    · cases h
  | _ => cases h
theorem bNotIn : BinOk (fun G => rIn G.K true) (fIn true) := by
  intro G B σ env H I x y d1 d2 d Q S r1 r2 h k
  cases r2 with
  | lst h1 q1 =>
    simp only [fIn] at h
    split at h
    · rename_i c
      cases h
      rw [Bool.and_eq_true] at c
      refine ⟨_, _, rfl, .inl (.inl (.inl (S.ih _ _ h1))), flat_rep r1 c.1, flat_reps q1 c.2, ?_⟩
      rw [inV_rep r1 c.1 q1 c.2]
      exact k _ H I S (Ex.refl _) (.bl _)
    · cases h
  | tup h1 q1 =>
    simp only [fIn] at h
    split at h
    · rename_i c
      cases h
      rw [Bool.and_eq_true] at c
      refine ⟨_, _, rfl, .inr (.inl (.inl (S.ih _ _ h1))), flat_rep r1 c.1, flat_reps q1 c.2, ?_⟩
      rw [inV_rep r1 c.1 q1 c.2]
      exact k _ H I S (Ex.refl _) (.bl _)
    · cases h
  | _ => cases h
def rInSign : R2 := fun x y H Q => ∃ (c : Nat) (z : Str), x = .str ⟨#[c]⟩ ∧ y = .str z ∧ Q (.bl (decide (c ∈ z.cps.toList))) H
theorem bInS : BinOk (fun _ => rInSign) fInS := by
  intro G B σ env H I x y d1 d2 d Q S r1 r2 h k
  cases r1 <;> cases r2 <;> first | (cases h; done) | skip
  rename_i c z
  simp only [fInS] at h
  split at h
  · rename_i u e
    cases h
    have : c = ⟨#[u]⟩ := by
      obtain ⟨cp⟩ := c
      congr 1
      apply Array.ext'
      simpa using e
    subst this
    exact ⟨_, _, rfl, rfl, k _ H I S (Ex.refl _) (.bl _)⟩
  · cases h
/-- [..] * k, the list just made -/
theorem bRep : BinOk (fun _ => rRep) fRep := by
  intro G B σ env H I x y d1 d2 d Q S r1 r2 h k
  cases r1 <;> cases r2 <;> first | (cases h; done) | skip
  rename_i a xs ds h1 q1 n
  simp only [fRep] at h
  split at h
  · rename_i c
    cases h
    rw [Bool.and_eq_true, Bool.and_eq_true] at c
    have c1 := of_lk c.1.1
    have c2 := of_lk c.1.2
    refine ⟨_, _, xs, rfl, rfl, S.ih _ _ h1, by omega, by omega, by rw [q1.length]; exact lineOk_le c.2, fun p hp => ?_⟩
    obtain ⟨S2, e2⟩ := S.alloc (o := .lst (List.replicate n.toNat xs).flatten) hp
    exact k _ _ _ S2 e2 (.lst upd_same ((q1.rep n.toNat).mono e2))
  · cases h

def CE.leLe := CE.chain _ _ _ _ (bCmp fun i j => decide (i ≤ j)) (bCmp fun i j => decide (i ≤ j))
def CE.leLt := CE.chain _ _ _ _ (bCmp fun i j => decide (i ≤ j)) (bCmp fun i j => decide (i < j))
def CE.add := CE.bin _ fAdd bAdd
def CE.sub := CE.bin _ fSub bSub
def CE.mul := CE.bin _ fMul bMul
def CE.div := CE.bin _ fDiv bDiv
def CE.mod := CE.bin _ fMod bMod
def CE.pow := CE.bin _ fPow bPow
def CE.lt := CE.bin _ (fCmp fun i j => decide (i < j)) (bCmp _)
def CE.le := CE.bin _ (fCmp fun i j => decide (i ≤ j)) (bCmp _)
def CE.gt := CE.bin _ (fCmp fun i j => decide (j < i)) (bCmp _)
def CE.ge := CE.bin _ (fCmp fun i j => decide (j ≤ i)) (bCmp _)
def CE.eq := CE.bin _ (fEq false) bEq
def CE.ne := CE.bin _ (fEq true) bNe
def CE.isB := CE.bin _ (fIs false) bIsB
def CE.notB := CE.bin _ (fIs true) bNotB
def CE.isN := CE.bin _ (fIsN false) bIsN
def CE.notN := CE.bin _ (fIsN true) bNotN
def CE.addS := CE.bin _ fAddS bAddS
def CE.cat := CE.bin _ fCat bCat
def CE.rep := CE.bin _ fRep bRep
def CE.ix := CE.bin _ fIx bIx
def CE.isIn := CE.bin _ (fIn false) bIn
def CE.notIn := CE.bin _ (fIn true) bNotIn
def CE.inS := CE.bin _ fInS bInS
end FD
set_option Elab.async false
set_option linter.all false
set_option maxRecDepth 100000
set_option maxHeartbeats 4000000
noncomputable section
namespace FD
open PySem L2

/-! ### calls of defs -/
inductive RF where
  | ok (d : D)
  | err (k : Nat)
  | bad
inductive RM where
  | ok (d : D) (o : OD)
  | err (k : Nat) (o : OD)
  | bad
def RF.to (r : RF) (env : Env) : R D := match r with
  | .ok d => .ok d env
  | .err k => .err k env
  | .bad => .bad
/-- the promise of a def that is a function of data -/
def spOf (G : Gm) (n : Nat) (φ : List D → RF) : Sp := fun vs H Q E => vs.length = n ∧ ∃ I ds, Ex I H ∧ Reps G I vs ds ∧ match φ ds with
  | .ok d => ∀ v H' I', Ex I I' → Ex I' H' → (∀ b o, I' b = some o → I b = none → H b = none) → Ex H H' → Rep G I' v d → Q v H'
  | .err k => ∀ H', Ex H H' → E (.ref (G.cls k)) none H'
  | .bad => False
/-- .. whose first argument is an object that it changes -/
def spOfM (G : Gm) (n : Nat) (φ : OD → List D → RM) : Sp := fun vs H Q E => vs.length = n + 1 ∧ ∃ I v0 ws ds o bs, vs = v0 :: ws ∧ Ex I H ∧ Reps G I ws ds ∧ Own G I H v0 o bs ∧ o.kind ≠ 0 ∧ bs.Nodup ∧ (∀ a ∈ bs, I a = none) ∧ match φ o ds with
  | .ok d o' => ∀ v H' I', Ex I I' → Ex I' H' → (∀ b x, I' b = some x → I b = none → H b = none) → (∀ b x, H b = some x → b ∉ bs → H' b = some x) → Own G I' H' v0 o' bs → Rep G I' v d → Q v H'
  | .err k o' => ∀ H' I', Ex I I' → Ex I' H' → (∀ b x, I' b = some x → I b = none → H b = none) → (∀ b x, H b = some x → b ∉ bs → H' b = some x) → Own G I' H' v0 o' bs → E (.ref (G.cls k)) none H'
  | .bad => False

def CE.call (n : Nat) (φ : List D → RF) (a : CA) : CE where
  t := fun G W => tCallS (spOf G n φ) (WE W) (a.t G W)
  ev := fun env => (a.ev env).bind fun xs e1 => if xs.length = n then (φ xs).to e1 else .bad
  ok := fun {G B σ env H I W Q} S P => a.ok S (Post.bind P fun xs e1 vs H1 I1 S1 ex1 r1 P1 => by
    by_cases hl : xs.length = n
    · rw [if_pos hl] at P1
      refine ⟨by rw [r1.length]; exact hl, I1, xs, S1.ih, r1, ?_⟩
      cases q : φ xs with
      | ok d => rw [q] at P1; exact fun v H' I' e eh nw k r => P1 v H' I' (S1.step e eh nw k) e r
      | err k => rw [q] at P1; exact fun H' kp => P1 H' I1 (S1.step (Ex.refl _) (S1.ih.trans kp) (fun b o h1 h2 => by rw [h1] at h2; cases h2) kp) (Ex.refl _)
      | bad => rw [q] at P1; exact P1.elim
    · rw [if_neg hl] at P1; exact P1.elim)
  pu := a.pu
  pok := fun p env d env' h => by
    obtain ⟨x, e1, h1, h⟩ := R.bind_eq_ok h
    split at h
    · cases q : φ x with
      | ok d => rw [q] at h; cases h; exact a.pok p _ _ _ h1
      | err k => rw [q] at h; cases h
      | bad => rw [q] at h; cases h
    · cases h
def Env.ow (env : Env) (i : Nat) : Option OD := match env[i]? with
  | some (some (.ow o)) => some o
  | _ => none
theorem Env.ow_eq {env : Env} {i : Nat} {o : OD} (h : Env.ow env i = some o) : env[i]? = some (some (.ow o)) := by
  unfold Env.ow at h
  split at h
  · rename_i d' e; cases h; exact e
  · cases h
def RM.to (r : RM) (kd : Nat) (i : Nat) (env : Env) : R D := match r with
  | .ok d o => if o.kind = kd then .ok d (env.set i (some (.ow o))) else .bad
  | .err k o => if o.kind = kd then .err k (env.set i (some (.ow o))) else .bad
  | .bad => .bad
/-- f(x, ..), x the name at slot i, an object that f changes -/
def CE.callM (n : Nat) (φ : OD → List D → RM) (i : Nat) (a : CA) : CE where
  t := fun G W => tCallS (spOfM G n φ) (WE W) (tCons (tVar i) (a.t G W))
  ev := fun env => (R.lift (Env.ow env i) env).bind fun _ e0 => (a.ev e0).bind fun xs e1 => (R.lift (Env.ow e1 i) e1).bind fun o e2 => if xs.length = n ∧ o.kind ≠ 0 then (φ o xs).to o.kind i e2 else .bad
  ok := fun {G B σ env H I W Q} S P => by
    cases h0 : Env.ow env i with
    | none => rw [h0] at P; exact P.elim
    | some o0 =>
      rw [h0] at P
      obtain ⟨v, _, hv, _⟩ := S.own (Env.ow_eq h0)
      refine ⟨v, hv, a.ok S (Post.bind P fun xs e1 vs H1 I1 S1 ex1 r1 P1 => ?_)⟩
      cases h1 : Env.ow e1 i with
      | none => rw [h1] at P1; exact P1.elim
      | some o =>
        rw [h1] at P1
        obtain ⟨v', bs, hv', q1, q2, q3, q4⟩ := S1.own (Env.ow_eq h1)
        have ev : v' = v := by rw [hv] at hv'; cases hv'; rfl
        subst ev
        have P1 : Post G B σ W (Rep G) I1 Q (if xs.length = n ∧ o.kind ≠ 0 then (φ o xs).to o.kind i e1 else .bad) := P1
        by_cases hl : xs.length = n ∧ o.kind ≠ 0
        · rw [if_pos hl] at P1
          refine ⟨by rw [List.length_cons, r1.length, hl.1], I1, v', vs, xs, o, bs, rfl, S1.ih, r1, q1, hl.2, q2, q3, ?_⟩
          cases q : φ o xs with
          | ok d o' =>
            rw [q] at P1
            by_cases hk : o'.kind = o.kind
            · have P1 : Post G B σ W (Rep G) I1 Q (if o'.kind = o.kind then .ok d (e1.set i (some (.ow o'))) else .bad) := P1
              rw [if_pos hk] at P1
              exact fun w H' I' e eh nw k ow r => P1 w H' I' (q4 H' I' o' e eh nw k hk ow) e r
            · have P1 : Post G B σ W (Rep G) I1 Q (if o'.kind = o.kind then .ok d (e1.set i (some (.ow o'))) else .bad) := P1
              rw [if_neg hk] at P1
              exact P1.elim
          | err k o' =>
            rw [q] at P1
            by_cases hk : o'.kind = o.kind
            · have P1 : Post G B σ W (Rep G) I1 Q (if o'.kind = o.kind then .err k (e1.set i (some (.ow o'))) else .bad) := P1
              rw [if_pos hk] at P1
              exact fun H' I' e eh nw k ow => P1 H' I' (q4 H' I' o' e eh nw k hk ow) e
            · have P1 : Post G B σ W (Rep G) I1 Q (if o'.kind = o.kind then .err k (e1.set i (some (.ow o'))) else .bad) := P1
              rw [if_neg hk] at P1
              exact P1.elim
          | bad => rw [q] at P1; exact P1.elim
        · rw [if_neg hl] at P1; exact P1.elim
  pu := false
  pok := fun p => by cases p

/-! ### built-ins by their values -/
def CbOk (r : Gm → List V → Hp → VK → Prop) (f : List D → Option D) : Prop := ∀ {G : Gm} {B : Bs} {σ : L2.St} {env : Env} {H I : Hp} {vs : List V} {ds : List D} {d : D} {Q : VK}, Sim G B σ env H I → Reps G I vs ds → f ds = some d →
  (∀ v H' I', Sim G B σ env H' I' → Ex I I' → Rep G I' v d → Q v H') → r G vs H Q
def CE.cb (r : Gm → List V → Hp → VK → Prop) (f : List D → Option D) (h : CbOk r f) (a : CA) : CE where
  t := fun G W => tCB (r G) (a.t G W)
  ev := fun env => (a.ev env).bind fun xs e1 => R.lift (f xs) e1
  ok := fun {G B σ env H I W Q} S P => a.ok S (Post.bind P fun xs e1 vs H1 I1 S1 ex1 r1 P1 => by
    cases q : f xs with
    | none => rw [q] at P1; exact P1.elim
    | some d => rw [q] at P1; exact h S1 r1 q P1)
  pu := a.pu
  pok := fun p env d env' h => by
    obtain ⟨x, e1, h1, h⟩ := R.bind_eq_ok h
    rw [(R.lift_eq_ok h).2, a.pok p _ _ _ h1]

/-! ### new lists -/
def LPost (G : Gm) (B : Bs) (σ : L2.St) (W : WX) (I : Hp) (Q : VK) : R (List D) → Prop
  | .ok ds env' => ∀ p vs H' I', Sim G B σ env' H' I' → Ex I I' → H' p = none → Reps G I' vs ds → Q (.ref p) (upd H' p (.lst vs))
  | .err k env' => ∀ H' I', Sim G B σ env' H' I' → Ex I I' → W (.ref (G.cls k)) none σ H'
  | .bad => False
theorem LPost.mono {G : Gm} {B : Bs} {σ : L2.St} {W : WX} {I J : Hp} {Q : VK} {r : R (List D)} (e : Ex I J) (P : LPost G B σ W I Q r) : LPost G B σ W J Q r := by
  cases r with
  | ok a env => exact fun p v H' I' S e' r => P p v H' I' S (e.trans e') r
  | err k env => exact fun H' I' S e' => P H' I' S (e.trans e')
  | bad => exact P
theorem LPost.bind {α β : Type} {G : Gm} {B : Bs} {σ : L2.St} {W : WX} {I : Hp} {Q2 : VK} {Rel : Hp → β → α → Prop} {Q : β → Hp → Prop} {r : R α} {f : α → Env → R (List D)} (P : LPost G B σ W I Q2 (r.bind f))
    (k : ∀ a env' v H' I', Sim G B σ env' H' I' → Ex I I' → Rel I' v a → LPost G B σ W I' Q2 (f a env') → Q v H') : Post G B σ W Rel I Q r := by
  cases r with
  | ok a env => exact fun v H' I' S e r => k a env v H' I' S e r (LPost.mono e P)
  | err k env => exact P
  | bad => exact P
structure CL where
  t : Gm → WX → TE
  ev : Env → R (List D)
  ok : ∀ {G : Gm} {B : Bs} {σ : L2.St} {env : Env} {H I : Hp} {W : WX} {Q : VK}, Sim G B σ env H I → LPost G B σ W I Q (ev env) → t G W σ H Q
  pu : Bool
  pok : pu = true → ∀ env d env', ev env = .ok d env' → env' = env
/-- a new list as a value -/
def CE.ofL (a : CL) : CE where
  t := a.t
  ev := fun env => (a.ev env).bind fun xs e1 => .ok (.list xs) e1
  ok := fun {G B σ env H I W Q} S P => a.ok S (by
    cases q : a.ev env with
    | ok ds e1 =>
      rw [q] at P
      intro p vs H' I' S' e hp r
      obtain ⟨S2, e2⟩ := S'.alloc (o := .lst vs) hp
      exact P _ _ _ S2 (e.trans e2) (.lst upd_same (r.mono e2))
    | err k e1 => rw [q] at P; exact P
    | bad => rw [q] at P; exact P)
  pu := a.pu
  pok := fun p env d env' h => by
    obtain ⟨x, e1, h1, h⟩ := R.bind_eq_ok h
    cases h
    exact a.pok p _ _ _ h1
def CL.disp (a : CA) : CL where
  t := fun G W => tLst (a.t G W)
  ev := fun env => (a.ev env).bind fun xs e1 => if lineOk xs.length then .ok xs e1 else .bad
  ok := fun {G B σ env H I W Q} S P => a.ok S (LPost.bind P fun xs e1 vs H1 I1 S1 ex1 r1 P1 => by
    cases q : lineOk xs.length with
    | false => rw [q] at P1; exact P1.elim
    | true =>
      rw [q] at P1
      exact ⟨by rw [r1.length]; exact lineOk_le q, fun p hp => P1 p vs H1 I1 S1 (Ex.refl _) hp r1⟩)
  pu := a.pu
  pok := fun p env d env' h => by
    obtain ⟨x, e1, h1, h⟩ := R.bind_eq_ok h
    split at h
    · cases h; exact a.pok p _ _ _ h1
    · cases h
/-- a binary operation that makes a new list -/
def BinLOk (r : Gm → R2) (f : D → D → Option (List D)) : Prop := ∀ {G : Gm} {B : Bs} {σ : L2.St} {env : Env} {H I : Hp} {x y : V} {d1 d2 : D} {ds : List D} {Q : VK}, Sim G B σ env H I → Rep G I x d1 → Rep G I y d2 → f d1 d2 = some ds →
  (∀ p vs H' I', Sim G B σ env H' I' → Ex I I' → H' p = none → Reps G I' vs ds → Q (.ref p) (upd H' p (.lst vs))) → r G x y H Q
def CL.bin (r : Gm → R2) (f : D → D → Option (List D)) (h : BinLOk r f) (a b : CE) : CL where
  t := fun G W => tOp (r G) (a.t G W) (b.t G W)
  ev := fun env => (a.ev env).bind fun x e1 => (b.ev e1).bind fun y e2 => R.lift (f x y) e2
  ok := fun {G B σ env H I W Q} S P => a.ok S (LPost.bind P fun x e1 v H1 I1 S1 ex1 r1 P1 => b.ok S1 (LPost.bind P1 fun y e2 w H2 I2 S2 ex2 r2 P2 => by
    cases q : f x y with
    | none => rw [q] at P2; exact P2.elim
    | some d => rw [q] at P2; exact h S2 (r1.mono ex2) r2 q P2))
  pu := a.pu && b.pu
  pok := fun p env d env' h => by
    rw [Bool.and_eq_true] at p
    obtain ⟨x, e1, h1, h⟩ := R.bind_eq_ok h
    obtain ⟨y, e2, h2, h⟩ := R.bind_eq_ok h
    rw [(R.lift_eq_ok h).2, b.pok p.2 _ _ _ h2, a.pok p.1 _ _ _ h1]
def fRepL : D → D → Option (List D)
  | .list xs, .int k => if lk (decide (-100000 ≤ k)) && lk (decide (k ≤ 100000)) && lineOk (xs.length * k.toNat) then some (List.replicate k.toNat xs).flatten else none
  | _, _ => none
theorem bRepL : BinLOk (fun _ => rRep) fRepL := by
  intro G B σ env H I x y d1 d2 d Q S r1 r2 h k
  cases r1 <;> cases r2 <;> first | (cases h; done) | skip
  rename_i a xs ds h1 q1 n
  simp only [fRepL] at h
  split at h
  · rename_i c
    cases h
    rw [Bool.and_eq_true, Bool.and_eq_true] at c
    have c1 := of_lk c.1.1
    have c2 := of_lk c.1.2
    exact ⟨_, _, xs, rfl, rfl, S.ih _ _ h1, by omega, by omega, by rw [q1.length]; exact lineOk_le c.2, fun p hp => k p _ _ _ S (Ex.refl _) hp (q1.rep n.toNat)⟩
  · cases h
def CL.rep := CL.bin _ fRepL bRepL

/-! ### reading an owned list -/
def CE.ownIx (i : Nat) (a : CE) : CE where
  t := fun G W => tOp (rIx G.K) (tVar i) (a.t G W)
  ev := fun env => (R.lift (Env.ow env i) env).bind fun _ e0 => (a.ev e0).bind fun x e1 => (R.lift (Env.ow e1 i) e1).bind fun o e2 => match o, x with
    | .lst ds, .int k => R.lift (atI ds k) e2
    | _, _ => .bad
  ok := fun {G B σ env H I W Q} S P => by
    cases h0 : Env.ow env i with
    | none => rw [h0] at P; exact P.elim
    | some o0 =>
      rw [h0] at P
      obtain ⟨v, _, hv, _⟩ := S.own (Env.ow_eq h0)
      refine ⟨v, hv, a.ok S (Post.bind P fun x e1 w H1 I1 S1 ex1 r1 P1 => ?_)⟩
      cases h1 : Env.ow e1 i with
      | none => rw [h1] at P1; exact P1.elim
      | some o =>
        rw [h1] at P1
        obtain ⟨v', bs, hv', q1, -⟩ := S1.own (Env.ow_eq h1)
        have ev : v' = v := by rw [hv] at hv'; cases hv'; rfl
        subst ev
        cases q1 with
        | @lst a vs ds hl rs =>
          cases r1 with
          | int k =>
            have P1 : Post G B σ W (Rep G) I1 Q (R.lift (atI ds k) e1) := P1
            cases q : atI ds k with
            | none => rw [q] at P1; exact P1.elim
            | some d =>
              rw [q] at P1
              obtain ⟨u, e2, e3⟩ := rs.atI q
              exact .inl ⟨_, _, _, u, rfl, rfl, .inl (.inl hl), e2, P1 u H1 I1 S1 (Ex.refl _) e3⟩
          | _ => exact P1.elim
        | draws _ _ => cases r1 <;> exact P1.elim
        | row _ _ _ => cases r1 <;> exact P1.elim
  pu := a.pu
  pok := fun p env d env' h => by
    obtain ⟨o, e1, h1, h⟩ := R.bind_eq_ok h
    obtain ⟨x, e2, h2, h⟩ := R.bind_eq_ok h
    obtain ⟨o', e3, h3, h⟩ := R.bind_eq_ok h
    have t1 := (R.lift_eq_ok h1).2
    have t2 := a.pok p _ _ _ h2
    have t3 := (R.lift_eq_ok h3).2
    split at h
    · rw [(R.lift_eq_ok h).2, t3, t2, t1]
    · cases h
/-- xs != [] of an owned list -/
def CE.ownNe (i : Nat) (a : CE) : CE where
  t := fun G W => tOp (rNeD G.K) (tVar i) (a.t G W)
  ev := fun env => (R.lift (Env.ow env i) env).bind fun _ e0 => (a.ev e0).bind fun x e1 => (R.lift (Env.ow e1 i) e1).bind fun o e2 => match o with
    | .lst ds => R.lift (fEq true (.list ds) x) e2
    | _ => .bad
  ok := fun {G B σ env H I W Q} S P => by
    cases h0 : Env.ow env i with
    | none => rw [h0] at P; exact P.elim
    | some o0 =>
      rw [h0] at P
      obtain ⟨v, _, hv, _⟩ := S.own (Env.ow_eq h0)
      refine ⟨v, hv, a.ok S (Post.bind P fun x e1 w H1 I1 S1 ex1 r1 P1 => ?_)⟩
      cases h1 : Env.ow e1 i with
      | none => rw [h1] at P1; exact P1.elim
      | some o =>
        rw [h1] at P1
        obtain ⟨v', bs, hv', q1, -⟩ := S1.own (Env.ow_eq h1)
        have ev : v' = v := by rw [hv] at hv'; cases hv'; rfl
        subst ev
        cases q1 with
        | @lst a vs ds hl rs =>
          have P1 : Post G B σ W (Rep G) I1 Q (R.lift (fEq true (.list ds) x) e1) := P1
          cases q : fEq true (.list ds) x with
          | none => rw [q] at P1; exact P1.elim
          | some d =>
            rw [q] at P1
            unfold fEq at q
            split at q
            · rename_i c
              cases q
              rw [Bool.and_eq_true] at c
              have c1 : PyData.canLayAll0 ds = true := by simpa [PyData.canLay0] using SeqAt.canLay_of_shaped c.1
              exact ⟨_, _, .lst (Or.inl (Or.inl hl)) (rs.dp S1.ih c1), r1.dp S1.ih (SeqAt.canLay_of_shaped c.2), c.1, c.2, P1 _ H1 I1 S1 (Ex.refl _) (.bl _)⟩
            · cases q
        | draws _ _ => exact P1.elim
        | row _ _ _ => exact P1.elim
  pu := a.pu
  pok := fun p env d env' h => by
    obtain ⟨o, e1, h1, h⟩ := R.bind_eq_ok h
    obtain ⟨x, e2, h2, h⟩ := R.bind_eq_ok h
    obtain ⟨o', e3, h3, h⟩ := R.bind_eq_ok h
    have t1 := (R.lift_eq_ok h1).2
    have t2 := a.pok p _ _ _ h2
    have t3 := (R.lift_eq_ok h3).2
    split at h
    · rw [(R.lift_eq_ok h).2, t3, t2, t1]
    · cases h

/-! ### statements -/
inductive F where
  | nx (env : Env)
  | rt (d : D) (env : Env)
  | err (k : Nat) (env : Env)
  | bad
def F.bind (r : F) (f : Env → F) : F := match r with
  | .nx e => f e
  | .rt d e => .rt d e
  | .err k e => .err k e
  | .bad => .bad
def R.toF {α : Type} (r : R α) (f : α → Env → F) : F := match r with
  | .ok a e => f a e
  | .err k e => .err k e
  | .bad => .bad
@[simp] theorem F.bind_nx (e : Env) (f : Env → F) : (F.nx e).bind f = f e := Eq.trans rfl rfl
@[simp] theorem F.bind_rt (d : D) (e : Env) (f : Env → F) : (F.rt d e).bind f = .rt d e := Eq.trans rfl rfl
@[simp] theorem F.bind_err (k : Nat) (e : Env) (f : Env → F) : (F.err k e).bind f = .err k e := Eq.trans rfl rfl
@[simp] theorem F.bind_bad (f : Env → F) : (F.bad).bind f = .bad := Eq.trans rfl rfl
@[simp] theorem R.toF_ok {α : Type} (a : α) (e : Env) (f : α → Env → F) : (R.ok a e).toF f = f a e := Eq.trans rfl rfl
@[simp] theorem R.toF_err {α : Type} (k : Nat) (e : Env) (f : α → Env → F) : (R.err k e : R α).toF f = .err k e := Eq.trans rfl rfl
@[simp] theorem R.toF_bad {α : Type} (f : α → Env → F) : (R.bad : R α).toF f = .bad := Eq.trans rfl rfl
/-- what a def's wish says: it does not look at the slots' order -/
def SPost (G : Gm) (B : Bs) (W : WX) (D : Ends) (I : Hp) : F → Prop
  | .nx env' => ∀ σ' H' I', Sim G B σ' env' H' I' → Ex I I' → D.nx σ' H'
  | .rt d env' => ∀ v σ' H' I', Sim G B σ' env' H' I' → Rep G I' v d → D.rt v H'
  | .err k env' => ∀ σ' H' I', Sim G B σ' env' H' I' → Ex I I' → W (.ref (G.cls k)) none σ' H'
  | .bad => False
structure CS where
  t : Gm → WX → TS
  ev : Env → F
  ok : ∀ {G : Gm} {B : Bs} {σ : L2.St} {env : Env} {H I : Hp} {W : WX} {D : Ends}, Sim G B σ env H I → SPost G B W D I (ev env) → t G W D σ H
theorem SPost.mono {G : Gm} {B : Bs} {W : WX} {D : Ends} {I J : Hp} {r : F} (e : Ex I J) (P : SPost G B W D I r) : SPost G B W D J r := by
  cases r with
  | nx env => exact fun σ' H' I' S e' => P σ' H' I' S (e.trans e')
  | rt d env => exact P
  | err k env => exact fun σ' H' I' S e' => P σ' H' I' S (e.trans e')
  | bad => exact P
section
variable {α β : Type} {G : Gm} {B : Bs} {σ : L2.St} {W : WX} {Rel : Hp → β → α → Prop} {I : Hp} {Q : β → Hp → Prop} {D : Ends}
theorem SPost.bindR {r : R α} {f : α → Env → F} (P : SPost G B W D I (r.toF f))
    (k : ∀ a env' v H' I', Sim G B σ env' H' I' → Ex I I' → Rel I' v a → SPost G B W D I' (f a env') → Q v H') : Post G B σ W Rel I Q r := by
  cases r with
  | ok a env => exact fun v H' I' S e r => k a env v H' I' S e r (P.mono e)
  | err k env => exact fun H' I' S e => P σ H' I' S e
  | bad => exact P
theorem SPost.bindL {r : R (List PyData)} {f : List PyData → Env → F} {Q : VK} (P : SPost G B W D I (r.toF f))
    (k : ∀ ds env' p vs H' I', Sim G B σ env' H' I' → Ex I I' → H' p = none → Reps G I' vs ds → SPost G B W D I' (f ds env') → Q (.ref p) (upd H' p (.lst vs))) : LPost G B σ W I Q r := by
  cases r with
  | ok a env => exact fun p v H' I' S e hp r => k a env p v H' I' S e hp r (P.mono e)
  | err k env => exact fun H' I' S e => P σ H' I' S e
  | bad => exact P
end
def CS.nil : CS where
  t := fun _ _ => tNext
  ev := fun env => .nx env
  ok := fun {G B σ env H I W D} S P => P σ H I S (Ex.refl I)
def CS.seq (a b : CS) : CS where
  t := fun G W => tSeq (a.t G W) (b.t G W)
  ev := fun env => (a.ev env).bind b.ev
  ok := fun {G B σ env H I W D} S P => a.ok S (by
    cases q : a.ev env with
    | nx e => rw [q] at P; exact fun σ' H' I' S' e' => b.ok S' (SPost.mono e' P)
    | rt d e => rw [q] at P; exact P
    | err k e => rw [q] at P; exact P
    | bad => rw [q] at P; exact P)
def CS.asg (i : Nat) (a : CE) : CS where
  t := fun G W => tAsg (a.t G W) (gName i)
  ev := fun env => (a.ev env).toF fun d e1 => if canSet e1 i = true then .nx (e1.set i (some (.im d))) else .bad
  ok := fun {G B σ env H I W D} S P => a.ok S (SPost.bindR P fun d e1 v H1 I1 S1 ex1 r1 P1 => by
    by_cases h : canSet e1 i = true
    · rw [if_pos h] at P1
      exact P1 _ H1 I1 (S1.setIm r1 h) (Ex.refl _)
    · rw [if_neg h] at P1; exact P1.elim)
theorem Sim.setOw {G : Gm} {B : Bs} {σ : L2.St} {env : Env} {H I : Hp} (S : Sim G B σ env H I) {i : Nat} {p : Addr} {vs : List V} {ds : List D} (hp : H p = none) (r : Reps G I vs ds) (hc : canSet env i = true) :
    Sim G B (σ.set i (some (.ref p))) (env.set i (some (.ow (.lst ds)))) (upd H p (.lst vs)) I := by
  have hi := canSet_lt hc
  obtain ⟨as, s1, s2, s3⟩ := S.sl
  have ne : ∀ a x, H a = some x → a ≠ p := fun a x h => ne_of_none h hp
  have s1' : SlOk G I (upd H p (.lst vs)) σ env as := s1.mono (Ex.refl _) fun a _ x h => by rw [upd_ne (ne a x h)]; exact h
  obtain ⟨as', h1, h2, h3⟩ := s1'.setOw (Own.lst (G := G) (I := I) (ds := ds) upd_same r) (by simp) i s2 (fun b hb hz => by
    have hb : b = p := by simpa using hb
    subst hb
    obtain ⟨x, hx⟩ := s1.live b hz
    rw [hp] at hx; cases hx) (by rw [s1.len]; exact hi)
  refine ⟨S.i0, fun a o h => by rw [upd_ne (ne a o (S.ih a o h))]; exact S.ih a o h, S.fr, fun b o h1 h2 => by rw [upd_ne (ne b o (S.keep b o h1 h2))]; exact S.keep b o h1 h2, fun b hb => ?_, ⟨as', h1, h2, fun a ha => ?_⟩, fun j a ds' z1 z2 => ?_, fun w hw => ?_⟩
  · obtain ⟨o, h⟩ := S.live b hb
    exact ⟨o, by rw [upd_ne (ne b o h)]; exact h⟩
  · rcases h3 a ha with z | z
    · exact s3 a z
    · have z : a = p := by simpa using z
      subst z
      exact ⟨S.ni hp, .inr (S.h0 hp).1⟩
  · by_cases hj : j = i
    · subst hj
      rw [List.getElem?_set_self (by rw [s1.len]; exact hi)] at z2
      cases z2
      exact (S.h0 hp).1
    · rw [List.getElem?_set_ne (Ne.symm hj)] at z1 z2
      exact S.lo j a ds' z1 z2
  · obtain ⟨o, q1, q2, q3, q4⟩ := S.s0 w hw
    have hn : i ≠ 0 := fun z => by subst z; exact q2 (canSet_kind hc q1)
    exact ⟨o, by rw [List.getElem?_set_ne hn]; exact q1, q2, by rw [List.getElem?_set_ne hn]; exact q3, q4.mono (Ex.refl _) fun a _ x h => by rw [upd_ne (ne a x h)]; exact h⟩
/-- x = [..], a list that will be changed -/
def CS.asgOw (i : Nat) (a : CL) : CS where
  t := fun G W => tAsg (a.t G W) (gName i)
  ev := fun env => (a.ev env).toF fun ds e1 => if canSet e1 i = true then .nx (e1.set i (some (.ow (.lst ds)))) else .bad
  ok := fun {G B σ env H I W D} S P => a.ok S (SPost.bindL P fun ds e1 p vs H1 I1 S1 ex1 hp r1 P1 => by
    by_cases h : canSet e1 i = true
    · rw [if_pos h] at P1
      exact P1 _ _ I1 (S1.setOw hp r1 h) (Ex.refl _)
    · rw [if_neg h] at P1; exact P1.elim)
/-- from here on the list at slot i is a value -/
theorem Sim.freeze {G : Gm} {B : Bs} {σ : L2.St} {env : Env} {H I : Hp} (S : Sim G B σ env H I) {i : Nat} {ds : List D} (h : env[i]? = some (some (.ow (.lst ds)))) : ∃ I', Ex I I' ∧ Sim G B σ (env.set i (some (.im (.list ds)))) H I' := by
  obtain ⟨as, s1, s2, s3⟩ := S.sl
  obtain ⟨v, as1, bs, as2, h1, h2, h3, h4⟩ := s1.getOw h
  cases h3 with
  | lst hl rs =>
    rename_i a vs
    have hi : i < σ.length := (List.getElem?_eq_some_iff.mp h1).1
    have ia : I a = none := (s3 a (by rw [h2]; simp)).1
    have e : Ex I (upd I a (.lst vs)) := Ex.new ia
    have s1' : SlOk G (upd I a (.lst vs)) H σ env as := s1.mono e fun a _ x h => h
    have sc := s1.clear i none
    -- the slots but i, with the addresses but a
    have key : ∀ {σ : L2.St} {env : Env} {as : List Addr} {i : Nat}, SlOk G I H σ env as → σ[i]? = some (some (V.ref a)) → env[i]? = some (some (.ow (.lst ds))) → as.Nodup → (∀ x ∈ as, I x = none) →
        ∃ as', SlOk G (upd I a (.lst vs)) H σ (env.set i (some (.im (.list ds)))) as' ∧ as'.Sublist as ∧ a ∉ as' := by
      intro σ env as i s
      induction s generalizing i with
      | nil => intro h; simp at h
      | skip r ih =>
        intro q1 q2 nd fr
        cases i with
        | zero => simp at q2
        | succ i =>
          obtain ⟨as', k1, k2, k3⟩ := ih (i := i) (by simpa using q1) (by simpa using q2) nd fr
          exact ⟨as', .skip k1, k2, k3⟩
      | im q r ih =>
        intro q1 q2 nd fr
        cases i with
        | zero => simp at q2
        | succ i =>
          obtain ⟨as', k1, k2, k3⟩ := ih (i := i) (by simpa using q1) (by simpa using q2) nd fr
          exact ⟨as', .im (q.mono e) k1, k2, k3⟩
      | ow q r ih =>
        rename_i v o bs σ env as
        intro q1 q2 nd fr
        have nd' := List.nodup_append.mp nd
        cases i with
        | zero =>
          simp at q1 q2
          subst q1 q2
          cases q with
          | lst z1 z2 =>
            rename_i vs'
            rw [hl] at z1
            cases z1
            exact ⟨as, .im (.lst upd_same (z2.mono e)) (r.mono e fun a _ x h => h), List.sublist_append_right _ _, fun z => nd'.2.2 a (by simp) a z rfl⟩
        | succ i =>
          obtain ⟨as', k1, k2, k3⟩ := ih (i := i) (by simpa using q1) (by simpa using q2) nd'.2.1 (fun x hx => fr x (List.mem_append_right _ hx))
          refine ⟨bs ++ as', .ow (q.mono e fun a _ x h => h) k1, List.Sublist.append_left k2 _, fun z => ?_⟩
          rcases List.mem_append.mp z with z | z
          · -- a is owned twice: it lies in bs and, by slot i, in as
            have ha : a ∈ as := by
              obtain ⟨w, c1, cs, c2, y1, y2, y3, _⟩ := r.getOw (i := i) (o := .lst ds) (by simpa using q2)
              have : w = V.ref a := by
                have q1' : σ[i]? = some (some (V.ref a)) := by simpa using q1
                rw [y1] at q1'; cases q1'; rfl
              subst this
              cases y3
              rw [y2]; simp
            exact nd'.2.2 a z a ha rfl
          · exact k3 z
    obtain ⟨as', k1, k2, k3⟩ := key s1 h1 h s2 fun x hx => (s3 x hx).1
    refine ⟨upd I a (.lst vs), e, S.i0.trans e, fun b o hb => ?_, fun b o hb1 hb2 => ?_, S.keep, S.live, ⟨as', k1, k2.nodup s2, fun x hx => ⟨?_, (s3 x (k2.subset hx)).2⟩⟩, fun j x ds' z1 z2 => ?_, fun w hw => ?_⟩
    · by_cases q : b = a
      · subst q; rw [upd_same] at hb; cases hb; exact hl
      · rw [upd_ne q] at hb; exact S.ih _ _ hb
    · by_cases q : b = a
      · subst q; exact S.lo i b ds h h1
      · rw [upd_ne q] at hb1; exact S.fr b o hb1 hb2
    · rw [upd_ne (fun q => k3 (by rw [← q]; exact hx))]
      exact (s3 x (k2.subset hx)).1
    · by_cases hj : j = i
      · subst hj
        rw [List.getElem?_set_self (by rw [← s1.len]; exact hi)] at z1
        cases z1
      · rw [List.getElem?_set_ne (Ne.symm hj)] at z1
        exact S.lo j x ds' z1 z2
    · obtain ⟨o, q1, q2, q3, q4⟩ := S.s0 w hw
      have hn : i ≠ 0 := fun z => by
        subst z
        rw [h] at q1
        cases q1
        exact q2 rfl
      exact ⟨o, by rw [List.getElem?_set_ne hn]; exact q1, q2, q3, q4.mono e fun a _ x h => h⟩
end FD
set_option Elab.async false
set_option linter.all false
set_option maxRecDepth 100000
set_option maxHeartbeats 4000000
noncomputable section
namespace FD
open PySem L2

/-! ### targets -/
structure CG where
  t : Gm → TG
  ev : D → Env → Option Env
  ok : ∀ {G : Gm} {B : Bs} {σ : L2.St} {env env' : Env} {H I : Hp} {x : V} {d : D} {Q : L2.St → Hp → Prop}, Sim G B σ env H I → Rep G I x d → ev d env = some env' → (∀ σ', Sim G B σ' env' H I → Q σ' H) → t G x σ H Q
theorem set_lt {env : Env} {i : Nat} {s : Option Sl} {env' : Env} (h : (if canSet env i = true then some (env.set i s) else none) = some env') : canSet env i = true ∧ env' = env.set i s := by
  split at h
  · rename_i q; cases h; exact ⟨q, rfl⟩
  · cases h
def CG.name (i : Nat) : CG where
  t := fun _ => gName i
  ev := fun d env => if canSet env i = true then some (env.set i (some (.im d))) else none
  ok := fun {G B σ env env' H I x d Q} S r h k => by
    obtain ⟨h1, rfl⟩ := set_lt h
    exact k _ (S.setIm r h1)
/-- names of a tuple target -/
def gNames : List Nat → TGs
  | [] => gNil
  | i :: r => gCons (gName i) (gNames r)
def evNames : List Nat → List D → Env → Option Env
  | [], [], env => some env
  | i :: r, d :: ds, env => if canSet env i = true then evNames r ds (env.set i (some (.im d))) else none
  | _, _, _ => none
theorem gNames_ok {G : Gm} {B : Bs} {I H : Hp} {Q : L2.St → Hp → Prop} : ∀ {is : List Nat} {σ : L2.St} {env env' : Env} {xs : List V} {ds : List D}, Sim G B σ env H I → Reps G I xs ds → evNames is ds env = some env' → (∀ σ', Sim G B σ' env' H I → Q σ' H) → gNames is xs σ H Q
  | [], σ, env, env', _, _, S, .nil, h, k => by cases h; exact ⟨rfl, k σ S⟩
  | [], _, _, _, _, _, _, .cons _ _, h, _ => by simp [evNames] at h
  | i :: r, _, _, _, _, _, _, .nil, h, _ => by simp [evNames] at h
  | i :: r, σ, env, env', _, _, S, .cons (v := v) (vs := vs) q t, h, k => by
    unfold evNames at h
    split at h
    · rename_i hi
      exact ⟨v, vs, rfl, gNames_ok (S.setIm q hi) t h k⟩
    · cases h
theorem evNames_len : ∀ {is : List Nat} {ds : List D} {env env' : Env}, evNames is ds env = some env' → ds.length = is.length
  | [], [], _, _, _ => rfl
  | [], _ :: _, _, _, h => by simp [evNames] at h
  | _ :: _, [], _, _, h => by simp [evNames] at h
  | i :: r, d :: ds, env, env', h => by
    unfold evNames at h
    split at h
    · simp [evNames_len h]
    · cases h
def CG.tup (is : List Nat) : CG where
  t := fun G => gTup G.K is.length (gNames is)
  ev := fun d env => match d with
    | .tuple ds => evNames is ds env
    | _ => none
  ok := fun {G B σ env env' H I x d Q} S r h k => by
    cases r with
    | tup h1 q => exact ⟨_, _, rfl, .inl (.inl (S.ih _ _ h1)), by rw [q.length]; exact evNames_len h, gNames_ok S q h k⟩
    | _ => cases h

/-! ### more statements -/
def CS.asgT (g : CG) (a : CE) : CS where
  t := fun G W => tAsg (a.t G W) (g.t G)
  ev := fun env => (a.ev env).toF fun d e1 => match g.ev d e1 with
    | some e2 => .nx e2
    | none => .bad
  ok := fun {G B σ env H I W D} S P => a.ok S (SPost.bindR P fun d e1 v H1 I1 S1 ex1 r1 P1 => by
    cases h : g.ev d e1 with
    | none => rw [h] at P1; exact P1.elim
    | some e2 => rw [h] at P1; exact g.ok S1 r1 h fun σ' S' => P1 σ' H1 I1 S' (Ex.refl _))
/-- x, y = a, b -/
def CS.par (i j : Nat) (a b : CE) : CS where
  t := fun G W => tPar i j (tCons (a.t G W) (tCons (b.t G W) tNil))
  ev := fun env => (a.ev env).toF fun d e1 => (b.ev e1).toF fun d' e2 => if canSet e2 i = true ∧ canSet (e2.set i (some (.im d))) j = true then .nx ((e2.set i (some (.im d))).set j (some (.im d'))) else .bad
  ok := fun {G B σ env H I W D} S P => a.ok S (SPost.bindR P fun d e1 v H1 I1 S1 ex1 r1 P1 => b.ok S1 (SPost.bindR P1 fun d' e2 w H2 I2 S2 ex2 r2 P2 => by
    by_cases h : canSet e2 i = true ∧ canSet (e2.set i (some (.im d))) j = true
    · rw [if_pos h] at P2
      exact ⟨v, w, rfl, P2 _ H2 I2 ((S2.setIm (r1.mono ex2) h.1).setIm r2 h.2) (Ex.refl _)⟩
    · rw [if_neg h] at P2; exact P2.elim))

def noOw (env : Env) : Bool := env.all fun s => match s with
  | some (.ow _) => false
  | _ => true
theorem SlOk.noOw {G : Gm} {I H : Hp} : ∀ {σ : L2.St} {env : Env} {as : List Addr}, SlOk G I H σ env as → FD.noOw env = true → as = [] ∧ ∀ H', SlOk G I H' σ env []
  | _, _, _, .nil, _ => ⟨rfl, fun _ => .nil⟩
  | _, _, _, .skip r, h => by
    obtain ⟨h1, h2⟩ := r.noOw (by simpa [FD.noOw] using h)
    exact ⟨h1, fun H' => .skip (h2 H')⟩
  | _, _, _, .im q r, h => by
    obtain ⟨h1, h2⟩ := r.noOw (by simpa [FD.noOw] using h)
    exact ⟨h1, fun H' => .im q (h2 H')⟩
  | _, _, _, .ow _ _, h => by simp [FD.noOw] at h
theorem noOw_get {env : Env} (h : noOw env = true) {i : Nat} {o : OD} : ¬ env[i]? = some (some (.ow o)) := fun e => by
  have := List.all_eq_true.mp h _ (List.mem_of_getElem? e)
  cases this
/-- x, y = [], e: x a list that will be changed -/
def CS.parOw (i j : Nat) (a : CL) (b : CE) : CS where
  t := fun G W => tPar i j (tCons (a.t G W) (tCons (b.t G W) tNil))
  ev := fun env => (a.ev env).toF fun ds e1 => if i < e1.length ∧ canSet (e1.set i (some (.ow (.lst ds)))) j = true ∧ noOw e1 = true ∧ b.pu = true then match b.ev e1 with
      | .ok d' e2 => .nx ((e2.set i (some (.ow (.lst ds)))).set j (some (.im d')))
      | _ => .bad
    else .bad
  ok := fun {G B σ env H I W D} S P => a.ok S (SPost.bindL P fun ds e1 p vs H1 I1 S1 ex1 hp r1 P1 => by
    by_cases h : i < e1.length ∧ canSet (e1.set i (some (.ow (.lst ds)))) j = true ∧ noOw e1 = true ∧ b.pu = true
    · rw [if_pos h] at P1
      obtain ⟨hi, hj, hno, hpu⟩ := h
      obtain ⟨as, s1, s2, s3⟩ := S1.sl
      obtain ⟨rfl, sH⟩ := s1.noOw hno
      have nep : ∀ b o, H1 b = some o → b ≠ p := fun b o e => ne_of_none e hp
      have hv0 : B.v0 = none := by
        cases z : B.v0 with
        | none => rfl
        | some v => obtain ⟨o, q1, _⟩ := S1.s0 v z; exact absurd q1 (noOw_get hno)
      let B' : Bs := ⟨upd H1 p (.lst vs), I1, [], none⟩
      have S1' : Sim G B' σ e1 (upd H1 p (.lst vs)) I1 := ⟨Ex.refl _, S1.ih.trans (Ex.new hp), (fun b o h1 h2 => absurd (h1.symm.trans h2) (by simp)), fun _ _ h _ => h, fun b hb => (by cases hb), ⟨[], sH _, List.nodup_nil, fun a ha => (by cases ha)⟩, fun i a ds h => absurd h (noOw_get hno), fun w hw => (by cases hw)⟩
      refine b.ok S1' ?_
      cases q : b.ev e1 with
      | bad => rw [q] at P1; exact P1.elim
      | err k e => rw [q] at P1; exact P1.elim
      | ok d' e2 =>
        rw [q] at P1
        have := b.pok hpu _ _ _ q
        subst this
        intro w H2 I2 S2 ex2 r2
        have h2p : H2 p = some (.lst vs) := S2.keep p _ upd_same (by intro z; cases z)
        have i2p : I2 p = none := by
          cases z : I2 p with
          | none => rfl
          | some o =>
            have := S2.fr p o z (S1.ni hp)
            rw [show B'.H0 p = some (.lst vs) from upd_same] at this
            cases this
        have S3 : Sim G B σ e2 H2 I2 := by
          obtain ⟨as', t1, t2, t3⟩ := S2.sl
          obtain ⟨rfl, tH⟩ := t1.noOw hno
          have kk : ∀ b o, H1 b = some o → H2 b = some o := fun b o h1 => S2.keep b o (by show upd H1 p (.lst vs) b = some o; rw [upd_ne (nep b o h1)]; exact h1) (by intro z; cases z)
          refine ⟨S1.i0.trans ex2, S2.ih, fun b o h1 h2 => ?_, fun b o h1 h2 => kk _ _ (S1.keep b o h1 h2), fun b hb => ?_, ⟨[], tH _, List.nodup_nil, fun a ha => (by cases ha)⟩, fun i a ds h => absurd h (noOw_get hno), fun w hw => (by rw [hv0] at hw; cases hw)⟩
          · cases z : I1 b with
            | some o' => exact S1.fr b o' z h2
            | none =>
              have y : upd H1 p (.lst vs) b = none := S2.fr b o h1 z
              by_cases e : b = p
              · subst e; rw [upd_same] at y; cases y
              · rw [upd_ne e] at y
                exact (S1.h0 y).1
          · obtain ⟨o, h⟩ := S1.live b hb
            exact ⟨o, kk _ _ h⟩
        -- both stored
        obtain ⟨as', t1, t2, t3⟩ := S3.sl
        obtain ⟨rfl, tH⟩ := t1.noOw hno
        have hi' : i < e2.length := hi
        have S4 : Sim G B (σ.set i (some (.ref p))) (e2.set i (some (.ow (.lst ds)))) H2 I2 := by
          obtain ⟨as2, g1, g2, g3⟩ := t1.setOw (Own.lst (G := G) (I := I2) (ds := ds) h2p (r1.mono ex2)) (by simp) i t2 (by simp) (by rw [t1.len]; exact hi')
          refine ⟨S3.i0, S3.ih, S3.fr, S3.keep, S3.live, ⟨as2, g1, g2, fun a ha => ?_⟩, fun k a ds' z1 z2 => ?_, fun w hw => (by rw [hv0] at hw; cases hw)⟩
          · rcases g3 a ha with z | z
            · cases z
            · have z : a = p := by simpa using z
              subst z
              exact ⟨i2p, .inr (S1.h0 hp).1⟩
          · by_cases hk : k = i
            · subst hk
              rw [List.getElem?_set_self (by rw [t1.len]; exact hi')] at z2
              cases z2
              exact (S1.h0 hp).1
            · rw [List.getElem?_set_ne (Ne.symm hk)] at z1
              exact absurd z1 (noOw_get hno)
        refine ⟨.ref p, w, rfl, P1 _ H2 I2 (S4.setIm r2 hj) ex2⟩
    · rw [if_neg h] at P1; exact P1.elim)

def fAug (f : Int → Int → Int) : D → D → Option D
  | .int i, .int j => some (.int (f i j))
  | _, _ => none
/-- x op= e, ints -/
def CS.augI (i : Nat) (f : Int → Int → Int) (c : Int → Int → Bool) (ip : TIp) (hip : ∀ a b H Q, c a b = true → Q (.int (f a b)) H → ip (.int a) (.int b) H Q) (a : CE) : CS where
  t := fun G W => tAug i (a.t G W) ip
  ev := fun env => (R.lift (Env.im env i) env).toF fun x e0 => (a.ev e0).toF fun y e1 => match x, y with
    | .int p, .int q => if c p q then (if canSet e1 i = true then .nx (e1.set i (some (.im (.int (f p q))))) else .bad) else .bad
    | _, _ => .bad
  ok := fun {G B σ env H I W D} S P => by
    cases h0 : Env.im env i with
    | none => rw [h0] at P; exact P.elim
    | some x =>
      rw [h0] at P
      obtain ⟨v, hv, rv⟩ := S.getIm (Env.im_eq h0)
      refine ⟨v, hv, a.ok S (SPost.bindR P fun y e1 w H1 I1 S1 ex1 r1 P1 => ?_)⟩
      cases rv with
      | int p =>
        cases r1 with
        | int q =>
          have P1 : SPost G B W D I1 (if c p q then (if canSet e1 i = true then .nx (e1.set i (some (.im (.int (f p q))))) else .bad) else .bad) := P1
          split at P1
          · rename_i hc
            split at P1
            · rename_i hi
              exact hip p q _ _ hc (P1 _ H1 I1 (S1.setIm (.int _) hi) (Ex.refl _))
            · exact P1.elim
          · exact P1.elim
        | _ => exact P1.elim
      | _ => exact P1.elim
def CS.augAdd (i : Nat) (a : CE) : CS := CS.augI i (fun p q => p + q) (fun _ _ => true) (ipI fun i j => i + j) (fun a b H Q _ q => ⟨a, b, rfl, rfl, q⟩) a
def CS.augSub (i : Nat) (a : CE) : CS := CS.augI i (fun p q => p - q) (fun _ _ => true) (ipI fun i j => i - j) (fun a b H Q _ q => ⟨a, b, rfl, rfl, q⟩) a
def ipMul : TIp := rI CMulW fun i j => .int (i * j)
theorem ip_mul {X : Cx} : PIp X .Mult ipMul := by
  intro pins s σ H x y v u Q I r1 r2 h
  obtain ⟨i, j, e1, e2, hc, q⟩ := h
  subst e1; subst e2
  obtain ⟨t, rfl⟩ := r1
  obtain ⟨t', rfl⟩ := r2
  exact PyProof.Rows.imul_int ⟨.int _, H, I.tok _, ⟨_, rfl⟩, q⟩ hc.ok
def CS.augMul (i : Nat) (a : CE) : CS := CS.augI i (fun p q => p * q) (fun p q => sm p && sm q) ipMul (fun a b H Q c q => by
  rw [Bool.and_eq_true] at c
  have l1 := log2_big (of_lk c.1)
  have l2 := log2_big (of_lk c.2)
  exact ⟨a, b, rfl, rfl, by unfold CMulW; omega, q⟩) a

/-! ### owned lists changed -/
theorem Sim.ownL {G : Gm} {B : Bs} {σ : L2.St} {env : Env} {H I : Hp} (S : Sim G B σ env H I) {i : Nat} {ds : List D} (h : env[i]? = some (some (.ow (.lst ds)))) : ∃ a vs, σ[i]? = some (some (.ref a)) ∧ H a = some (.lst vs) ∧ Reps G I vs ds ∧
    ∀ ws es, Reps G I ws es → Sim G B σ (env.set i (some (.ow (.lst es)))) (upd H a (.lst ws)) I := by
  obtain ⟨v, bs, h1, h2, h3, h4, h5⟩ := S.own h
  cases h2 with
  | @lst a vs _ hl rs =>
    refine ⟨a, vs, h1, hl, rs, fun ws es r => h5 _ I _ (Ex.refl _) (fun b o e => ?_) (fun b x e1 e2 => by rw [e1] at e2; cases e2) (fun b x e hb => ?_) rfl (.lst upd_same r)⟩
    · have : b ≠ a := fun z => by rw [z, h4 a (by simp)] at e; cases e
      rw [upd_ne this]; exact S.ih _ _ e
    · rw [upd_ne (by simpa using hb)]; exact e

def Env.owL (env : Env) (i : Nat) : Option (List D) := match env[i]? with
  | some (some (.ow (.lst ds))) => some ds
  | _ => none
theorem Env.owL_eq {env : Env} {i : Nat} {ds : List D} (h : Env.owL env i = some ds) : env[i]? = some (some (.ow (.lst ds))) := by
  unfold Env.owL at h
  split at h
  · rename_i d' e; cases h; exact e
  · cases h
/-- xs.append(e) -/
def CS.append (i : Nat) (a : CE) : CS where
  t := fun G W => tDrop (tBM G.K "list" rAppend (tVar i) (tCons (a.t G W) tNil))
  ev := fun env => (R.lift (Env.owL env i) env).toF fun _ e0 => (a.ev e0).toF fun x e1 => (R.lift (Env.owL e1 i) e1).toF fun ds e2 =>
    if lk (decide (ds.length < 100000)) then .nx (e2.set i (some (.ow (.lst (ds ++ [x]))))) else .bad
  ok := fun {G B σ env H I W D} S P => by
    cases h0 : Env.owL env i with
    | none => rw [h0] at P; exact P.elim
    | some ds0 =>
      rw [h0] at P
      obtain ⟨ad, vs, hv, hl, rs, -⟩ := S.ownL (Env.owL_eq h0)
      refine ⟨.ref ad, hv, .inl ⟨rfl, vs, .inl (.inl hl)⟩, a.ok S (SPost.bindR P fun x e1 w H1 I1 S1 ex1 r1 P1 => ?_)⟩
      cases h1 : Env.owL e1 i with
      | none => rw [h1] at P1; exact P1.elim
      | some ds =>
        rw [h1] at P1
        obtain ⟨a', vs', g1, g2, g3, g4⟩ := S1.ownL (Env.owL_eq h1)
        rw [hv] at g1
        cases g1
        have P1 : SPost G B W D I1 (if lk (decide (ds.length < 100000)) then .nx (e1.set i (some (.ow (.lst (ds ++ [x]))))) else .bad) := P1
        split at P1
        · rename_i hz
          exact ⟨ad, vs', w, rfl, rfl, g2, by rw [g3.length]; exact Nat.lt_of_lt_of_le (of_lk hz) (by rw [sizeLine_eq]; decide), P1 _ _ I1 (g4 _ _ (g3.app (.cons r1 .nil))) (Ex.refl _)⟩
        · exact P1.elim
/-- xs += e, e a new list -/
def CS.extend (i : Nat) (a : CE) : CS where
  t := fun G W => tAug i (a.t G W) rExt2
  ev := fun env => (R.lift (Env.owL env i) env).toF fun _ e0 => (a.ev e0).toF fun x e1 => (R.lift (Env.owL e1 i) e1).toF fun ds e2 => match x with
    | .list es => if lk (decide (ds.length + es.length < 100000)) then .nx (e2.set i (some (.ow (.lst (ds ++ es))))) else .bad
    | _ => .bad
  ok := fun {G B σ env H I W D} S P => by
    cases h0 : Env.owL env i with
    | none => rw [h0] at P; exact P.elim
    | some ds0 =>
      rw [h0] at P
      obtain ⟨ad, vs, hv, hl, rs, -⟩ := S.ownL (Env.owL_eq h0)
      refine ⟨.ref ad, hv, a.ok S (SPost.bindR P fun x e1 w H1 I1 S1 ex1 r1 P1 => ?_)⟩
      cases h1 : Env.owL e1 i with
      | none => rw [h1] at P1; exact P1.elim
      | some ds =>
        rw [h1] at P1
        obtain ⟨a', vs', g1, g2, g3, g4⟩ := S1.ownL (Env.owL_eq h1)
        rw [hv] at g1
        cases g1
        cases r1 with
        | @lst b ws es h2 q2 =>
          have P1 : SPost G B W D I1 (if lk (decide (ds.length + es.length < 100000)) then .nx (e1.set i (some (.ow (.lst (ds ++ es))))) else .bad) := P1
          split at P1
          · rename_i hz
            have hi : i < σ.length := (List.getElem?_eq_some_iff.mp hv).1
            refine ⟨ad, b, vs', ws, rfl, rfl, g2, S1.ih _ _ h2, by rw [g3.length, q2.length]; exact Nat.le_of_lt (Nat.lt_of_lt_of_le (of_lk hz) (by rw [sizeLine_eq]; decide)), ?_⟩
            have eσ : σ.set i (some (.ref ad)) = σ := by
              apply List.ext_getElem?
              intro j
              by_cases hj : j = i
              · subst hj; rw [List.getElem?_set_self hi, hv]
              · rw [List.getElem?_set_ne (Ne.symm hj)]
            show D.nx (σ.set i (some (.ref ad))) _
            rw [eσ]
            exact P1 _ _ I1 (g4 _ _ (g3.app q2)) (Ex.refl _)
          · exact P1.elim
        | _ => exact P1.elim
/-- xs[i] = e, the list owned -/
def CS.setIx (i : Nat) (ix a : CE) : CS where
  t := fun G W => tAsg (a.t G W) (gSub (tVar i) (ix.t G W) rSetL)
  ev := fun env => (a.ev env).toF fun x e0 => (R.lift (Env.owL e0 i) e0).toF fun _ e1 => (ix.ev e1).toF fun y e2 => (R.lift (Env.owL e2 i) e2).toF fun ds e3 => match y with
    | .int k => match ixN ds.length k with
      | some j => .nx (e3.set i (some (.ow (.lst (ds.set j x)))))
      | none => .bad
    | _ => .bad
  ok := fun {G B σ env H I W D} S P => a.ok S (SPost.bindR P fun x e0 w H0 I0 S0 ex0 r0 P0 => by
    cases h0 : Env.owL e0 i with
    | none => rw [h0] at P0; exact P0.elim
    | some ds0 =>
      rw [h0] at P0
      obtain ⟨ad, vs, hv, hl, rs, -⟩ := S0.ownL (Env.owL_eq h0)
      refine ⟨.ref ad, hv, ix.ok S0 (SPost.bindR P0 fun y e1 u H1 I1 S1 ex1 r1 P1 => ?_)⟩
      cases h1 : Env.owL e1 i with
      | none => rw [h1] at P1; exact P1.elim
      | some ds =>
        rw [h1] at P1
        obtain ⟨a', vs', g1, g2, g3, g4⟩ := S1.ownL (Env.owL_eq h1)
        rw [hv] at g1
        cases g1
        cases r1 with
        | int k =>
          have P1 : SPost G B W D I1 (match ixN ds.length k with
            | some j => .nx (e1.set i (some (.ow (.lst (ds.set j x)))))
            | none => .bad) := P1
          cases q : ixN ds.length k with
          | none => rw [q] at P1; exact P1.elim
          | some j =>
            rw [q] at P1
            exact ⟨ad, vs', k, j, rfl, rfl, g2, by rw [g3.length]; exact q, P1 _ _ I1 (g4 _ _ (g3.set (r0.mono ex1) j)) (Ex.refl _)⟩
        | _ => exact P1.elim)
/-- xs[i] += e, the list owned, ints -/
def rGetI : V → V → Hp → VK → Prop := fun o i H Q => ∃ p xs k j v, o = .ref p ∧ i = .int k ∧ 0 ≤ k ∧ H p = some (.lst xs) ∧ ixN xs.length k = some j ∧ xs[j]? = some v ∧ Q v H
def CS.augIx (i : Nat) (ix a : CE) : CS where
  t := fun G W => tAugS (tVar i) (ix.t G W) (a.t G W) rGetI (ipI fun i j => i + j) rSetL
  ev := fun env => (R.lift (Env.owL env i) env).toF fun _ e0 => (ix.ev e0).toF fun y e1 => (R.lift (Env.owL e1 i) e1).toF fun ds e2 => match y with
    | .int k => if 0 ≤ k then match ixN ds.length k with
      | some j => match ds[j]? with
        | some (.int p) => (a.ev e2).toF fun x e3 => match x with
          | .int q => match Env.owL e3 i with
            | some ds' => match ixN ds'.length k with
              | some j' => .nx (e3.set i (some (.ow (.lst (ds'.set j' (.int (p + q)))))))
              | none => .bad
            | none => .bad
          | _ => .bad
        | _ => .bad
      | none => .bad
      else .bad
    | _ => .bad
  ok := fun {G B σ env H I W D} S P => by
    cases h0 : Env.owL env i with
    | none => rw [h0] at P; exact P.elim
    | some ds0 =>
      rw [h0] at P
      obtain ⟨ad, vs, hv, hl, rs, -⟩ := S.ownL (Env.owL_eq h0)
      refine ⟨.ref ad, hv, ix.ok S (SPost.bindR P fun y e1 u H1 I1 S1 ex1 r1 P1 => ?_)⟩
      cases h1 : Env.owL e1 i with
      | none => rw [h1] at P1; exact P1.elim
      | some ds =>
        rw [h1] at P1
        obtain ⟨a', vs', g1, g2, g3, g4⟩ := S1.ownL (Env.owL_eq h1)
        rw [hv] at g1
        cases g1
        cases r1 with
        | int k =>
          by_cases hk : 0 ≤ k
          case neg => simp only [R.lift_some, R.toF_ok, if_neg hk] at P1; exact P1.elim
          cases q : ixN ds.length k with
          | none => simp only [R.lift_some, R.toF_ok, q, if_pos hk] at P1; exact P1.elim
          | some j =>
            simp only [R.lift_some, R.toF_ok, q, if_pos hk] at P1
            cases q2 : ds[j]? with
            | none => rw [q2] at P1; exact P1.elim
            | some dj =>
              rw [q2] at P1
              obtain ⟨vj, w1, w2⟩ := g3.get q2
              cases w2 with
              | int p =>
                refine ⟨ad, vs', k, j, .int p, rfl, rfl, hk, g2, by rw [g3.length]; exact q, w1, ?_⟩
                refine a.ok S1 (SPost.bindR P1 fun x e3 z H3 I3 S3 ex3 r3 P3 => ?_)
                cases r3 with
                | int qq =>
                  refine ⟨p, qq, rfl, rfl, ?_⟩
                  cases h3 : Env.owL e3 i with
                  | none => simp only [h3] at P3; exact P3.elim
                  | some ds3 =>
                    simp only [h3] at P3
                    obtain ⟨a3, vs3, t1, t2, t3, t4⟩ := S3.ownL (Env.owL_eq h3)
                    rw [hv] at t1
                    cases t1
                    cases q4 : ixN ds3.length k with
                    | none => simp only [q4] at P3; exact P3.elim
                    | some j3 =>
                      simp only [q4] at P3
                      exact ⟨ad, vs3, k, j3, rfl, rfl, t2, by rw [t3.length]; exact q4, P3 _ _ I3 (t4 _ _ (t3.set (.int _) j3)) (Ex.refl _)⟩
                | _ => exact P3.elim
              | _ => exact P1.elim
        | _ => exact P1.elim
/-- the list at slot i is a value from here on -/
def CS.freeze (i : Nat) (b : CS) : CS where
  t := b.t
  ev := fun env => match Env.owL env i with
    | some ds => b.ev (env.set i (some (.im (.list ds))))
    | none => .bad
  ok := fun {G B σ env H I W D} S P => by
    cases h0 : Env.owL env i with
    | none => rw [h0] at P; exact P.elim
    | some ds =>
      rw [h0] at P
      obtain ⟨I', e, S'⟩ := S.freeze (Env.owL_eq h0)
      exact b.ok S' (SPost.mono e P)

/-! ### control -/
def CS.expr (a : CE) : CS where
  t := fun G W => tDrop (a.t G W)
  ev := fun env => (a.ev env).toF fun _ e1 => .nx e1
  ok := fun {G B σ env H I W D} S P => a.ok S (SPost.bindR P fun d e1 v H1 I1 S1 ex1 r1 P1 => P1 _ H1 I1 S1 (Ex.refl _))
def CS.ret (a : CE) : CS where
  t := fun G W => tRet (a.t G W)
  ev := fun env => (a.ev env).toF fun d e1 => .rt d e1
  ok := fun {G B σ env H I W D} S P => a.ok S (SPost.bindR P fun d e1 v H1 I1 S1 ex1 r1 P1 => P1 v _ H1 I1 S1 r1)
def CS.ite (c : CT) (a b : CS) : CS where
  t := fun G W => tIfS (c.t G W) (a.t G W) (b.t G W)
  ev := fun env => (c.ev env).toF fun x e1 => if x = true then a.ev e1 else b.ev e1
  ok := fun {G B σ env H I W D} S P => c.ok S (SPost.bindR P fun x e1 v H1 I1 S1 ex1 r1 P1 => by
    subst r1
    cases v with
    | true => exact a.ok S1 P1
    | false => exact b.ok S1 P1)
/-- raise X('..'), the k-th class -/
def CS.raise (k : Nat) : CS where
  t := fun G W => fun _ σ H => W (.ref (G.cls k)) none σ H
  ev := fun env => .err k env
  ok := fun {G B σ env H I W D} S P => P σ H I S (Ex.refl I)
def whF (c : Env → R Bool) (b : Env → F) : Nat → Env → F
  | 0, _ => .bad
  | n + 1, env => (c env).toF fun x e1 => if x = true then (b e1).bind (whF c b n) else .nx e1
def CS.whl (n : Nat) (c : CT) (b : CS) : CS where
  t := fun G W => tWhile (c.t G W) (b.t G W)
  ev := whF c.ev b.ev n
  ok := fun {G B σ env H I W D} S P => by
    refine ⟨fun m σ H => ∃ env I, Sim G B σ env H I ∧ SPost G B W D I (whF c.ev b.ev m env), ⟨n, env, I, S, P⟩, ?_⟩
    rintro m σ H ⟨env, I, S, P⟩
    cases m with
    | zero => exact P.elim
    | succ m =>
      refine c.ok S (SPost.bindR P fun x e1 v H1 I1 S1 ex1 r1 P1 => ?_)
      subst r1
      cases v with
      | true =>
        refine ⟨fun σ' H' => ∃ env I, Sim G B σ' env H' I ∧ SPost G B W D I (whF c.ev b.ev m env), fun σ' H' h => ⟨m, Nat.lt_succ_self _, h⟩, b.ok S1 ?_⟩
        have P1 : SPost G B W D I1 ((b.ev e1).bind (whF c.ev b.ev m)) := P1
        cases q : b.ev e1 with
        | nx e => rw [q] at P1; exact fun σ' H' I' S' e' => ⟨e, I', S', SPost.mono e' P1⟩
        | rt d e => rw [q] at P1; exact P1
        | err k e => rw [q] at P1; exact P1
        | bad => rw [q] at P1; exact P1
      | false => exact P1 σ H1 I1 S1 (Ex.refl _)

/-! ### what is walked -/
def ItOk (G : Gm) (I : Hp) (J : It) (ds : List D) : Prop := ∀ i H, Ex I H → (i = ds.length → J.stop i H) ∧ ∀ d, ds[i]? = some d → J.go i H ∧ ∀ x H', J.yld i H x H' → (H' = H ∧ Rep G I x d) ∨ (∃ p vs es, d = .tuple es ∧ x = .ref p ∧ H p = none ∧ H' = upd H p (.tup vs) ∧ Reps G I vs es)
structure CI where
  t : Gm → WX → TI
  ev : Env → R (List D)
  ok : ∀ {G : Gm} {B : Bs} {σ : L2.St} {env : Env} {H I : Hp} {W : WX} {Q : It → Hp → Prop}, Sim G B σ env H I → Post G B σ W (ItOk G) I Q (ev env) → t G W σ H Q
  pu : Bool
  pok : pu = true → ∀ env d env', ev env = .ok d env' → env' = env
theorem ItOk.mono {G : Gm} {I I' : Hp} {J : It} {ds : List D} (e : Ex I I') (h : ItOk G I J ds) : ItOk G I' J ds := fun i H eh => by
  obtain ⟨h1, h2⟩ := h i H (e.trans eh)
  refine ⟨h1, fun d hd => ?_⟩
  obtain ⟨h3, h4⟩ := h2 d hd
  refine ⟨h3, fun x H' y => ?_⟩
  rcases h4 x H' y with ⟨a, b⟩ | ⟨p, vs, es, a1, a2, a3, a4, a5⟩
  · exact .inl ⟨a, b.mono e⟩
  · exact .inr ⟨p, vs, es, a1, a2, a3, a4, a5.mono e⟩
/-- the next item comes -/
theorem Sim.item {G : Gm} {B : Bs} {σ : L2.St} {env : Env} {H H' I : Hp} (S : Sim G B σ env H I) {x : V} {d : D} (h : (H' = H ∧ Rep G I x d) ∨ (∃ p vs es, d = .tuple es ∧ x = .ref p ∧ H p = none ∧ H' = upd H p (.tup vs) ∧ Reps G I vs es)) : ∃ I', Sim G B σ env H' I' ∧ Ex I I' ∧ Rep G I' x d := by
  rcases h with ⟨a, b⟩ | ⟨p, vs, es, a1, a2, a3, a4, a5⟩
  · subst a; exact ⟨I, S, Ex.refl _, b⟩
  · subst a1 a2 a4
    obtain ⟨S2, e2⟩ := S.alloc (o := .tup vs) a3
    exact ⟨_, S2, e2, .tup upd_same (a5.mono e2)⟩
def forF (g : D → Env → Option Env) (b : Env → F) : List D → Env → F
  | [], env => .nx env
  | d :: ds, env => match g d env with
    | none => .bad
    | some e1 => (b e1).bind (forF g b ds)
def CS.for (src : CI) (g : CG) (b : CS) : CS where
  t := fun G W => tFor (src.t G W) (g.t G) (b.t G W)
  ev := fun env => (src.ev env).toF fun ds e1 => forF g.ev b.ev ds e1
  ok := fun {G B σ env H I W D} S P => src.ok S (SPost.bindR P fun ds e1 J H1 I1 S1 ex1 r1 P1 => by
    refine ⟨fun i m σ H => m = ds.length - i ∧ i ≤ ds.length ∧ ∃ env I, Ex I1 I ∧ Sim G B σ env H I ∧ SPost G B W D I (forF g.ev b.ev (ds.drop i) env), ⟨ds.length, by simp, Nat.zero_le _, e1, I1, Ex.refl _, S1, P1⟩, ?_⟩
    rintro i m σ H ⟨rfl, hi, env, I, ex, S, P⟩
    obtain ⟨h1, h2⟩ := r1 i H (ex.trans S.ih)
    by_cases hlt : i < ds.length
    · right
      have hd : ds[i]? = some ds[i] := List.getElem?_eq_getElem hlt
      obtain ⟨h3, h4⟩ := h2 _ hd
      refine ⟨h3, fun σ' H' => ∃ env I, Ex I1 I ∧ Sim G B σ' env H' I ∧ SPost G B W D I (forF g.ev b.ev (ds.drop (i + 1)) env), fun σ' H' h => ⟨ds.length - (i + 1), by omega, rfl, hlt, h⟩, fun x H' y => ?_⟩
      obtain ⟨I2, S2, e2, r2⟩ := S.item (match h4 x H' y with
        | .inl ⟨a, b⟩ => .inl ⟨a, b.mono ex⟩
        | .inr ⟨p, vs, es, a1, a2, a3, a4, a5⟩ => .inr ⟨p, vs, es, a1, a2, a3, a4, a5.mono ex⟩)
      rw [List.drop_eq_getElem_cons hlt] at P
      unfold forF at P
      cases q : g.ev ds[i] env with
      | none => rw [q] at P; exact P.elim
      | some e3 =>
        rw [q] at P
        have P := SPost.mono e2 P
        refine g.ok S2 r2 q fun σ' S3 => b.ok S3 ?_
        cases q2 : b.ev e3 with
        | nx e => simp only [q2] at P; exact fun σ' H' I' S' e' => ⟨e, I', (ex.trans e2).trans e', S', SPost.mono e' P⟩
        | rt d e => simp only [q2] at P; exact P
        | err k e => simp only [q2] at P; exact P
        | bad => simp only [q2] at P; exact P
    · have e : i = ds.length := by omega
      subst e
      refine .inl ⟨h1 rfl, ?_⟩
      rw [List.drop_length] at P
      exact P σ H I S (Ex.refl _))
end FD
set_option Elab.async false
set_option linter.all false
set_option maxRecDepth 100000
set_option maxHeartbeats 4000000
noncomputable section
namespace FD
open PySem L2

/-! ### sources -/
def rangeD (lo c : Int) (n : Nat) : List D := (List.range n).map fun (k : Nat) => PyData.int (lo + (k : Int) * c)
theorem rangeD_length (lo c : Int) (n : Nat) : (rangeD lo c n).length = n := by simp [rangeD]
theorem rangeD_get {lo c : Int} {n i : Nat} {d : D} (h : (rangeD lo c n)[i]? = some d) : i < n ∧ d = .int (lo + (i : Int) * c) := by
  unfold rangeD at h
  rw [List.getElem?_map] at h
  by_cases hi : i < n
  · rw [List.getElem?_range hi] at h
    cases h
    exact ⟨hi, rfl⟩
  · rw [List.getElem?_eq_none (by simpa using hi)] at h; cases h
theorem itr_ok {G : Gm} {I : Hp} (lo : Int) (n : Nat) : ItOk G I (Itr lo n) (rangeD lo 1 n) := fun i H e => by
  rw [rangeD_length]
  refine ⟨fun h => Nat.le_of_eq h.symm, fun d hd => ?_⟩
  obtain ⟨h1, rfl⟩ := rangeD_get hd
  refine ⟨h1, fun x H' y => ?_⟩
  obtain ⟨rfl, rfl⟩ := y
  rw [Int.mul_one]
  exact .inl ⟨rfl, .int _⟩
theorem itc_ok {G : Gm} {I : Hp} (lo c : Int) (n : Nat) : ItOk G I (Itc lo c n) (rangeD lo c n) := fun i H e => by
  rw [rangeD_length]
  refine ⟨fun h => Nat.le_of_eq h.symm, fun d hd => ?_⟩
  obtain ⟨h1, rfl⟩ := rangeD_get hd
  refine ⟨h1, fun x H' y => ?_⟩
  obtain ⟨rfl, rfl⟩ := y
  exact .inl ⟨rfl, .int _⟩
def rngOk (i : Int) : Bool := lk (decide (-(2 ^ 62) ≤ i)) && lk (decide (i < 2 ^ 62))
theorem rngOk_of {i : Int} (h : rngOk i = true) : -(2 ^ 62) ≤ i ∧ i < 2 ^ 62 := by
  unfold rngOk at h
  rw [Bool.and_eq_true] at h
  exact ⟨of_lk h.1, of_lk h.2⟩
def CI.rng1 (a : CE) : CI where
  t := fun G W => iRng1 (tCons (a.t G W) tNil)
  ev := fun env => (a.ev env).bind fun x e1 => match x with
    | .int n => if rngOk n then .ok (rangeD 0 1 n.toNat) e1 else .bad
    | _ => .bad
  ok := fun {G B σ env H I W Q} S P => a.ok S (Post.bind P fun x e1 v H1 I1 S1 ex1 r1 P1 => by
    cases r1 with
    | int n =>
      have P1 : Post G B σ W (ItOk G) I1 Q (if rngOk n then .ok (rangeD 0 1 n.toNat) e1 else .bad) := P1
      split at P1
      · rename_i h
        obtain ⟨h1, h2⟩ := rngOk_of h
        exact ⟨n, rfl, h1, h2, P1 _ H1 I1 S1 (Ex.refl _) (itr_ok 0 n.toNat)⟩
      · exact P1.elim
    | _ => exact P1.elim)
  pu := a.pu
  pok := fun p env d env' h => by
    obtain ⟨x, e1, h1, h⟩ := R.bind_eq_ok h
    split at h
    · split at h
      · cases h; exact a.pok p _ _ _ h1
      · cases h
    · cases h
def CI.rng2 (a b : CE) : CI where
  t := fun G W => iRng2 (tCons (a.t G W) (tCons (b.t G W) tNil))
  ev := fun env => (a.ev env).bind fun x e1 => (b.ev e1).bind fun y e2 => match x, y with
    | .int n, .int m => if rngOk n && rngOk m then .ok (rangeD n 1 (m - n).toNat) e2 else .bad
    | _, _ => .bad
  ok := fun {G B σ env H I W Q} S P => a.ok S (Post.bind P fun x e1 v H1 I1 S1 ex1 r1 P1 => b.ok S1 (Post.bind P1 fun y e2 w H2 I2 S2 ex2 r2 P2 => by
    cases r1 with
    | int n =>
      cases r2 with
      | int m =>
        have P2 : Post G B σ W (ItOk G) I2 Q (if rngOk n && rngOk m then .ok (rangeD n 1 (m - n).toNat) e2 else .bad) := P2
        split at P2
        · rename_i h
          rw [Bool.and_eq_true] at h
          obtain ⟨h1, h2⟩ := rngOk_of h.1
          obtain ⟨h3, h4⟩ := rngOk_of h.2
          exact ⟨n, m, rfl, ⟨h1, h2, h3, h4⟩, P2 _ H2 I2 S2 (Ex.refl _) (itr_ok n _)⟩
        · exact P2.elim
      | _ => exact P2.elim
    | _ => exact P2.elim))
  pu := a.pu && b.pu
  pok := fun p env d env' h => by
    rw [Bool.and_eq_true] at p
    obtain ⟨x, e1, h1, h⟩ := R.bind_eq_ok h
    obtain ⟨y, e2, h2, h⟩ := R.bind_eq_ok h
    split at h
    · split at h
      · cases h; rw [b.pok p.2 _ _ _ h2, a.pok p.1 _ _ _ h1]
      · cases h
    · cases h
/-- range(a, b, -1) -/
def CI.rng3 (a b c : CE) : CI where
  t := fun G W => iRng3 (tCons (a.t G W) (tCons (b.t G W) (tCons (c.t G W) tNil)))
  ev := fun env => (a.ev env).bind fun x e1 => (b.ev e1).bind fun y e2 => (c.ev e2).bind fun z e3 => match x, y, z with
    | .int n, .int m, .int k => if rngOk n && rngOk m && decide (k = -1) then .ok (rangeD n (-1) (n - m).toNat) e3 else .bad
    | _, _, _ => .bad
  ok := fun {G B σ env H I W Q} S P => a.ok S (Post.bind P fun x e1 v H1 I1 S1 ex1 r1 P1 => b.ok S1 (Post.bind P1 fun y e2 w H2 I2 S2 ex2 r2 P2 => c.ok S2 (Post.bind P2 fun z e3 u H3 I3 S3 ex3 r3 P3 => by
    cases r1 with
    | int n =>
      cases r2 with
      | int m =>
        cases r3 with
        | int k =>
          have P3' : Post G B σ W (ItOk G) I3 Q (if rngOk n && rngOk m && decide (k = -1) then .ok (rangeD n (-1) (n - m).toNat) e3 else .bad) := P3
          split at P3'
          · rename_i h
            rw [Bool.and_eq_true, Bool.and_eq_true] at h
            obtain ⟨h1, h2⟩ := rngOk_of h.1.1
            obtain ⟨h3, h4⟩ := rngOk_of h.1.2
            have h5 := of_decide_eq_true h.2
            subst h5
            exact ⟨n, m, -1, _, rfl, RgC.neg h1 h2 h3 h4, P3' _ H3 I3 S3 (Ex.refl _) (itc_ok n (-1) _)⟩
          · exact P3'.elim
        | _ => exact P3.elim
      | _ => cases r3 <;> exact P3.elim
    | _ => cases r2 <;> cases r3 <;> exact P3.elim)))
  pu := a.pu && b.pu && c.pu
  pok := fun p env d env' h => by
    rw [Bool.and_eq_true, Bool.and_eq_true] at p
    obtain ⟨x, e1, h1, h⟩ := R.bind_eq_ok h
    obtain ⟨y, e2, h2, h⟩ := R.bind_eq_ok h
    obtain ⟨z, e3, h3, h⟩ := R.bind_eq_ok h
    split at h
    · split at h
      · cases h; rw [c.pok p.2 _ _ _ h3, b.pok p.1.2 _ _ _ h2, a.pok p.1.1 _ _ _ h1]
      · cases h
    · cases h
theorem sqL_fun {K : PySem.W.Frag} {H : Hp} {a : Addr} {xs : List V} (h : H a = some (.lst xs)) : SqL K H a xs := .inl (.inl h)
theorem itl_ok {G : Gm} {I : Hp} {a : Addr} {vs : List V} {ds : List D} (h : I a = some (.lst vs)) (r : Reps G I vs ds) : ItOk G I (Itl G.K a) ds := fun i H e => by
  have hs : SqL G.K H a vs := sqL_fun (e _ _ h)
  refine ⟨fun hi => ⟨vs, hs, by rw [r.length]; exact Nat.le_of_eq hi.symm⟩, fun d hd => ?_⟩
  obtain ⟨v, h1, h2⟩ := r.get hd
  refine ⟨⟨vs, v, hs, h1⟩, fun x H' y => ?_⟩
  obtain ⟨rfl, y⟩ := y
  have := y vs hs
  rw [h1] at this
  cases this
  exact .inl ⟨rfl, h2⟩
theorem itt_ok {G : Gm} {I : Hp} {a : Addr} {vs : List V} {ds : List D} (h : I a = some (.tup vs)) (r : Reps G I vs ds) : ItOk G I (Itt G.K a) ds := fun i H e => by
  have hs : SqT G.K H a vs := .inl (.inl (e _ _ h))
  refine ⟨fun hi => ⟨vs, hs, by rw [r.length]; exact Nat.le_of_eq hi.symm⟩, fun d hd => ?_⟩
  obtain ⟨v, h1, h2⟩ := r.get hd
  refine ⟨⟨vs, v, hs, h1⟩, fun x H' y => ?_⟩
  obtain ⟨rfl, y⟩ := y
  have := y vs hs
  rw [h1] at this
  cases this
  exact .inl ⟨rfl, h2⟩
/-- for x in a list -/
def CI.list (a : CE) : CI where
  t := fun G W => iList G.K (a.t G W)
  ev := fun env => (a.ev env).bind fun x e1 => match x with
    | .list ds => .ok ds e1
    | _ => .bad
  ok := fun {G B σ env H I W Q} S P => a.ok S (Post.bind P fun x e1 v H1 I1 S1 ex1 r1 P1 => by
    cases r1 with
    | lst h q => exact ⟨_, rfl, ⟨_, sqL_fun (S1.ih _ _ h)⟩, P1 _ H1 I1 S1 (Ex.refl _) (itl_ok h q)⟩
    | _ => exact P1.elim)
  pu := a.pu
  pok := fun p env d env' h => by
    obtain ⟨x, e1, h1, h⟩ := R.bind_eq_ok h
    split at h
    · cases h; exact a.pok p _ _ _ h1
    · cases h
def CI.tup (a : CE) : CI where
  t := fun G W => iTup G.K (a.t G W)
  ev := fun env => (a.ev env).bind fun x e1 => match x with
    | .tuple ds => .ok ds e1
    | _ => .bad
  ok := fun {G B σ env H I W Q} S P => a.ok S (Post.bind P fun x e1 v H1 I1 S1 ex1 r1 P1 => by
    cases r1 with
    | tup h q => exact ⟨_, rfl, ⟨_, .inl (.inl (S1.ih _ _ h))⟩, P1 _ H1 I1 S1 (Ex.refl _) (itt_ok h q)⟩
    | _ => exact P1.elim)
  pu := a.pu
  pok := fun p env d env' h => by
    obtain ⟨x, e1, h1, h⟩ := R.bind_eq_ok h
    split at h
    · cases h; exact a.pok p _ _ _ h1
    · cases h
def enumD (ds : List D) : List D := (List.range ds.length).map fun (i : Nat) => PyData.tuple [.int i, ds.getD i .none]
theorem ite_ok {G : Gm} {I : Hp} {a : Addr} {vs : List V} {ds : List D} (h : I a = some (.lst vs)) (r : Reps G I vs ds) : ItOk G I (Ite G.K a) (enumD ds) := fun i H e => by
  have hs : SqL G.K H a vs := sqL_fun (e _ _ h)
  have hl : (enumD ds).length = ds.length := by simp [enumD]
  refine ⟨fun hi => ⟨vs, hs, by rw [r.length, ← hl]; exact Nat.le_of_eq hi.symm⟩, fun d hd => ?_⟩
  have hi : i < ds.length := by rw [← hl]; exact (List.getElem?_eq_some_iff.mp hd).1
  unfold enumD at hd
  rw [List.getElem?_map, List.getElem?_range hi] at hd
  cases hd
  obtain ⟨v, h1, h2⟩ := r.get (List.getElem?_eq_getElem hi)
  refine ⟨⟨vs, v, hs, h1⟩, fun x H' y => ?_⟩
  obtain ⟨T, z, rfl, hT, rfl, y⟩ := y
  have := y vs hs
  rw [h1] at this
  cases this
  refine .inr ⟨T, _, _, rfl, rfl, hT, rfl, .cons (.int _) (.cons ?_ .nil)⟩
  rw [List.getD_eq_getElem?_getD, List.getElem?_eq_getElem hi]
  exact h2
def CI.enum (a : CE) : CI where
  t := fun G W => iEnum G.K (tCons (a.t G W) tNil)
  ev := fun env => (a.ev env).bind fun x e1 => match x with
    | .list ds => .ok (enumD ds) e1
    | _ => .bad
  ok := fun {G B σ env H I W Q} S P => a.ok S (Post.bind P fun x e1 v H1 I1 S1 ex1 r1 P1 => by
    cases r1 with
    | lst h q => exact ⟨_, _, rfl, sqL_fun (S1.ih _ _ h), P1 _ H1 I1 S1 (Ex.refl _) (ite_ok h q)⟩
    | _ => exact P1.elim)
  pu := a.pu
  pok := fun p env d env' h => by
    obtain ⟨x, e1, h1, h⟩ := R.bind_eq_ok h
    split at h
    · cases h; exact a.pok p _ _ _ h1
    · cases h
def zipD (ds es : List D) : List D := List.zipWith (fun x y => PyData.tuple [x, y]) ds es
theorem itz_ok {G : Gm} {I : Hp} {a b : Addr} {vs ws : List V} {ds es : List D} (h : I a = some (.lst vs)) (r : Reps G I vs ds) (h' : I b = some (.lst ws)) (r' : Reps G I ws es) : ItOk G I (Itz G.K a b) (zipD ds es) := fun i H e => by
  have hs : SqL G.K H a vs := sqL_fun (e _ _ h)
  have hs' : SqL G.K H b ws := sqL_fun (e _ _ h')
  have hl : (zipD ds es).length = min ds.length es.length := by simp [zipD]
  refine ⟨fun hi => ⟨vs, ws, hs, hs', by rw [r.length, r'.length]; omega⟩, fun d hd => ?_⟩
  have hi : i < min ds.length es.length := by rw [← hl]; exact (List.getElem?_eq_some_iff.mp hd).1
  have hi1 : i < ds.length := by omega
  have hi2 : i < es.length := by omega
  unfold zipD at hd
  rw [List.getElem?_zipWith, List.getElem?_eq_getElem hi1, List.getElem?_eq_getElem hi2] at hd
  cases hd
  obtain ⟨v, h1, h2⟩ := r.get (List.getElem?_eq_getElem hi1)
  obtain ⟨w, h3, h4⟩ := r'.get (List.getElem?_eq_getElem hi2)
  refine ⟨⟨vs, ws, v, w, hs, hs', h1, h3⟩, fun x H' y => ?_⟩
  obtain ⟨T, z, z', rfl, hT, rfl, y, y'⟩ := y
  have t1 := y vs hs
  rw [h1] at t1
  cases t1
  have t2 := y' ws hs'
  rw [h3] at t2
  cases t2
  exact .inr ⟨T, _, _, rfl, rfl, hT, rfl, .cons h2 (.cons h4 .nil)⟩
def CI.zip (a b : CE) : CI where
  t := fun G W => iZip G.K (tCons (a.t G W) (tCons (b.t G W) tNil))
  ev := fun env => (a.ev env).bind fun x e1 => (b.ev e1).bind fun y e2 => match x, y with
    | .list ds, .list es => .ok (zipD ds es) e2
    | _, _ => .bad
  ok := fun {G B σ env H I W Q} S P => a.ok S (Post.bind P fun x e1 v H1 I1 S1 ex1 r1 P1 => b.ok S1 (Post.bind P1 fun y e2 w H2 I2 S2 ex2 r2 P2 => by
    cases r1 with
    | lst h q =>
      cases r2 with
      | lst h' q' => exact ⟨_, _, _, _, rfl, sqL_fun (S2.ih _ _ (ex2 _ _ h)), sqL_fun (S2.ih _ _ h'), P2 _ H2 I2 S2 (Ex.refl _) (itz_ok (ex2 _ _ h) (q.mono ex2) h' q')⟩
      | _ => exact P2.elim
    | _ => exact P2.elim))
  pu := a.pu && b.pu
  pok := fun p env d env' h => by
    rw [Bool.and_eq_true] at p
    obtain ⟨x, e1, h1, h⟩ := R.bind_eq_ok h
    obtain ⟨y, e2, h2, h⟩ := R.bind_eq_ok h
    split at h
    · cases h; rw [b.pok p.2 _ _ _ h2, a.pok p.1 _ _ _ h1]
    · cases h
def strD (x : Str) : List D := x.cps.toList.map fun c => PyData.str ⟨#[c]⟩
theorem its_ok {G : Gm} {I : Hp} (x : Str) : ItOk G I (Its x) (strD x) := fun i H e => by
  have hl : (strD x).length = x.cps.size := by simp [strD]
  refine ⟨fun h => by rw [hl] at h; exact Nat.le_of_eq h.symm, fun d hd => ?_⟩
  have hi : i < x.cps.size := by rw [← hl]; exact (List.getElem?_eq_some_iff.mp hd).1
  refine ⟨hi, fun v H' y => ?_⟩
  obtain ⟨rfl, c, hc, rfl⟩ := y
  unfold strD at hd
  rw [List.getElem?_map, Array.getElem?_toList, hc] at hd
  cases hd
  exact .inl ⟨rfl, .str _⟩
def CI.str (a : CE) : CI where
  t := fun G W => iStr (a.t G W)
  ev := fun env => (a.ev env).bind fun x e1 => match x with
    | .str z => .ok (strD z) e1
    | _ => .bad
  ok := fun {G B σ env H I W Q} S P => a.ok S (Post.bind P fun x e1 v H1 I1 S1 ex1 r1 P1 => by
    cases r1 with
    | str z => exact ⟨z, rfl, P1 _ H1 I1 S1 (Ex.refl _) (its_ok z)⟩
    | _ => exact P1.elim)
  pu := a.pu
  pok := fun p env d env' h => by
    obtain ⟨x, e1, h1, h⟩ := R.bind_eq_ok h
    split at h
    · cases h; exact a.pok p _ _ _ h1
    · cases h

/-! ### comprehensions -/
def wipeE (env : Env) : List Nat → Env
  | [] => env
  | v :: vs => (wipeE env vs).set v none
theorem Sim.wipe {G : Gm} {B : Bs} {H I : Hp} (hv : B.v0 = none) : ∀ {vs : List Nat} {σ : L2.St} {env : Env}, Sim G B σ env H I → Sim G B (L2.wipe σ vs) (wipeE env vs) H I
  | [], _, _, S => S
  | v :: vs, _, _, S => (Sim.wipe hv (vs := vs) S).clear hv v none
theorem wipe_set (σ : L2.St) (x : Option V) : ∀ (vs : List Nat) (i : Nat), i ∈ vs → L2.wipe (σ.set i x) vs = L2.wipe σ vs
  | [], _, h => by simp at h
  | v :: vs, i, h => by
    unfold L2.wipe
    by_cases hi : i ∈ vs
    · rw [wipe_set σ x vs i hi]
    · have hv : i = v := by
        rcases List.mem_cons.mp h with e | e
        · exact e
        · exact absurd e hi
      subst hv
      have key : ∀ ws : List Nat, i ∉ ws → L2.wipe (σ.set i x) ws = (L2.wipe σ ws).set i x := by
        intro ws
        induction ws with
        | nil => intro _; rfl
        | cons w ws ih =>
          intro hw
          unfold L2.wipe
          rw [ih (fun z => hw (List.mem_cons_of_mem _ z)), List.set_comm _ _ (fun z => hw (by rw [z]; exact List.mem_cons_self))]
      rw [key vs hi, List.set_set]
theorem wipe_idem (σ : L2.St) : ∀ vs : List Nat, L2.wipe (L2.wipe σ vs) vs = L2.wipe σ vs := by
  intro vs
  have key : ∀ ws us : List Nat, (∀ w ∈ ws, w ∈ us) → ∀ σ : L2.St, L2.wipe (L2.wipe σ ws) us = L2.wipe σ us := by
    intro ws
    induction ws with
    | nil => intro us _ σ; rfl
    | cons w ws ih =>
      intro us h σ
      show L2.wipe ((L2.wipe σ ws).set w none) us = _
      rw [wipe_set _ _ us w (h w List.mem_cons_self)]
      exact ih us (fun x hx => h x (List.mem_cons_of_mem _ hx)) σ
  exact key vs vs (fun _ h => h) σ
/-- targets of a comprehension: they touch their own slots alone -/
structure CGc where
  g : CG
  own : List Nat
  ok : ∀ {G : Gm} {B : Bs} {σ : L2.St} {env env' : Env} {H I : Hp} {x : V} {d : D} {Q : L2.St → Hp → Prop}, Sim G B σ env H I → Rep G I x d → g.ev d env = some env' → (∀ σ', Sim G B σ' env' H I → (∀ vs, (∀ i ∈ own, i ∈ vs) → L2.wipe σ' vs = L2.wipe σ vs) → Q σ' H) → g.t G x σ H Q
def CGc.name (i : Nat) : CGc where
  g := CG.name i
  own := [i]
  ok := fun {G B σ env env' H I x d Q} S r h k => by
    obtain ⟨h1, rfl⟩ := set_lt h
    exact k _ (S.setIm r h1) fun vs h => wipe_set σ _ vs i (h i (by simp))
theorem gNamesC_ok {G : Gm} {B : Bs} {I H : Hp} {Q : L2.St → Hp → Prop} : ∀ {is : List Nat} {σ : L2.St} {env env' : Env} {xs : List V} {ds : List D}, Sim G B σ env H I → Reps G I xs ds → evNames is ds env = some env' →
    (∀ σ', Sim G B σ' env' H I → (∀ vs, (∀ i ∈ is, i ∈ vs) → L2.wipe σ' vs = L2.wipe σ vs) → Q σ' H) → gNames is xs σ H Q
  | [], σ, env, env', _, _, S, .nil, h, k => by cases h; exact ⟨rfl, k σ S fun _ _ => rfl⟩
  | [], _, _, _, _, _, _, .cons _ _, h, _ => by simp [evNames] at h
  | i :: r, _, _, _, _, _, _, .nil, h, _ => by simp [evNames] at h
  | i :: r, σ, env, env', _, _, S, .cons (v := v) (vs := vs) q t, h, k => by
    unfold evNames at h
    split at h
    · rename_i hi
      exact ⟨v, vs, rfl, gNamesC_ok (S.setIm q hi) t h fun σ' S' w => k σ' S' fun us hu => (w us fun j hj => hu j (List.mem_cons_of_mem _ hj)).trans (wipe_set σ _ us i (hu i List.mem_cons_self))⟩
    · cases h
def CGc.tup (is : List Nat) : CGc where
  g := CG.tup is
  own := is
  ok := fun {G B σ env env' H I x d Q} S r h k => by
    cases r with
    | tup h1 q => exact ⟨_, _, rfl, .inl (.inl (S.ih _ _ h1)), by rw [q.length]; exact evNames_len h, gNamesC_ok S q h k⟩
    | _ => cases h

/-- the environment without what is owned -/
def stripE (env : Env) : Env := env.map fun s => match s with
  | some (.ow _) => none
  | s => s
theorem SlOk.strip {G : Gm} {I H : Hp} : ∀ {σ : L2.St} {env : Env} {as : List Addr}, SlOk G I H σ env as → ∀ H', SlOk G I H' σ (stripE env) []
  | _, _, _, .nil, _ => .nil
  | _, _, _, .skip r, H' => .skip (r.strip H')
  | _, _, _, .im q r, H' => .im q (r.strip H')
  | _, _, _, .ow _ r, H' => .skip (r.strip H')
theorem strip_no {env : Env} {i : Nat} {o : OD} : ¬ (stripE env)[i]? = some (some (.ow o)) := fun h => by
  unfold stripE at h
  rw [List.getElem?_map] at h
  cases q : env[i]? with
  | none => rw [q] at h; cases h
  | some s =>
    rw [q] at h
    cases s with
    | none => cases h
    | some s => cases s <;> cases h
theorem Sim.strip {G : Gm} {B : Bs} {σ : L2.St} {env : Env} {H I : Hp} (S : Sim G B σ env H I) : Sim G ⟨H, I, [], none⟩ σ (stripE env) H I := by
  obtain ⟨as, s1, s2, s3⟩ := S.sl
  exact ⟨Ex.refl _, S.ih, (fun b o h1 h2 => absurd (h1.symm.trans h2) (by simp)), fun _ _ h _ => h, fun b hb => (by cases hb), ⟨[], s1.strip H, List.nodup_nil, fun a ha => (by cases ha)⟩, fun i a ds h => absurd h strip_no, fun w hw => (by cases hw)⟩
/-- the turns of a comprehension: what it adds -/
def lcF (g : D → Env → Option Env) (c : Env → R Bool) (e : Env → R D) (env : Env) : List D → Option (List D)
  | [] => some []
  | d :: ds => match g d env with
    | none => none
    | some e1 => match c e1 with
      | .ok true e2 => match e e2 with
        | .ok x _ => (lcF g c e env ds).map fun r => x :: r
        | _ => none
      | .ok false _ => lcF g c e env ds
      | _ => none
abbrev W0 : WX := fun _ _ _ _ => False
theorem lc_core {G : Gm} {B : Bs} {σ : L2.St} {e1 : Env} {H1 I1 : Hp} {W : WX} {Q : VK} {J : It} {ds : List D} (g : CGc) (c : CT) (e : CE) (S1 : Sim G B σ e1 H1 I1) (r1 : ItOk G I1 J ds) (hlen : ds.length ≤ 100000)
    (P1 : LPost G B σ W I1 Q (R.lift (lcF g.g.ev c.ev e.ev (wipeE (stripE e1) g.own) ds) e1)) : tLc (fun _ _ k => k J H1) (g.g.t G) (c.t G W0) (e.t G W0) g.own σ H1 Q := by
  intro Dl hD
  have nD : ∀ b o, H1 b = some o → b ≠ Dl := fun b o h => ne_of_none h hD
  cases q : lcF g.g.ev c.ev e.ev (wipeE (stripE e1) g.own) ds with
  | none => rw [q] at P1; exact P1.elim
  | some res =>
    rw [q] at P1
    refine ⟨fun i m H => m = ds.length - i ∧ i ≤ ds.length ∧ ∃ I' acc done rest, Ex I1 I' ∧ Ex I' H ∧ (∀ b o, I' b = some o → I1 b = none → H1 b = none) ∧ Ex H1 H ∧ H Dl = some (.lst acc) ∧ I' Dl = none ∧ Reps G I' acc done ∧ acc.length ≤ i ∧
      lcF g.g.ev c.ev e.ev (wipeE (stripE e1) g.own) (ds.drop i) = some rest ∧ res = done ++ rest,
      ⟨ds.length, by simp, Nat.zero_le _, I1, [], [], res, Ex.refl _, S1.ih.trans (Ex.new hD), (fun b o h1 h2 => absurd (h1.symm.trans h2) (by simp)), Ex.new hD, upd_same, S1.ni hD, .nil, Nat.zero_le _, q, rfl⟩, ?_⟩
    rintro i m H ⟨rfl, hi, I', acc, done, rest, ex, ih, nw, kp, hDl, iDl, ra, hacc, hl, hres⟩
    have S : Sim G B σ e1 H I' := S1.step ex ih nw kp
    obtain ⟨h1, h2⟩ := r1 i H (ex.trans ih)
    by_cases hlt : i < ds.length
    · right
      have hd : ds[i]? = some ds[i] := List.getElem?_eq_getElem hlt
      obtain ⟨h3, h4⟩ := h2 _ hd
      refine ⟨h3, fun H => i + 1 ≤ ds.length ∧ ∃ I' acc done rest, Ex I1 I' ∧ Ex I' H ∧ (∀ b o, I' b = some o → I1 b = none → H1 b = none) ∧ Ex H1 H ∧ H Dl = some (.lst acc) ∧ I' Dl = none ∧ Reps G I' acc done ∧ acc.length ≤ i + 1 ∧
        lcF g.g.ev c.ev e.ev (wipeE (stripE e1) g.own) (ds.drop (i + 1)) = some rest ∧ res = done ++ rest, fun H' h => ⟨ds.length - (i + 1), by omega, rfl, h.1, h.2⟩, fun x H' y => ?_⟩
      have nDl : ∀ b, H b = none → b ≠ Dl := fun b h z => by rw [z, hDl] at h; cases h
      obtain ⟨I2, S2, e2, r2, nw2, kp2⟩ : ∃ I2, Sim G B σ e1 H' I2 ∧ Ex I' I2 ∧ Rep G I2 x ds[i] ∧ (∀ b o, I2 b = some o → I' b = none → H b = none) ∧ Ex H H' := by
        rcases h4 x H' y with ⟨a, b⟩ | ⟨p, vs, es, a1, a2, a3, a4, a5⟩
        · subst a; exact ⟨I', S, Ex.refl _, b.mono ex, (fun b o h1 h2 => absurd (h1.symm.trans h2) (by simp)), Ex.refl _⟩
        · subst a2 a4
          obtain ⟨S2, e2⟩ := S.alloc (o := .tup vs) a3
          refine ⟨_, S2, e2, ?_, fun b o h1 h2 => ?_, Ex.new a3⟩
          · rw [a1]
            exact .tup upd_same ((a5.mono ex).mono e2)
          · by_cases z : b = p
            · rw [z]; exact a3
            · rw [upd_ne z, h2] at h1; cases h1
      have Sw := Sim.wipe rfl (vs := g.own) S2.strip
      rw [List.drop_eq_getElem_cons hlt] at hl
      unfold lcF at hl
      cases qg : g.g.ev ds[i] (wipeE (stripE e1) g.own) with
      | none => rw [qg] at hl; cases hl
      | some e3 =>
        simp only [qg] at hl
        -- behind the element, or behind a test that fails
        have back : ∀ {σ' : L2.St} {e' : Env} {H5 I5 : Hp}, Sim G ⟨H', I2, [], none⟩ σ' e' H5 I5 → Ex I2 I5 → Ex I1 I5 ∧ (∀ b o, I5 b = some o → I1 b = none → H1 b = none) ∧ Ex H1 H5 ∧ H5 Dl = some (.lst acc) ∧ I5 Dl = none := by
          intro σ' e' H5 I5 S5 e5
          have kk : Ex H' H5 := fun b o h => S5.keep b o h (by intro z; cases z)
          have nw5 : ∀ b o, I5 b = some o → I2 b = none → H' b = none := S5.fr
          have d5 : H' Dl = some (.lst acc) := kp2 _ _ hDl
          refine ⟨(ex.trans e2).trans e5, fun b o h1 h2 => ?_, (kp.trans kp2).trans kk, kk _ _ d5, ?_⟩
          · cases z2 : I2 b with
            | some o2 =>
              cases z1 : I' b with
              | some o1 => exact nw b o1 z1 h2
              | none =>
                have hb := nw2 b o2 z2 z1
                cases z0 : H1 b with
                | none => rfl
                | some o0 => rw [kp b o0 z0] at hb; cases hb
            | none =>
              have hb := nw5 b o h1 z2
              cases z0 : H1 b with
              | none => rfl
              | some o0 => rw [kp2 b o0 (kp b o0 z0)] at hb; cases hb
          · cases z5 : I5 Dl with
            | none => rfl
            | some o5 =>
              cases z2 : I2 Dl with
              | none => rw [nw5 Dl o5 z5 z2] at d5; cases d5
              | some o2 =>
                have := nw2 Dl o2 z2 iDl
                rw [hDl] at this; cases this
        refine g.ok Sw r2 qg fun σ' S3 hw => ⟨(hw g.own fun _ h => h).trans (wipe_idem σ g.own), c.ok S3 ?_⟩
        cases qc : c.ev e3 with
        | bad => simp only [qc] at hl; cases hl
        | err k e' => simp only [qc] at hl; cases hl
        | ok b e4 =>
          simp only [qc] at hl
          intro b' H4 I4 S4 ex4 hb
          subst hb
          cases b' with
          | false =>
            obtain ⟨k1, k2, k3, k4, k5⟩ := back S4 ex4
            exact ⟨hlt, I4, acc, done, rest, k1, S4.ih, k2, k3, k4, k5, (ra.mono e2).mono ex4, by omega, hl, hres⟩
          | true =>
            refine e.ok S4 ?_
            cases qe : e.ev e4 with
            | bad => simp only [qe] at hl; cases hl
            | err k e' => simp only [qe] at hl; cases hl
            | ok xx e5 =>
              simp only [qe] at hl
              intro y' H5 I5 S5 ex5 ry
              obtain ⟨k1, k2, k3, k4, k5⟩ := back S5 (ex4.trans ex5)
              cases ql : lcF g.g.ev c.ev e.ev (wipeE (stripE e1) g.own) (ds.drop (i + 1)) with
              | none => rw [ql] at hl; cases hl
              | some rest' =>
                rw [ql] at hl
                cases hl
                refine ⟨acc, k4, Nat.lt_of_le_of_lt hacc (Nat.lt_of_lt_of_le (Nat.lt_of_lt_of_le hlt hlen) (by rw [sizeLine_eq]; decide)), hlt, I5, acc ++ [y'], done ++ [xx], rest', k1, fun b o h => ?_, k2, fun b o h => ?_, upd_same, k5, (((ra.mono e2).mono ex4).mono ex5).app (.cons ry .nil), by simp; omega, rfl, by rw [hres]; simp⟩
                · rw [upd_ne (fun z => by rw [z, k5] at h; cases h)]; exact S5.ih _ _ h
                · rw [upd_ne (nD b o h)]; exact k3 _ _ h
    · have ee : i = ds.length := by omega
      subst ee
      refine .inl ⟨h1 rfl, ?_⟩
      rw [List.drop_length] at hl
      cases hl
      rw [List.append_nil] at hres
      subst hres
      have eH : H = upd (delH H Dl) Dl (.lst acc) := by
        funext b
        by_cases z : b = Dl
        · rw [z, upd_same]; exact hDl
        · rw [upd_ne z, delH_ne z]
      rw [eH]
      refine P1 Dl acc (delH H Dl) I' (S1.step ex (fun b o h => ?_) nw fun b o h => ?_) ex delH_same ra
      · rw [delH_ne (fun z => by rw [z, iDl] at h; cases h)]; exact ih _ _ h
      · rw [delH_ne (nD b o h)]; exact kp _ _ h
def CL.lc (src : CI) (g : CGc) (c : CT) (e : CE) : CL where
  t := fun G W => tLc (src.t G W) (g.g.t G) (c.t G W0) (e.t G W0) g.own
  ev := fun env => (src.ev env).bind fun ds e1 => if lk (decide (ds.length ≤ 100000)) then R.lift (lcF g.g.ev c.ev e.ev (wipeE (stripE e1) g.own) ds) e1 else .bad
  ok := fun {G B σ env H I W Q} S P => src.ok S (LPost.bind P fun ds e1 J H1 I1 S1 ex1 r1 P1 => by
    split at P1
    · rename_i hlen
      exact lc_core g c e S1 r1 (of_lk hlen) P1
    · exact P1.elim)
  pu := src.pu
  pok := fun p env d env' h => by
    obtain ⟨x, e1, h1, h⟩ := R.bind_eq_ok h
    split at h
    · rw [(R.lift_eq_ok h).2]; exact src.pok p _ _ _ h1
    · cases h
end FD
set_option Elab.async false
set_option linter.all false
set_option maxRecDepth 100000
set_option maxHeartbeats 4000000
noncomputable section
namespace FD
open PySem L2

/-! ### built-in functions -/
def txtOf (i : Int) : Str := toString i
def rLen (K : PySem.W.Frag) : List V → Hp → VK → Prop := fun xs H Q => ∃ x n, xs = [x] ∧ LenV K x H n ∧ Q (.int n) H
def fLen : List D → Option D
  | [.list ds] => some (.int ds.length)
  | [.tuple ds] => some (.int ds.length)
  | [.str x] => if lineOk x.length then some (.int x.length) else none
  | _ => none
theorem cLen : CbOk (fun G => rLen G.K) fLen := by
  intro G B σ env H I vs ds d Q S r h k
  cases r with
  | nil => cases h
  | cons r1 r =>
    cases r with
    | cons _ _ => cases r1 <;> cases h
    | nil =>
      cases r1 with
      | lst h1 q1 => cases h; exact ⟨_, _, rfl, .inl ⟨_, sqL_fun (S.ih _ _ h1), rfl⟩, by rw [q1.length]; exact k _ H I S (Ex.refl _) (.int _)⟩
      | tup h1 q1 => cases h; exact ⟨_, _, rfl, .inr ⟨_, .inl (.inl (S.ih _ _ h1)), rfl⟩, by rw [q1.length]; exact k _ H I S (Ex.refl _) (.int _)⟩
      | str x =>
        simp only [fLen] at h
        split at h
        · rename_i c
          cases h
          exact ⟨_, _, rfl, ⟨lineOk_le c, rfl⟩, k _ H I S (Ex.refl _) (.int _)⟩
        · cases h
      | _ => cases h
def rStrI : List V → Hp → VK → Prop := fun xs H Q => ∃ i, xs = [.int i] ∧ i.natAbs < 10 ^ 4300 ∧ Q (.str (toString i)) H
def BIGF : Nat := 10 ^ 570
theorem log2_bigs {n : Nat} (h : n < BIGF) : n.log2 < 1920 := by
  by_cases e : n = 0
  · subst e; decide
  · rw [Nat.log2_lt e]
    exact Nat.lt_trans h (by unfold BIGF; decide +kernel)
def BIGS : Nat := 10 ^ 630
theorem bigs_lim {n : Nat} (h : n < BIGS) : n < 10 ^ 4300 := Nat.lt_trans h (by unfold BIGS; decide +kernel)
/-- no other limit of digits is set -/
def Dig (G : Gm) : Prop := PySem.W.nsIn G.K cStatics "sys.int_max_str_digits" = some none
theorem ns_none {K : PySem.W.Frag} {h : Heap} {a : Addr} {mg : Str → Option Value} {n : Str} (X : K.In h) (G : h.Ns a mg) (e : PySem.W.nsIn K a n = some none) : mg n = none := by
  obtain ⟨o, es, ep, g, d, _, f⟩ := G
  unfold PySem.W.nsIn at e
  split at e
  · rename_i w
    have z := X _ _ w
    rw [g] at z
    cases z
    cases d
    split at e
    · cases e
    · rename_i none_
      rw [← f]
      show (nsFind _ _) = none
      unfold nsFind findBy
      rw [← Array.find?_toList, none_]
      rfl
  · cases e
theorem call_strBig {X : Cx} (hc : X.calm = true) (hd : PySem.W.nsIn X.K cStatics "sys.int_max_str_digits" = some none) : CallR X (.type "str") rStrI := by
  intro pins s σ H xs us Q I r h
  obtain ⟨i, rfl, hz, q⟩ := h
  obtain ⟨u, rfl, ru⟩ := vals1 r
  obtain ⟨t, rfl⟩ := ru
  obtain ⟨mc, g1, _⟩ := I.nolimit
  exact PyProof.Rows.str_of_int_or (I.ok.hd hc) ⟨mc, g1, ns_none I.kIn g1 hd⟩ (fun _ => ⟨.str _, H, I.tok _, ⟨_, rfl⟩, q⟩) fun h => absurd hz (Nat.not_lt.mpr h)
def fStrI : List D → Option D
  | [.int i] => if lk (decide (i.natAbs < BIGS)) then some (.str (txtOf i)) else none
  | _ => none
theorem cStrI : CbOk (fun _ => rStrI) fStrI := by
  intro G B σ env H I vs ds d Q S r h k
  cases r with
  | nil => cases h
  | cons r1 r =>
    cases r with
    | cons _ _ => cases r1 <;> cases h
    | nil =>
      cases r1 with
      | int i =>
        simp only [fStrI] at h
        split at h
        · rename_i c
          cases h
          exact ⟨i, rfl, bigs_lim (of_lk c), k _ H I S (Ex.refl _) (.str _)⟩
        · cases h
      | _ => cases h
def rIntS : List V → Hp → VK → Prop := fun xs H Q => ∃ a n, xs = [.str a] ∧ PySem.intText? a = some n ∧ a.length ≤ 640 ∧ Q (.int n) H
def fIntS : List D → Option D
  | [.str a] => if lk (decide (a.length ≤ 640)) then (PySem.intText? a).map .int else none
  | _ => none
theorem cIntS : CbOk (fun _ => rIntS) fIntS := by
  intro G B σ env H I vs ds d Q S r h k
  cases r with
  | nil => cases h
  | cons r1 r =>
    cases r with
    | cons _ _ => cases r1 <;> cases h
    | nil =>
      cases r1 with
      | str a =>
        simp only [fIntS] at h
        split at h
        · rename_i c
          cases q : PySem.intText? a with
          | none => rw [q] at h; cases h
          | some n =>
            rw [q] at h
            cases h
            exact ⟨a, n, rfl, q, of_lk c, k _ H I S (Ex.refl _) (.int _)⟩
        · cases h
      | _ => cases h
def rMin2 : List V → Hp → VK → Prop := fun xs H Q => ∃ i j, xs = [.int i, .int j] ∧ Q (.int (if j < i then j else i)) H
def rMax2 : List V → Hp → VK → Prop := fun xs H Q => ∃ i j, xs = [.int i, .int j] ∧ Q (.int (if j > i then j else i)) H
def fMin2 : List D → Option D
  | [.int i, .int j] => some (.int (if j < i then j else i))
  | _ => none
def fMax2 : List D → Option D
  | [.int i, .int j] => some (.int (if j > i then j else i))
  | _ => none
theorem reps2 {G : Gm} {I : Hp} {vs : List V} {i j : Int} (r : Reps G I vs [.int i, .int j]) : vs = [.int i, .int j] := by
  cases r with
  | cons r1 r =>
    cases r with
    | cons r2 r => cases r; cases r1; cases r2; rfl
theorem cMin2 : CbOk (fun _ => rMin2) fMin2 := by
  intro G B σ env H I vs ds d Q S r h k
  unfold fMin2 at h
  split at h
  · cases h; exact ⟨_, _, reps2 r, k _ H I S (Ex.refl _) (.int _)⟩
  · cases h
theorem cMax2 : CbOk (fun _ => rMax2) fMax2 := by
  intro G B σ env H I vs ds d Q S r h k
  unfold fMax2 at h
  split at h
  · cases h; exact ⟨_, _, reps2 r, k _ H I S (Ex.refl _) (.int _)⟩
  · cases h
def rAbs : List V → Hp → VK → Prop := fun xs H Q => ∃ i, xs = [.int i] ∧ Q (.int (if i < 0 then -i else i)) H
def fAbs : List D → Option D
  | [.int i] => some (.int (if i < 0 then -i else i))
  | _ => none
theorem cAbs : CbOk (fun _ => rAbs) fAbs := by
  intro G B σ env H I vs ds d Q S r h k
  unfold fAbs at h
  split at h
  · cases h
    cases r with
    | cons r1 r => cases r; cases r1; exact ⟨_, rfl, k _ H I S (Ex.refl _) (.int _)⟩
  · cases h
/-- the ints of a list of ints -/
def intsD : List D → Option (List Int)
  | [] => some []
  | .int i :: r => (intsD r).map fun ns => i :: ns
  | _ => none
theorem intsD_eq : ∀ {ds : List D} {ns : List Int}, intsD ds = some ns → ds = ns.map .int
  | [], ns, h => by cases h; rfl
  | .int i :: r, ns, h => by
    unfold intsD at h
    cases q : intsD r with
    | none => rw [q] at h; cases h
    | some ms => rw [q] at h; cases h; rw [intsD_eq q]; rfl
  | .none :: _, _, h => by simp [intsD] at h
  | .bool _ :: _, _, h => by simp [intsD] at h
  | .str _ :: _, _, h => by simp [intsD] at h
  | .list _ :: _, _, h => by simp [intsD] at h
  | .tuple _ :: _, _, h => by simp [intsD] at h
  | .dict _ :: _, _, h => by simp [intsD] at h
@[simp] theorem intsD_map (ns : List Int) : intsD (ns.map .int) = some ns := by
  induction ns with
  | nil => rfl
  | cons n ns ih => simp [intsD, ih]
def boolsD : List D → Option (List Bool)
  | [] => some []
  | .bool i :: r => (boolsD r).map fun ns => i :: ns
  | _ => none
theorem boolsD_eq : ∀ {ds : List D} {ns : List Bool}, boolsD ds = some ns → ds = ns.map .bool
  | [], ns, h => by cases h; rfl
  | .bool i :: r, ns, h => by
    unfold boolsD at h
    cases q : boolsD r with
    | none => rw [q] at h; cases h
    | some ms => rw [q] at h; cases h; rw [boolsD_eq q]; rfl
  | .none :: _, _, h => by simp [boolsD] at h
  | .int _ :: _, _, h => by simp [boolsD] at h
  | .str _ :: _, _, h => by simp [boolsD] at h
  | .list _ :: _, _, h => by simp [boolsD] at h
  | .tuple _ :: _, _, h => by simp [boolsD] at h
  | .dict _ :: _, _, h => by simp [boolsD] at h
@[simp] theorem boolsD_map (ns : List Bool) : boolsD (ns.map .bool) = some ns := by
  induction ns with
  | nil => rfl
  | cons n ns ih => simp [boolsD, ih]
theorem oneL {G : Gm} {I : Hp} {vs : List V} {ds : List D} (r : Reps G I vs [.list ds]) : ∃ a ws, vs = [.ref a] ∧ I a = some (.lst ws) ∧ Reps G I ws ds := by
  cases r with
  | cons r1 r => cases r; cases r1; exact ⟨_, _, rfl, by assumption, by assumption⟩
def fInts (f : List Int → Option D) : List D → Option D
  | [.list ds] => (intsD ds).bind f
  | _ => none
theorem fInts_eq {f : List Int → Option D} {ds : List D} {d : D} (h : fInts f ds = some d) : ∃ ns, ds = [.list (ns.map .int)] ∧ f ns = some d := by
  unfold fInts at h
  split at h
  · rename_i es
    cases q : intsD es with
    | none => rw [q] at h; cases h
    | some ns => rw [q] at h; exact ⟨ns, by rw [intsD_eq q], h⟩
  · cases h
theorem cSum : CbOk (fun G => rSum G.K) (fInts fun ns => some (.int ns.sum)) := by
  intro G B σ env H I vs ds d Q S r h k
  obtain ⟨ns, rfl, h'⟩ := fInts_eq h
  clear h
  have h := h'
  cases h
  obtain ⟨a, ws, rfl, h1, h2⟩ := oneL r
  have := h2.ints
  subst this
  exact ⟨a, ns, rfl, sqL_fun (S.ih _ _ h1), k _ H I S (Ex.refl _) (.int _)⟩
def maxI : List Int → Int
  | [] => 0
  | [n] => n
  | n :: r => let m := maxI r; if m > n then m else n
def minI : List Int → Int
  | [] => 0
  | [n] => n
  | n :: r => let m := minI r; if m < n then m else n
theorem maxI_is : ∀ {ns : List Int}, ns ≠ [] → maxI ns ∈ ns ∧ ∀ y ∈ ns, y ≤ maxI ns
  | [], h => absurd rfl h
  | [n], _ => ⟨by simp [maxI], fun y hy => by simp at hy; subst hy; simp [maxI]⟩
  | n :: m :: r, _ => by
    obtain ⟨h1, h2⟩ := maxI_is (ns := m :: r) (by simp)
    show (if maxI (m :: r) > n then maxI (m :: r) else n) ∈ _ ∧ ∀ y ∈ n :: m :: r, y ≤ (if maxI (m :: r) > n then maxI (m :: r) else n)
    split
    · exact ⟨List.mem_cons_of_mem _ h1, fun y hy => by
        rcases List.mem_cons.mp hy with e | e
        · subst e; omega
        · exact h2 y e⟩
    · exact ⟨List.mem_cons_self, fun y hy => by
        rcases List.mem_cons.mp hy with e | e
        · subst e; omega
        · have := h2 y e; omega⟩
theorem minI_is : ∀ {ns : List Int}, ns ≠ [] → minI ns ∈ ns ∧ ∀ y ∈ ns, minI ns ≤ y
  | [], h => absurd rfl h
  | [n], _ => ⟨by simp [minI], fun y hy => by simp at hy; subst hy; simp [minI]⟩
  | n :: m :: r, _ => by
    obtain ⟨h1, h2⟩ := minI_is (ns := m :: r) (by simp)
    show (if minI (m :: r) < n then minI (m :: r) else n) ∈ _ ∧ ∀ y ∈ n :: m :: r, (if minI (m :: r) < n then minI (m :: r) else n) ≤ y
    split
    · exact ⟨List.mem_cons_of_mem _ h1, fun y hy => by
        rcases List.mem_cons.mp hy with e | e
        · subst e; omega
        · exact h2 y e⟩
    · exact ⟨List.mem_cons_self, fun y hy => by
        rcases List.mem_cons.mp hy with e | e
        · subst e; omega
        · have := h2 y e; omega⟩
theorem cMaxL : CbOk (fun G => rMax G.K) (fInts fun ns => if ns = [] then none else some (.int (maxI ns))) := by
  intro G B σ env H I vs ds d Q S r h k
  obtain ⟨ns, rfl, h'⟩ := fInts_eq h
  clear h
  have h := h'
  split at h
  · cases h
  · rename_i hn
    cases h
    obtain ⟨a, ws, rfl, h1, h2⟩ := oneL r
    have := h2.ints
    subst this
    refine ⟨a, ns, rfl, sqL_fun (S.ih _ _ h1), List.length_pos_iff.mpr hn, fun m hm hle => ?_⟩
    obtain ⟨q1, q2⟩ := maxI_is hn
    have : m = maxI ns := Int.le_antisymm (q2 m hm) (hle _ q1)
    subst this
    exact k _ H I S (Ex.refl _) (.int _)
theorem cMinL : CbOk (fun G => rMin G.K) (fInts fun ns => if ns = [] then none else some (.int (minI ns))) := by
  intro G B σ env H I vs ds d Q S r h k
  obtain ⟨ns, rfl, h'⟩ := fInts_eq h
  clear h
  have h := h'
  split at h
  · cases h
  · rename_i hn
    cases h
    obtain ⟨a, ws, rfl, h1, h2⟩ := oneL r
    have := h2.ints
    subst this
    refine ⟨a, ns, rfl, sqL_fun (S.ih _ _ h1), List.length_pos_iff.mpr hn, fun m hm hle => ?_⟩
    obtain ⟨q1, q2⟩ := minI_is hn
    have : m = minI ns := Int.le_antisymm (hle _ q1) (q2 m hm)
    subst this
    exact k _ H I S (Ex.refl _) (.int _)
def fBools (f : List Bool → D) : List D → Option D
  | [.list ds] => (boolsD ds).map f
  | _ => none
theorem fBools_eq {f : List Bool → D} {ds : List D} {d : D} (h : fBools f ds = some d) : ∃ ns, ds = [.list (ns.map .bool)] ∧ d = f ns := by
  unfold fBools at h
  split at h
  · rename_i es
    cases q : boolsD es with
    | none => rw [q] at h; cases h
    | some ns => rw [q] at h; cases h; exact ⟨ns, by rw [boolsD_eq q], rfl⟩
  · cases h
theorem cAny : CbOk (fun G => rAny G.K) (fBools fun bs => .bool (bs.any id)) := by
  intro G B σ env H I vs ds d Q S r h k
  obtain ⟨ns, rfl, rfl⟩ := fBools_eq h
  obtain ⟨a, ws, rfl, h1, h2⟩ := oneL r
  have := h2.bls
  subst this
  exact ⟨a, ns, rfl, sqL_fun (S.ih _ _ h1), k _ H I S (Ex.refl _) (.bl _)⟩
theorem cAll : CbOk (fun G => rAll G.K) (fBools fun bs => .bool (bs.all id)) := by
  intro G B σ env H I vs ds d Q S r h k
  obtain ⟨ns, rfl, rfl⟩ := fBools_eq h
  obtain ⟨a, ws, rfl, h1, h2⟩ := oneL r
  have := h2.bls
  subst this
  exact ⟨a, ns, rfl, sqL_fun (S.ih _ _ h1), k _ H I S (Ex.refl _) (.bl _)⟩
def CE.len := CE.cb _ fLen cLen
def CE.strI (A : CA) : CE where
  t := fun G W σ H Q => Dig G → tCB rStrI (A.t G W) σ H Q
  ev := fun env => (A.ev env).bind fun xs e1 => R.lift (fStrI xs) e1
  ok := fun S P _ => (CE.cb (fun _ => rStrI) fStrI cStrI A).ok S P
  pu := A.pu
  pok := (CE.cb (fun _ => rStrI) fStrI cStrI A).pok
def CE.intS := CE.cb _ fIntS cIntS
def CE.min2 := CE.cb _ fMin2 cMin2
def CE.max2 := CE.cb _ fMax2 cMax2
def CE.abs := CE.cb _ fAbs cAbs
def CE.sum := CE.cb _ _ cSum
def CE.maxL := CE.cb _ _ cMaxL
def CE.minL := CE.cb _ _ cMinL
def CE.any := CE.cb _ _ cAny
def CE.all := CE.cb _ _ cAll
/-- -x -/
def fNeg : D → Option D
  | .int i => some (.int (-i))
  | _ => none
def CE.neg (a : CE) : CE := CE.un (fun _ te => tUn (rU fun i => .int (-i)) te) (fun _ => rU fun i => .int (-i)) (fun _ _ _ _ _ h => h) fNeg (by
  intro G B σ env H I x d1 d Q S r h k
  cases r <;> cases h
  exact ⟨_, rfl, k _ H I S (Ex.refl _) (.int _)⟩) a

/-! isinstance -/
def tyName : D → Option String
  | .none => some "NoneType"
  | .bool _ => some "bool"
  | .int _ => some "int"
  | .str _ => some "str"
  | .list _ => some "list"
  | .tuple _ => some "tuple"
  | .dict _ => none
theorem tyName_rep {G : Gm} {I H : Hp} (e : Ex I H) {v : V} {d : D} {n : String} (r : Rep G I v d) (h : tyName d = some n) : TyX G.K H v (.type n) := by
  cases r with
  | non => cases h; exact .base .non
  | bl b => cases h; exact .base (.bl b)
  | int i => cases h; exact .base (.int i)
  | str x => cases h; exact .base (.str x)
  | lst h1 q1 => cases h; exact .base (.lst (e _ _ h1))
  | tup h1 q1 => cases h; exact .base (.tup (e _ _ h1))
  | exc h1 => cases h
  | obj => cases h
/-- isinstance(x, T), T a built-in type -/
def CE.isTy (T : String) (a : CE) : CE where
  t := fun G W => tCB (rIsi G.K) (tCons (a.t G W) (tCons (tC (.ty T)) tNil))
  ev := fun env => (a.ev env).bind fun x e1 => R.lift ((tyName x).bind fun n => (kitB n T).map .bool) e1
  ok := fun {G B σ env H I W Q} S P => a.ok S (Post.bind P fun x e1 v H1 I1 S1 ex1 r1 P1 => by
    cases q : tyName x with
    | none => rw [q] at P1; exact P1.elim
    | some n =>
      rw [q] at P1
      cases q2 : kitB n T with
      | none => simp only [Option.bind_some, q2] at P1; exact P1.elim
      | some b =>
        simp only [Option.bind_some, q2] at P1
        exact ⟨v, _, _, _, b, rfl, .ty T, tyName_rep S1.ih r1 q, kit_ty q2, P1 _ H1 I1 S1 (Ex.refl _) (.bl b)⟩)
  pu := a.pu
  pok := fun p env d env' h => by
    obtain ⟨x, e1, h1, h⟩ := R.bind_eq_ok h
    rw [(R.lift_eq_ok h).2, a.pok p _ _ _ h1]

/-! new lists -/
def rngListOk (a b : Int) : Bool := rngOk a && rngOk b && lk (decide ((b - a).toNat ≤ 100000))
theorem rgV_rep {G : Gm} {I : Hp} (a b : Int) : Reps G I (rgV a b) (rangeD a 1 (b - a).toNat) := by
  unfold rgV rangeD
  have : (fun (k : Nat) => PyData.int (a + (k : Int) * 1)) = fun (k : Nat) => PyData.int (a + (k : Int)) := by funext k; rw [Int.mul_one]
  rw [this]
  generalize List.range (b - a).toNat = l
  induction l with
  | nil => exact .nil
  | cons x l ih => exact .cons (.int _) ih
def CL.listRg2 (a b : CE) : CL where
  t := fun G W => tLstRg (tRg2 (a.t G W) (b.t G W))
  ev := fun env => (a.ev env).bind fun x e1 => (b.ev e1).bind fun y e2 => match x, y with
    | .int n, .int m => if rngListOk n m then .ok (rangeD n 1 (m - n).toNat) e2 else .bad
    | _, _ => .bad
  ok := fun {G B σ env H I W Q} S P => a.ok S (LPost.bind P fun x e1 v H1 I1 S1 ex1 r1 P1 => b.ok S1 (LPost.bind P1 fun y e2 w H2 I2 S2 ex2 r2 P2 => by
    cases r1 with
    | int n =>
      cases r2 with
      | int m =>
        have P2' : LPost G B σ W I2 Q (if rngListOk n m then .ok (rangeD n 1 (m - n).toNat) e2 else .bad) := P2
        split at P2'
        · rename_i h
          unfold rngListOk at h
          rw [Bool.and_eq_true, Bool.and_eq_true] at h
          obtain ⟨h1, h2⟩ := rngOk_of h.1.1
          obtain ⟨h3, h4⟩ := rngOk_of h.1.2
          have h5 := of_lk h.2
          exact ⟨n, m, rfl, rfl, ⟨h1, h2, h3, h4, by omega⟩, fun p hp => P2' p _ H2 I2 S2 (Ex.refl _) hp (rgV_rep n m)⟩
        · exact P2'.elim
      | _ => exact P2.elim
    | _ => cases r2 <;> exact P2.elim))
  pu := a.pu && b.pu
  pok := fun p env d env' h => by
    rw [Bool.and_eq_true] at p
    obtain ⟨x, e1, h1, h⟩ := R.bind_eq_ok h
    obtain ⟨y, e2, h2, h⟩ := R.bind_eq_ok h
    split at h
    · split at h
      · cases h; rw [b.pok p.2 _ _ _ h2, a.pok p.1 _ _ _ h1]
      · cases h
    · cases h
def rListOf (K : PySem.W.Frag) : List V → Hp → VK → Prop := fun xs H Q => ∃ p ys, xs = [.ref p] ∧ (SqL K H p ys ∨ SqT K H p ys) ∧ ∀ l, H l = none → Q (.ref l) (upd H l (.lst ys))
/-- list(xs) -/
def CL.copy (a : CE) : CL where
  t := fun G W => tCB (rListOf G.K) (tCons (a.t G W) tNil)
  ev := fun env => (a.ev env).bind fun x e1 => match x with
    | .list ds => .ok ds e1
    | _ => .bad
  ok := fun {G B σ env H I W Q} S P => a.ok S (LPost.bind P fun x e1 v H1 I1 S1 ex1 r1 P1 => by
    cases r1 with
    | lst h q => exact ⟨_, _, rfl, .inl (sqL_fun (S1.ih _ _ h)), fun p hp => P1 p _ H1 I1 S1 (Ex.refl _) hp q⟩
    | _ => exact P1.elim)
  pu := a.pu
  pok := fun p env d env' h => by
    obtain ⟨x, e1, h1, h⟩ := R.bind_eq_ok h
    split at h
    · cases h; exact a.pok p _ _ _ h1
    · cases h
def insI (n : Int) : List Int → List Int
  | [] => [n]
  | m :: r => if n ≤ m then n :: m :: r else m :: insI n r
def sortI : List Int → List Int
  | [] => []
  | n :: r => insI n (sortI r)
theorem insI_perm (n : Int) : ∀ l : List Int, (insI n l).Perm (n :: l)
  | [] => List.Perm.refl _
  | m :: r => by
    unfold insI
    split
    · exact List.Perm.refl _
    · exact ((insI_perm n r).cons m).trans (List.Perm.swap n m r)
theorem sortI_perm : ∀ l : List Int, (sortI l).Perm l
  | [] => List.Perm.refl _
  | n :: r => (insI_perm n (sortI r)).trans ((sortI_perm r).cons n)
theorem insI_sorted (n : Int) : ∀ {l : List Int}, l.Pairwise (· ≤ ·) → (insI n l).Pairwise (· ≤ ·)
  | [], _ => by simp [insI]
  | m :: r, h => by
    unfold insI
    rw [List.pairwise_cons] at h
    split
    · rename_i hle
      refine List.pairwise_cons.mpr ⟨fun x hx => ?_, List.pairwise_cons.mpr h⟩
      rcases List.mem_cons.mp hx with e | e
      · subst e; exact hle
      · exact Int.le_trans hle (h.1 x e)
    · rename_i hlt
      refine List.pairwise_cons.mpr ⟨fun x hx => ?_, insI_sorted n h.2⟩
      rcases List.mem_cons.mp ((insI_perm n r).mem_iff.mp hx) with e | e
      · subst e; omega
      · exact h.1 x e
theorem sortI_sorted : ∀ l : List Int, (sortI l).Pairwise (· ≤ ·)
  | [] => List.Pairwise.nil
  | n :: r => insI_sorted n (sortI_sorted r)
theorem sorted_unique {l l' : List Int} (p : l.Perm l') (h : l.Pairwise (· ≤ ·)) (h' : l'.Pairwise (· ≤ ·)) : l = l' :=
  p.eq_of_pairwise (fun a b _ _ x y => Int.le_antisymm x y) h h'
/-- sorted(xs), ints -/
def CL.sorted (a : CE) : CL where
  t := fun G W => tCB (rSortedI G.K) (tCons (a.t G W) tNil)
  ev := fun env => (a.ev env).bind fun x e1 => match x with
    | .list ds => R.lift ((intsD ds).map fun ns => (sortI ns).map .int) e1
    | _ => .bad
  ok := fun {G B σ env H I W Q} S P => a.ok S (LPost.bind P fun x e1 v H1 I1 S1 ex1 r1 P1 => by
    cases r1 with
    | @lst ad ws es h q =>
      have P1' : LPost G B σ W I1 Q (R.lift ((intsD es).map fun ns => (sortI ns).map .int) e1) := P1
      cases qi : intsD es with
      | none => rw [qi] at P1'; exact P1'.elim
      | some ns =>
        rw [qi] at P1'
        have := intsD_eq qi
        subst this
        have := q.ints
        subst this
        refine ⟨_, ns, rfl, sqL_fun (S1.ih _ _ h), fun ns' p hperm hsort hp => ?_⟩
        have e : ns' = sortI ns := sorted_unique (hperm.trans (sortI_perm ns).symm) hsort (sortI_sorted ns)
        subst e
        exact P1' p _ H1 I1 S1 (Ex.refl _) hp (Reps.ofInts _)
    | _ => exact P1.elim)
  pu := a.pu
  pok := fun p env d env' h => by
    obtain ⟨x, e1, h1, h⟩ := R.bind_eq_ok h
    split at h
    · rw [(R.lift_eq_ok h).2]; exact a.pok p _ _ _ h1
    · cases h

/-! ### slices -/
structure CO where
  t : Gm → WX → TO
  ev : Env → R (Option Int)
  ok : ∀ {G : Gm} {B : Bs} {σ : L2.St} {env : Env} {H I : Hp} {W : WX} {Q : Option Int → Hp → Prop}, Sim G B σ env H I → Post G B σ W (fun _ (b c : Option Int) => b = c) I Q (ev env) → t G W σ H Q
  pu : Bool
  pok : pu = true → ∀ env d env', ev env = .ok d env' → env' = env
def CO.none : CO where
  t := fun _ _ => tNoPart
  ev := fun env => .ok Option.none env
  ok := fun {G B σ env H I W Q} S P => P _ H I S (Ex.refl _) rfl
  pu := true
  pok := fun p env d env' h => by cases h; rfl
def CO.some (a : CE) : CO where
  t := fun G W => tPart (a.t G W)
  ev := fun env => (a.ev env).bind fun x e1 => match x with
    | .int i => .ok (Option.some i) e1
    | _ => .bad
  ok := fun {G B σ env H I W Q} S P => a.ok S (Post.bind P fun x e1 v H1 I1 S1 ex1 r1 P1 => by
    cases r1 with
    | int i => exact ⟨i, rfl, P1 _ H1 I1 S1 (Ex.refl _) rfl⟩
    | _ => exact P1.elim)
  pu := a.pu
  pok := fun p env d env' h => by
    obtain ⟨x, e1, h1, h⟩ := R.bind_eq_ok h
    split at h
    · cases h; exact a.pok p _ _ _ h1
    · cases h
def cutD {α : Type} (xs : List α) (lo hi : Option Int) : List α := (xs.drop (HT.sIx xs.length 0 lo)).take (HT.sIx xs.length xs.length hi - HT.sIx xs.length 0 lo)
theorem cut_rep {G : Gm} {I : Hp} {vs : List V} {ds : List D} (r : Reps G I vs ds) (lo hi : Option Int) : Reps G I (cutV vs lo hi) (cutD ds lo hi) := by
  unfold cutV cutD
  rw [r.length]
  exact (r.drop _).take _
/-- xs[lo:hi] -/
def CL.slice (a : CE) (lo hi : CO) : CL where
  t := fun G W => tSl (rSlL G.K) (a.t G W) (lo.t G W) (hi.t G W)
  ev := fun env => (a.ev env).bind fun x e1 => (lo.ev e1).bind fun l e2 => (hi.ev e2).bind fun u e3 => match x with
    | .list ds => .ok (cutD ds l u) e3
    | _ => .bad
  ok := fun {G B σ env H I W Q} S P => a.ok S (LPost.bind P fun x e1 v H1 I1 S1 ex1 r1 P1 => lo.ok S1 (LPost.bind P1 fun l e2 l' H2 I2 S2 ex2 r2 P2 => hi.ok S2 (LPost.bind P2 fun u e3 u' H3 I3 S3 ex3 r3 P3 => by
    subst r2 r3
    cases r1 with
    | lst h q => exact ⟨_, _, rfl, sqL_fun (S3.ih _ _ (ex3 _ _ (ex2 _ _ h))), fun p hp => P3 p _ H3 I3 S3 (Ex.refl _) hp (cut_rep ((q.mono ex2).mono ex3) _ _)⟩
    | _ => exact P3.elim)))
  pu := a.pu && lo.pu && hi.pu
  pok := fun p env d env' h => by
    rw [Bool.and_eq_true, Bool.and_eq_true] at p
    obtain ⟨x, e1, h1, h⟩ := R.bind_eq_ok h
    obtain ⟨y, e2, h2, h⟩ := R.bind_eq_ok h
    obtain ⟨z, e3, h3, h⟩ := R.bind_eq_ok h
    split at h
    · cases h; rw [hi.pok p.2 _ _ _ h3, lo.pok p.1.2 _ _ _ h2, a.pok p.1.1 _ _ _ h1]
    · cases h
/-- s[lo:hi], a text -/
def CE.sliceS (a : CE) (lo hi : CO) : CE where
  t := fun G W => tSl rSlS (a.t G W) (lo.t G W) (hi.t G W)
  ev := fun env => (a.ev env).bind fun x e1 => (lo.ev e1).bind fun l e2 => (hi.ev e2).bind fun u e3 => match x with
    | .str z => if lineOk z.length then .ok (.str (cutS z l u)) e3 else .bad
    | _ => .bad
  ok := fun {G B σ env H I W Q} S P => a.ok S (Post.bind P fun x e1 v H1 I1 S1 ex1 r1 P1 => lo.ok S1 (Post.bind P1 fun l e2 l' H2 I2 S2 ex2 r2 P2 => hi.ok S2 (Post.bind P2 fun u e3 u' H3 I3 S3 ex3 r3 P3 => by
    subst r2 r3
    cases r1 with
    | str z =>
      have P3' : Post G B σ W (Rep G) I3 Q (if lineOk z.length then .ok (.str (cutS z l' u')) e3 else .bad) := P3
      split at P3'
      · rename_i c
        exact ⟨z, rfl, lineOk_le c, P3' _ H3 I3 S3 (Ex.refl _) (.str _)⟩
      · exact P3'.elim
    | _ => exact P3.elim)))
  pu := a.pu && lo.pu && hi.pu
  pok := fun p env d env' h => by
    rw [Bool.and_eq_true, Bool.and_eq_true] at p
    obtain ⟨x, e1, h1, h⟩ := R.bind_eq_ok h
    obtain ⟨y, e2, h2, h⟩ := R.bind_eq_ok h
    obtain ⟨z, e3, h3, h⟩ := R.bind_eq_ok h
    split at h
    · split at h
      · cases h; rw [hi.pok p.2 _ _ _ h3, lo.pok p.1.2 _ _ _ h2, a.pok p.1.1 _ _ _ h1]
      · cases h
    · cases h
/-- xs[::-1] -/
def CL.rev (a : CE) : CL where
  t := fun G W => tRevL G.K (a.t G W)
  ev := fun env => (a.ev env).bind fun x e1 => match x with
    | .list ds => .ok ds.reverse e1
    | _ => .bad
  ok := fun {G B σ env H I W Q} S P => a.ok S (LPost.bind P fun x e1 v H1 I1 S1 ex1 r1 P1 => by
    cases r1 with
    | lst h q => exact ⟨_, _, rfl, sqL_fun (S1.ih _ _ h), fun p hp => P1 p _ H1 I1 S1 (Ex.refl _) hp q.rev⟩
    | _ => exact P1.elim)
  pu := a.pu
  pok := fun p env d env' h => by
    obtain ⟨x, e1, h1, h⟩ := R.bind_eq_ok h
    split at h
    · cases h; exact a.pok p _ _ _ h1
    · cases h

/-! ### methods of built-in objects -/
/-- xs.index(y): the first place -/
def indexD (y : D) : List D → Option Nat
  | [] => none
  | d :: ds => if PyData.eqv d y then some 0 else (indexD y ds).map (· + 1)
theorem indexD_is {y : D} : ∀ {ds : List D} {j : Nat}, indexD y ds = some j → (∃ z, ds[j]? = some z ∧ PyData.eqv z y = true) ∧ ∀ m z, m < j → ds[m]? = some z → PyData.eqv z y = false
  | [], _, h => by cases h
  | d :: ds, j, h => by
    unfold indexD at h
    split at h
    · rename_i e; cases h; exact ⟨⟨d, rfl, e⟩, fun m z hm => absurd hm (Nat.not_lt_zero _)⟩
    · rename_i e
      cases q : indexD y ds with
      | none => rw [q] at h; cases h
      | some k =>
        rw [q] at h
        cases h
        obtain ⟨⟨z, h1, h2⟩, h3⟩ := indexD_is q
        refine ⟨⟨z, by simpa using h1, h2⟩, fun m z' hm hz => ?_⟩
        cases m with
        | zero => simp at hz; subst hz; simpa using e
        | succ m => exact h3 m z' (Nat.lt_of_succ_lt_succ hm) (by simpa using hz)
def CE.index (a b : CE) : CE where
  t := fun G W => tBM G.K "list" (rIndex G.K) (a.t G W) (tCons (b.t G W) tNil)
  ev := fun env => (a.ev env).bind fun x e1 => match x with
    | .list ds => (b.ev e1).bind fun y e2 => if flatD y && ds.all flatD then R.lift ((indexD y ds).map fun j => .int (j : Nat)) e2 else .bad
    | _ => .bad
  ok := fun {G B σ env H I W Q} S P => a.ok S (Post.bind P fun x e1 v H1 I1 S1 ex1 r1 P1 => by
    cases r1 with
    | @lst ad ws es h q =>
      refine ⟨.inl ⟨rfl, ws, sqL_fun (S1.ih _ _ h)⟩, b.ok S1 (Post.bind P1 fun y e2 w H2 I2 S2 ex2 r2 P2 => ?_)⟩
      have P2' : Post G B σ W (Rep G) I2 Q (if flatD y && es.all flatD then R.lift ((indexD y es).map fun j => .int (j : Nat)) e2 else .bad) := P2
      split at P2'
      · rename_i c
        rw [Bool.and_eq_true] at c
        cases qi : indexD y es with
        | none => rw [qi] at P2'; exact P2'.elim
        | some j =>
          rw [qi] at P2'
          obtain ⟨⟨z, h1, h2⟩, h3⟩ := indexD_is qi
          have q2 := q.mono ex2
          obtain ⟨zv, h4, h5⟩ := q2.get h1
          refine ⟨ad, ws, w, j, zv, rfl, rfl, sqL_fun (S2.ih _ _ (ex2 _ _ h)), flat_rep r2 c.1, flat_reps q2 c.2, h4, by rw [eqV_rep h5 r2 (List.all_eq_true.mp c.2 z (List.mem_of_getElem? h1)) c.1]; exact h2, fun m z' hm hz => ?_, P2' _ H2 I2 S2 (Ex.refl _) (.int _)⟩
          have hm2 : m < es.length := Nat.lt_trans hm (List.getElem?_eq_some_iff.mp h1).1
          obtain ⟨zv2, h6, h7⟩ := q2.get (List.getElem?_eq_getElem hm2)
          rw [hz] at h6
          cases h6
          rw [eqV_rep h7 r2 (List.all_eq_true.mp c.2 _ (List.getElem_mem hm2)) c.1]
          exact h3 m _ hm (List.getElem?_eq_getElem hm2)
      · exact P2'.elim
    | _ => exact P1.elim)
  pu := a.pu && b.pu
  pok := fun p env d env' h => by
    rw [Bool.and_eq_true] at p
    obtain ⟨x, e1, h1, h⟩ := R.bind_eq_ok h
    split at h
    · obtain ⟨y, e2, h2, h⟩ := R.bind_eq_ok h
      split at h
      · rw [(R.lift_eq_ok h).2, b.pok p.2 _ _ _ h2, a.pok p.1 _ _ _ h1]
      · cases h
    · cases h
/-- xs.count(y), ints -/
def CE.countI (a b : CE) : CE where
  t := fun G W => tBM G.K "list" (rCntI G.K) (a.t G W) (tCons (b.t G W) tNil)
  ev := fun env => (a.ev env).bind fun x e1 => match x with
    | .list ds => (b.ev e1).bind fun y e2 => match y with
      | .int k => R.lift ((intsD ds).map fun ns => .int (ns.count k : Nat)) e2
      | _ => .bad
    | _ => .bad
  ok := fun {G B σ env H I W Q} S P => a.ok S (Post.bind P fun x e1 v H1 I1 S1 ex1 r1 P1 => by
    cases r1 with
    | @lst ad ws es h q =>
      refine ⟨.inl ⟨rfl, ws, sqL_fun (S1.ih _ _ h)⟩, b.ok S1 (Post.bind P1 fun y e2 w H2 I2 S2 ex2 r2 P2 => ?_)⟩
      cases r2 with
      | int k =>
        have P2' : Post G B σ W (Rep G) I2 Q (R.lift ((intsD es).map fun ns => .int (ns.count k : Nat)) e2) := P2
        cases qi : intsD es with
        | none => rw [qi] at P2'; exact P2'.elim
        | some ns =>
          rw [qi] at P2'
          have := intsD_eq qi
          subst this
          have := q.ints
          subst this
          exact ⟨ad, ns, k, rfl, rfl, sqL_fun (S2.ih _ _ (ex2 _ _ h)), P2' _ H2 I2 S2 (Ex.refl _) (.int _)⟩
      | _ => exact P2.elim
    | _ => exact P1.elim)
  pu := a.pu && b.pu
  pok := fun p env d env' h => by
    rw [Bool.and_eq_true] at p
    obtain ⟨x, e1, h1, h⟩ := R.bind_eq_ok h
    split at h
    · obtain ⟨y, e2, h2, h⟩ := R.bind_eq_ok h
      split at h
      · rw [(R.lift_eq_ok h).2, b.pok p.2 _ _ _ h2, a.pok p.1 _ _ _ h1]
      · cases h
    · cases h

/-! texts -/
/-- a method of a text with one argument -/
def CE.strM (r : Gm → V → List V → Hp → VK → Prop) (f : Str → D → Option D)
    (h : ∀ {G : Gm} {B : Bs} {σ : L2.St} {env : Env} {H I : Hp} {x : Str} {y : V} {d2 d : D} {Q : VK}, Sim G B σ env H I → Rep G I y d2 → f x d2 = some d → (∀ v H' I', Sim G B σ env H' I' → Ex I I' → Rep G I' v d → Q v H') → r G (.str x) [y] H Q) (a b : CE) : CE where
  t := fun G W => tM1 (r G) (a.t G W) (b.t G W)
  ev := fun env => (a.ev env).bind fun x e1 => match x with
    | .str z => (b.ev e1).bind fun y e2 => R.lift (f z y) e2
    | _ => .bad
  ok := fun {G B σ env H I W Q} S P => a.ok S (Post.bind P fun x e1 v H1 I1 S1 ex1 r1 P1 => by
    cases r1 with
    | str z =>
      refine ⟨⟨z, rfl⟩, b.ok S1 (Post.bind P1 fun y e2 w H2 I2 S2 ex2 r2 P2 => ?_)⟩
      cases q : f z y with
      | none => rw [q] at P2; exact P2.elim
      | some d => rw [q] at P2; exact h S2 r2 q P2
    | _ => exact P1.elim)
  pu := a.pu && b.pu
  pok := fun p env d env' h => by
    rw [Bool.and_eq_true] at p
    obtain ⟨x, e1, h1, h⟩ := R.bind_eq_ok h
    split at h
    · obtain ⟨y, e2, h2, h⟩ := R.bind_eq_ok h
      rw [(R.lift_eq_ok h).2, b.pok p.2 _ _ _ h2, a.pok p.1 _ _ _ h1]
    · cases h
def rSplit : V → List V → Hp → VK → Prop := fun x xs H Q => ∃ a b, x = .str a ∧ xs = [.str b] ∧ (b.length == 0) = false ∧ a.length + 2 ≤ sizeLine ∧ rNewStrs (Txt.split a b) H Q
def fSplit (x : Str) : D → Option D
  | .str b => if (b.length != 0) && lineOk (x.length + 2) then some (.list ((Txt.split x b).map .str)) else none
  | _ => none
def CE.split (a b : CE) : CE := CE.strM (fun _ => rSplit) fSplit (by
  intro G B σ env H I x y d2 d Q S r h k
  cases r <;> first | (cases h; done) | skip
  simp only [fSplit] at h
  split at h
  · rename_i c
    cases h
    rw [Bool.and_eq_true] at c
    refine ⟨x, _, rfl, rfl, by simpa using c.1, lineOk_le c.2, fun p hp => ?_⟩
    obtain ⟨S2, e2⟩ := S.alloc (o := .lst ((Txt.split x _).map V.str)) hp
    exact k _ _ _ S2 e2 (.lst upd_same (Reps.ofStrs _))
  · cases h) a b
def rPartition : V → List V → Hp → VK → Prop := fun x xs H Q => ∃ a b, x = .str a ∧ xs = [.str b] ∧ (b.length == 0) = false ∧ a.length ≤ sizeLine ∧
    ∀ p, H p = none → Q (.ref p) (upd H p (.tup [.str (Txt.partition a b).1, .str (Txt.partition a b).2.1, .str (Txt.partition a b).2.2]))
def fPartition (x : Str) : D → Option D
  | .str b => if (b.length != 0) && lineOk x.length then some (.tuple [.str (Txt.partition x b).1, .str (Txt.partition x b).2.1, .str (Txt.partition x b).2.2]) else none
  | _ => none
def CE.partition (a b : CE) : CE := CE.strM (fun _ => rPartition) fPartition (by
  intro G B σ env H I x y d2 d Q S r h k
  cases r <;> first | (cases h; done) | skip
  simp only [fPartition] at h
  split at h
  · rename_i c
    cases h
    rw [Bool.and_eq_true] at c
    refine ⟨x, _, rfl, rfl, by simpa using c.1, lineOk_le c.2, fun p hp => ?_⟩
    obtain ⟨S2, e2⟩ := S.alloc (o := .tup [.str (Txt.partition x _).1, .str (Txt.partition x _).2.1, .str (Txt.partition x _).2.2]) hp
    exact k _ _ _ S2 e2 (.tup upd_same (.cons (.str _) (.cons (.str _) (.cons (.str _) .nil))))
  · cases h) a b
def rJoin (K : PySem.W.Frag) : V → List V → Hp → VK → Prop := fun x xs H Q => ∃ a p, ∃ ys : List Str, x = .str a ∧ xs = [.ref p] ∧ (SqL K H p (ys.map V.str) ∨ SqT K H p (ys.map V.str)) ∧
    (ys.map (·.length)).sum + ys.length * a.length ≤ 16777216 ∧ Q (.str (Txt.join a ys)) H
def strsD : List D → Option (List Str)
  | [] => some []
  | .str i :: r => (strsD r).map fun ns => i :: ns
  | _ => none
theorem strsD_eq : ∀ {ds : List D} {ns : List Str}, strsD ds = some ns → ds = ns.map .str
  | [], ns, h => by cases h; rfl
  | .str i :: r, ns, h => by
    unfold strsD at h
    cases q : strsD r with
    | none => rw [q] at h; cases h
    | some ms => rw [q] at h; cases h; rw [strsD_eq q]; rfl
  | .none :: _, _, h => by simp [strsD] at h
  | .bool _ :: _, _, h => by simp [strsD] at h
  | .int _ :: _, _, h => by simp [strsD] at h
  | .list _ :: _, _, h => by simp [strsD] at h
  | .tuple _ :: _, _, h => by simp [strsD] at h
  | .dict _ :: _, _, h => by simp [strsD] at h
@[simp] theorem strsD_map (ns : List Str) : strsD (ns.map .str) = some ns := by
  induction ns with
  | nil => rfl
  | cons n ns ih => simp [strsD, ih]
def fJoin (x : Str) : D → Option D
  | .list ds => (strsD ds).bind fun ys => if decide ((ys.map (·.length)).sum + ys.length * x.length ≤ 16777216) then some (.str (Txt.join x ys)) else none
  | _ => none
def CE.join (a b : CE) : CE := CE.strM (fun G => rJoin G.K) fJoin (by
  intro G B σ env H I x y d2 d Q S r h k
  cases r with
  | @lst ad ws es h1 q =>
    simp only [fJoin] at h
    cases qi : strsD es with
    | none => rw [qi] at h; cases h
    | some ys =>
      rw [qi] at h
      have := strsD_eq qi
      subst this
      have := q.strs
      subst this
      simp only [Option.bind_some] at h
      split at h
      · rename_i c
        cases h
        exact ⟨x, ad, ys, rfl, rfl, .inl (sqL_fun (S.ih _ _ h1)), of_decide_eq_true c, k _ H I S (Ex.refl _) (.str _)⟩
      · cases h
  | _ => cases h) a b
def rCountS : V → List V → Hp → VK → Prop := fun x xs H Q => ∃ a b, x = .str a ∧ xs = [.str b] ∧ Q (.int (Txt.count a b)) H
def fCountS (x : Str) : D → Option D
  | .str b => some (.int (Txt.count x b))
  | _ => none
def CE.countS (a b : CE) : CE := CE.strM (fun _ => rCountS) fCountS (by
  intro G B σ env H I x y d2 d Q S r h k
  cases r <;> first | (cases h; done) | skip
  cases h
  exact ⟨x, _, rfl, rfl, k _ H I S (Ex.refl _) (.int _)⟩) a b
/-- f'{a}text{b}' -/
def fFmt : D → Option Str
  | .int i => if lk (decide (i.natAbs < BIGF)) then some (txtOf i) else none
  | .str y => if lineOk y.length then some y else none
  | _ => none
def CE.fmt (a : CE) : CE := CE.un (fun _ => tFmt) (fun _ x H Q => (∃ y : Str, x = .str y ∧ y.length ≤ sizeLine ∧ Q (.str y) H) ∨ ∃ i : Int, x = .int i ∧ i.natAbs.log2 < 1920 ∧ Q (.str (toString i)) H) (fun _ _ _ _ _ h => h) (fun d => (fFmt d).map .str) (by
  intro G B σ env H I x d1 d Q S r h k
  cases r with
  | int i =>
    simp only [fFmt] at h
    split at h
    · rename_i c
      cases h
      exact .inr ⟨i, rfl, log2_bigs (of_lk c), k _ H I S (Ex.refl _) (.str _)⟩
    · cases h
  | str y =>
    simp only [fFmt] at h
    split at h
    · rename_i c
      cases h
      exact .inl ⟨y, rfl, lineOk_le c, k _ H I S (Ex.refl _) (.str _)⟩
    · cases h
  | _ => cases h) a
/-- three parts -/
def CE.js3 (a b c : CE) : CE where
  t := fun G W => fun σ H Q => tJs [a.t G W, b.t G W, c.t G W] Str.empty σ H fun out H1 => Q (.str out) H1
  ev := fun env => (a.ev env).bind fun x e1 => match x with
    | .str p => if lineOk (Str.empty ++ p).length then (b.ev e1).bind fun y e2 => match y with
      | .str q => if lineOk (Str.empty ++ p ++ q).length then (c.ev e2).bind fun z e3 => match z with
        | .str r => if lineOk (Str.empty ++ p ++ q ++ r).length then .ok (.str (Str.empty ++ p ++ q ++ r)) e3 else .bad
        | _ => .bad
        else .bad
      | _ => .bad
      else .bad
    | _ => .bad
  ok := fun {G B σ env H I W Q} S P => a.ok S (Post.bind P fun x e1 v H1 I1 S1 ex1 r1 P1 => by
    cases r1 with
    | str p =>
      simp only at P1
      split at P1
      · rename_i c1
        refine ⟨p, rfl, lineOk_le c1, b.ok S1 (Post.bind P1 fun y e2 w H2 I2 S2 ex2 r2 P2 => ?_)⟩
        cases r2 with
        | str q =>
          simp only at P2
          split at P2
          · rename_i c2
            refine ⟨q, rfl, lineOk_le c2, c.ok S2 (Post.bind P2 fun z e3 u H3 I3 S3 ex3 r3 P3 => ?_)⟩
            cases r3 with
            | str r =>
              simp only at P3
              split at P3
              · rename_i c3
                exact ⟨r, rfl, lineOk_le c3, P3 _ H3 I3 S3 (Ex.refl _) (.str _)⟩
              · exact P3.elim
            | _ => exact P3.elim
          · exact P2.elim
        | _ => exact P2.elim
      · exact P1.elim
    | _ => exact P1.elim)
  pu := false
  pok := fun p => by cases p
end FD
set_option Elab.async false
set_option linter.all false
set_option maxRecDepth 100000
set_option maxHeartbeats 4000000
noncomputable section
namespace FD
open PySem L2

/-! ### judgements: a piece of the text does what a combinator says -/
structure Ok (X : Cx) (G : Gm) (W : WX) : Prop where
  hK : X.K = G.K
  tk : Takes X W
  calm : X.calm = true
  hu : X.A.units + 64 < cLine
  nd : X.N.Nodup
theorem Ok.blk {X : Cx} {G : Gm} {W : WX} (o : Ok X G W) {s : Shared} {H : Hp} {scope : Scope} {cenv : Env} {fp : List Addr} : True := trivial
theorem Ok.inBlk {X : Cx} {G : Gm} {W : WX} (o : Ok X G W) (s : Shared) (H : Hp) (scope : Scope) (cenv : PySem.Env) (fp : List Addr) : Ok (X.blk s H scope cenv fp) G W0 := ⟨o.hK, takes0, o.calm, o.hu, o.nd⟩

/-- a def that callers may call: where it stands, what it promises -/
structure Callee (P : Program) (w : World) (K : PySem.W.Frag) (mg : Str → Option Value) (base : Heap) (x : Str) (k : Nat) (sp : Sp) : Prop where
  ex : ∃ (f : Addr) (fd : FuncData) (ps : List Str), FnOk P w K mg base (L2.CX P w) k f fd ps sp ∧ mg x = some (.ref f) ∧ PySem.W.keepIn K (.ref f) = true ∧ Binds K fd ps []

section
variable {X : Cx} {G : Gm} {W : WX} {a b c e : Expr} {es : List Expr} {ca cb cc : CE} {ta tb tc : CT} {A : CA} {pos : Pos}
theorem j_var {i : Nat} {x : Str} (hN : X.N[i]? = some x := by rfl) (hv : Vis X.env.scope x := by first | exact Or.inl rfl | exact Or.inr (Or.inl rfl) | exact Or.inr (Or.inr rfl)) (hd : (x == ("__debug__" : Str)) = false := by decide)
    (hcd : (x == ("__classdict__" : Str)) = false := by decide) : PE X (.Name x pos) ((CE.var i).t G W) := pe_var hN hv hd hcd
theorem j_int {i : Int} {j} : PE X (.Constant (.int i) j pos) ((CE.int i).t G W) := pe_int
theorem j_bl {i : Bool} {j} : PE X (.Constant (.bool i) j pos) ((CE.bl i).t G W) := pe_bl
theorem j_non {j} : PE X (.Constant .none j pos) (CE.non.t G W) := pe_non
theorem j_str {x : Str} {j} : PE X (.Constant (.str x) j pos) ((CE.str x).t G W) := pe_str
theorem j_globI {x : Str} {i : Int} (hm : ∃ t, X.mg x = some (.int i t)) (hg : Gl X x := by rfl) (hd : (x == ("__debug__" : Str)) = false := by decide) : PE X (.Name x pos) ((CE.int i).t G W) := by
  obtain ⟨t, hm⟩ := hm
  exact pe_glob (v := .int i) hg hm ⟨t, rfl⟩ hd
theorem j_globS {x : Str} {y : Str} (hm : ∃ t, X.mg x = some (.str y t)) (hg : Gl X x := by rfl) (hd : (x == ("__debug__" : Str)) = false := by decide) : PE X (.Name x pos) ((CE.str y).t G W) := by
  obtain ⟨t, hm⟩ := hm
  exact pe_glob (v := .str y) hg hm ⟨t, rfl⟩ hd
theorem j_add (ha : PE X a (ca.t G W)) (hb : PE X b (cb.t G W)) : PE X (.BinOp a .Add b pos) ((CE.add ca cb).t G W) := pe_op op_add ha hb
theorem j_sub (ha : PE X a (ca.t G W)) (hb : PE X b (cb.t G W)) : PE X (.BinOp a .Sub b pos) ((CE.sub ca cb).t G W) := pe_op op_sub ha hb
theorem j_mul (ha : PE X a (ca.t G W)) (hb : PE X b (cb.t G W)) : PE X (.BinOp a .Mult b pos) ((CE.mul ca cb).t G W) := pe_op op_mulW ha hb
theorem j_div (ha : PE X a (ca.t G W)) (hb : PE X b (cb.t G W)) : PE X (.BinOp a .FloorDiv b pos) ((CE.div ca cb).t G W) := pe_op op_fdivW ha hb
theorem j_mod (ha : PE X a (ca.t G W)) (hb : PE X b (cb.t G W)) : PE X (.BinOp a .Mod b pos) ((CE.mod ca cb).t G W) := pe_op op_modN ha hb
theorem j_pow (ha : PE X a (ca.t G W)) (hb : PE X b (cb.t G W)) : PE X (.BinOp a .Pow b pos) ((CE.pow ca cb).t G W) := pe_op op_pow ha hb
theorem j_addS (ha : PE X a (ca.t G W)) (hb : PE X b (cb.t G W)) : PE X (.BinOp a .Add b pos) ((CE.addS ca cb).t G W) := pe_op op_add_str ha hb
theorem j_cat (ha : PE X a (ca.t G W)) (hb : PE X b (cb.t G W)) : PE X (.BinOp a .Add b pos) ((CE.cat ca cb).t G W) := pe_op op_cat ha hb
theorem j_rep (ha : PE X a (ca.t G W)) (hb : PE X b (cb.t G W)) : PE X (.BinOp a .Mult b pos) ((CE.rep ca cb).t G W) := pe_op op_rep ha hb
theorem j_repL (ha : PE X a (ca.t G W)) (hb : PE X b (cb.t G W)) : PE X (.BinOp a .Mult b pos) ((CL.rep ca cb).t G W) := pe_op op_rep ha hb
theorem j_neg (ha : PE X a (ca.t G W)) : PE X (.UnaryOp .USub a pos) ((CE.neg ca).t G W) := by
  show PE X _ (tUn (rU fun i => .int (-i)) (ca.t G W))
  exact pe_un un_neg ha
theorem j_lt (ha : PE X a (ca.t G W)) (hb : PE X b (cb.t G W)) : PE X (.Compare a [.Lt] [b] pos) ((CE.lt ca cb).t G W) := pe_cmpR op_lt ha hb (nomark _)
theorem j_le (ha : PE X a (ca.t G W)) (hb : PE X b (cb.t G W)) : PE X (.Compare a [.LtE] [b] pos) ((CE.le ca cb).t G W) := pe_cmpR op_le ha hb (nomark _)
theorem j_gt (ha : PE X a (ca.t G W)) (hb : PE X b (cb.t G W)) : PE X (.Compare a [.Gt] [b] pos) ((CE.gt ca cb).t G W) := pe_cmpR op_gt ha hb (nomark _)
theorem j_ge (ha : PE X a (ca.t G W)) (hb : PE X b (cb.t G W)) : PE X (.Compare a [.GtE] [b] pos) ((CE.ge ca cb).t G W) := pe_cmpR op_ge ha hb (nomark _)
theorem k_eq (o : Ok X G W) : OpR X (compareOp .Eq) (rEqD G.K) := by rw [← o.hK]; exact op_eqD o.hu
theorem k_ne (o : Ok X G W) : OpR X (compareOp .NotEq) (rNeD G.K) := by rw [← o.hK]; exact op_neD o.hu
theorem k_in (o : Ok X G W) : OpR X (compareOp .In) (rIn G.K false) := by rw [← o.hK]; exact op_in_seq
theorem k_nin (o : Ok X G W) : OpR X (compareOp .NotIn) (rIn G.K true) := by rw [← o.hK]; exact op_notIn_seq
theorem j_eq (o : Ok X G W) (ha : PE X a (ca.t G W)) (hb : PE X b (cb.t G W)) : PE X (.Compare a [.Eq] [b] pos) ((CE.eq ca cb).t G W) := pe_cmpR (k_eq o) ha hb (nomark _)
theorem j_ne (o : Ok X G W) (ha : PE X a (ca.t G W)) (hb : PE X b (cb.t G W)) : PE X (.Compare a [.NotEq] [b] pos) ((CE.ne ca cb).t G W) := pe_cmpR (k_ne o) ha hb (nomark _)
theorem j_isB (ha : PE X a (ca.t G W)) (hb : PE X b (cb.t G W)) : PE X (.Compare a [.Is] [b] pos) ((CE.isB ca cb).t G W) := pe_cmpR op_isBl ha hb (nomark _)
theorem j_notB (ha : PE X a (ca.t G W)) (hb : PE X b (cb.t G W)) : PE X (.Compare a [.IsNot] [b] pos) ((CE.notB ca cb).t G W) := pe_cmpR op_notBl ha hb (nomark _)
theorem j_isN (ha : PE X a (ca.t G W)) (hb : PE X b (cb.t G W)) : PE X (.Compare a [.Is] [b] pos) ((CE.isN ca cb).t G W) := pe_cmpR op_isN ha hb (nomark _)
theorem j_notN (ha : PE X a (ca.t G W)) (hb : PE X b (cb.t G W)) : PE X (.Compare a [.IsNot] [b] pos) ((CE.notN ca cb).t G W) := pe_cmpR op_notN ha hb (nomark _)
theorem j_in (o : Ok X G W) (ha : PE X a (ca.t G W)) (hb : PE X b (cb.t G W)) (hm : behindInMarks .In b = false := by rfl) : PE X (.Compare a [.In] [b] pos) ((CE.isIn ca cb).t G W) := pe_cmpR (k_in o) ha hb hm
theorem j_nin (o : Ok X G W) (ha : PE X a (ca.t G W)) (hb : PE X b (cb.t G W)) (hm : behindInMarks .NotIn b = false := by rfl) : PE X (.Compare a [.NotIn] [b] pos) ((CE.notIn ca cb).t G W) := pe_cmpR (k_nin o) ha hb hm
theorem j_inS (ha : PE X a (ca.t G W)) (hb : PE X b (cb.t G W)) (hm : behindInMarks .In b = false := by rfl) : PE X (.Compare a [.In] [b] pos) ((CE.inS ca cb).t G W) := pe_cmpR op_in_sign ha hb hm
theorem j_ownNe (o : Ok X G W) {i : Nat} (ha : PE X a ((CE.var i).t G W)) (hb : PE X b (cb.t G W)) : PE X (.Compare a [.NotEq] [b] pos) ((CE.ownNe i cb).t G W) := pe_cmpR (k_ne o) ha hb (nomark _)
theorem k_ix (o : Ok X G W) : IxR X (rIx G.K) := by rw [← o.hK]; exact ix_seq
theorem j_ix (o : Ok X G W) (ha : PE X a (ca.t G W)) (hb : PE X b (cb.t G W)) (hs : PlainIx b := by intro _ _; rfl) : PE X (.Subscript a b pos) ((CE.ix ca cb).t G W) := pe_ix (k_ix o) ha hb hs
theorem j_ownIx (o : Ok X G W) {i : Nat} (ha : PE X a ((CE.var i).t G W)) (hb : PE X b (cb.t G W)) (hs : PlainIx b := by intro _ _; rfl) : PE X (.Subscript a b pos) ((CE.ownIx i cb).t G W) := pe_ix (k_ix o) ha hb hs
theorem j_andV (ha : PE X a (ca.t G W)) (hb : PE X (.BoolOp .And (b :: es) pos) (cb.t G W)) : PE X (.BoolOp .And (a :: b :: es) pos) ((CE.andV ca cb).t G W) := pe_and ha hb
theorem j_orV (ha : PE X a (ca.t G W)) (hb : PE X (.BoolOp .Or (b :: es) pos) (cb.t G W)) : PE X (.BoolOp .Or (a :: b :: es) pos) ((CE.orV ca cb).t G W) := pe_or ha hb
theorem j_one {op} (ha : PE X a (ca.t G W)) : PE X (.BoolOp op [a] pos) (ca.t G W) := pe_one ha
theorem j_notV (ha : PE X a (ca.t G W)) : PE X (.UnaryOp .Not a pos) ((CE.notV ca).t G W) := pe_not ha
theorem j_ite (hc : PT X c (tc.t G W)) (ha : PE X a (ca.t G W)) (hb : PE X b (cb.t G W)) : PE X (.IfExp c a b pos) ((CE.ite tc ca cb).t G W) := pe_ifExp hc ha hb
theorem j_leLe (ha : PE X a (ca.t G W)) (hb : PE X b (cb.t G W)) (hc : PE X c (cc.t G W)) (hm : lastMarks [.LtE, .LtE] [b, c] = false := by rfl) : PE X (.Compare a [.LtE, .LtE] [b, c] pos) ((CE.leLe ca cb cc).t G W) := pe_chain op_le op_le ha hb hc hm
theorem j_leLt (ha : PE X a (ca.t G W)) (hb : PE X b (cb.t G W)) (hc : PE X c (cc.t G W)) (hm : lastMarks [.LtE, .Lt] [b, c] = false := by rfl) : PE X (.Compare a [.LtE, .Lt] [b, c] pos) ((CE.leLt ca cb cc).t G W) := pe_chain op_le op_lt ha hb hc hm
theorem j_tup {x1} (h : PA X es (A.t G W)) : PE X (.Tuple es x1 pos) ((CE.tup A).t G W) := pe_tup h
theorem j_lst (h : PA X es (A.t G W)) : PE X (.List es pos) ((CE.lst A).t G W) := pe_lst h
theorem j_disp (h : PA X es (A.t G W)) : PE X (.List es pos) ((CL.disp A).t G W) := pe_lst h
theorem j_ofL {l : CL} (h : PE X e (l.t G W)) : PE X e ((CE.ofL l).t G W) := h
theorem j_nil : PA X [] (CA.nil.t G W) := pa_nil
theorem j_cons (ha : PE X a (ca.t G W)) (hr : PA X es (A.t G W)) (hs : starEach (a :: es) X.env = (false, eval a X.env) :: starEach es X.env := by rfl) : PA X (a :: es) ((CA.cons ca A).t G W) := pa_cons ha hr hs

/-! tests -/
theorem j_val (h : PE X e (ca.t G W)) (he : ∀ whole, isTrue e X.env whole = (do let v ← whole; standAt e.pos; holding [v] (truthy v)) := by intro _; rfl) : PT X e ((CT.of ca).t G W) := pt_val h he
theorem t_lt (ha : PE X a (ca.t G W)) (hb : PE X b (cb.t G W)) : PT X (.Compare a [.Lt] [b] pos) ((CT.of (CE.lt ca cb)).t G W) := pt_cmpR op_lt ha hb (nomark _)
theorem t_le (ha : PE X a (ca.t G W)) (hb : PE X b (cb.t G W)) : PT X (.Compare a [.LtE] [b] pos) ((CT.of (CE.le ca cb)).t G W) := pt_cmpR op_le ha hb (nomark _)
theorem t_gt (ha : PE X a (ca.t G W)) (hb : PE X b (cb.t G W)) : PT X (.Compare a [.Gt] [b] pos) ((CT.of (CE.gt ca cb)).t G W) := pt_cmpR op_gt ha hb (nomark _)
theorem t_ge (ha : PE X a (ca.t G W)) (hb : PE X b (cb.t G W)) : PT X (.Compare a [.GtE] [b] pos) ((CT.of (CE.ge ca cb)).t G W) := pt_cmpR op_ge ha hb (nomark _)
theorem t_eq (o : Ok X G W) (ha : PE X a (ca.t G W)) (hb : PE X b (cb.t G W)) : PT X (.Compare a [.Eq] [b] pos) ((CT.of (CE.eq ca cb)).t G W) := pt_cmpR (k_eq o) ha hb (nomark _)
theorem t_ne (o : Ok X G W) (ha : PE X a (ca.t G W)) (hb : PE X b (cb.t G W)) : PT X (.Compare a [.NotEq] [b] pos) ((CT.of (CE.ne ca cb)).t G W) := pt_cmpR (k_ne o) ha hb (nomark _)
theorem t_isB (ha : PE X a (ca.t G W)) (hb : PE X b (cb.t G W)) : PT X (.Compare a [.Is] [b] pos) ((CT.of (CE.isB ca cb)).t G W) := pt_cmpR op_isBl ha hb (nomark _)
theorem t_notB (ha : PE X a (ca.t G W)) (hb : PE X b (cb.t G W)) : PT X (.Compare a [.IsNot] [b] pos) ((CT.of (CE.notB ca cb)).t G W) := pt_cmpR op_notBl ha hb (nomark _)
theorem t_isN (ha : PE X a (ca.t G W)) (hb : PE X b (cb.t G W)) : PT X (.Compare a [.Is] [b] pos) ((CT.of (CE.isN ca cb)).t G W) := pt_cmpR op_isN ha hb (nomark _)
theorem t_notN (ha : PE X a (ca.t G W)) (hb : PE X b (cb.t G W)) : PT X (.Compare a [.IsNot] [b] pos) ((CT.of (CE.notN ca cb)).t G W) := pt_cmpR op_notN ha hb (nomark _)
theorem t_in (o : Ok X G W) (ha : PE X a (ca.t G W)) (hb : PE X b (cb.t G W)) (hm : behindInMarks .In b = false := by rfl) : PT X (.Compare a [.In] [b] pos) ((CT.of (CE.isIn ca cb)).t G W) := pt_cmpR (k_in o) ha hb hm
theorem t_nin (o : Ok X G W) (ha : PE X a (ca.t G W)) (hb : PE X b (cb.t G W)) (hm : behindInMarks .NotIn b = false := by rfl) : PT X (.Compare a [.NotIn] [b] pos) ((CT.of (CE.notIn ca cb)).t G W) := pt_cmpR (k_nin o) ha hb hm
theorem t_inS (ha : PE X a (ca.t G W)) (hb : PE X b (cb.t G W)) (hm : behindInMarks .In b = false := by rfl) : PT X (.Compare a [.In] [b] pos) ((CT.of (CE.inS ca cb)).t G W) := pt_cmpR op_in_sign ha hb hm
theorem t_ownNe (o : Ok X G W) {i : Nat} (ha : PE X a ((CE.var i).t G W)) (hb : PE X b (cb.t G W)) : PT X (.Compare a [.NotEq] [b] pos) ((CT.of (CE.ownNe i cb)).t G W) := pt_cmpR (k_ne o) ha hb (nomark _)
theorem t_leLe (ha : PE X a (ca.t G W)) (hb : PE X b (cb.t G W)) (hc : PE X c (cc.t G W)) (hm : lastMarks [.LtE, .LtE] [b, c] = false := by rfl) : PT X (.Compare a [.LtE, .LtE] [b, c] pos) ((CT.of (CE.leLe ca cb cc)).t G W) := pt_chain op_le op_le ha hb hc hm
theorem t_leLt (ha : PE X a (ca.t G W)) (hb : PE X b (cb.t G W)) (hc : PE X c (cc.t G W)) (hm : lastMarks [.LtE, .Lt] [b, c] = false := by rfl) : PT X (.Compare a [.LtE, .Lt] [b, c] pos) ((CT.of (CE.leLt ca cb cc)).t G W) := pt_chain op_le op_lt ha hb hc hm
theorem t_not (h : PT X a (ta.t G W)) : PT X (.UnaryOp .Not a pos) ((CT.not ta).t G W) := pt_not h
theorem w_and (ha : PT X a (ta.t G W)) (hb : PW X (.BoolOp .And (b :: es) pos) (tb.t G W)) : PW X (.BoolOp .And (a :: b :: es) pos) ((CT.and ta tb).t G W) := pw_and ha hb
theorem w_or (ha : PT X a (ta.t G W)) (hb : PW X (.BoolOp .Or (b :: es) pos) (tb.t G W)) : PW X (.BoolOp .Or (a :: b :: es) pos) ((CT.or ta tb).t G W) := pw_or ha hb
theorem w_and1 (ha : PT X a (ta.t G W)) : PW X (.BoolOp .And [a] pos) (ta.t G W) := pw_and1 ha
theorem w_or1 (ha : PT X a (ta.t G W)) : PW X (.BoolOp .Or [a] pos) (ta.t G W) := pw_or1 ha
theorem t_bop (h : PW X e (ta.t G W)) : PT X e (ta.t G W) := h.pt

/-! calls -/
theorem pe_callS0 {CX : CXT} {k : Nat} {f : Addr} {fd : FuncData} {ps : List Str} {sp : Sp} {E : L2.St → XK} {x : Str} {p : Pos} (F : FnOk X.prog X.w X.K X.mg X.base CX k f fd ps sp) (hr : Room k X.A) (hg : Gl X x) (hm : X.mg x = some (.ref f)) (hk : PySem.W.keepIn X.K (.ref f) = true) (hb : Binds X.K fd ps []) (hx : ∀ σ, PassesAt CX X σ (E σ))
    (hdb : (x == ("__debug__" : Str)) = false := by decide) : PE X (.Call (.Name x p) [] [] pos) (tCallS sp E tNil) := by
  refine ⟨fun pins s σ H Q I h => ?_⟩
  refine wpAny_Call_Name_kw (ld_glob I hg hm ?_ hdb)
  exact PySem.W.callWith_K0 I.kIn hk (run_fnS (us := []) F hr hb (hx σ) I .nil h)
theorem j_call {x : Str} {p : Pos} {k n : Nat} {φ : List D → RF} (C : Callee X.prog X.w X.K X.mg X.base x k (spOf G n φ)) (o : Ok X G W) (hr : Room k X.A) (ha : PA X (e :: es) (A.t G W)) (hg : Gl X x := by rfl) (hdb : (x == ("__debug__" : Str)) = false := by decide)
    (he : starEach (e :: es) X.env = (false, eval e X.env) :: starEach es X.env := by rfl) (hpl : (backTo pos (starEach es X.env)).any (·.1) = false := by rfl) : PE X (.Call (.Name x p) (e :: es) [] pos) ((CE.call n φ A).t G W) := by
  obtain ⟨f, fd, ps, F, hm, hk, hb⟩ := C.ex
  exact pe_callS F hr hg hm hk hb (fun σ => passAt o.tk σ) ha hdb he hpl
theorem j_call0 {x : Str} {p : Pos} {k n : Nat} {φ : List D → RF} (C : Callee X.prog X.w X.K X.mg X.base x k (spOf G n φ)) (o : Ok X G W) (hr : Room k X.A) (hg : Gl X x := by rfl) (hdb : (x == ("__debug__" : Str)) = false := by decide) :
    PE X (.Call (.Name x p) [] [] pos) ((CE.call n φ CA.nil).t G W) := by
  obtain ⟨f, fd, ps, F, hm, hk, hb⟩ := C.ex
  exact pe_callS0 F hr hg hm hk hb (fun σ => passAt o.tk σ) hdb
theorem j_callM {x : Str} {p : Pos} {k n i : Nat} {φ : OD → List D → RM} (C : Callee X.prog X.w X.K X.mg X.base x k (spOfM G n φ)) (o : Ok X G W) (hr : Room k X.A) (h1 : PE X e ((CE.var i).t G W)) (ha : PA X es (A.t G W)) (hg : Gl X x := by rfl) (hdb : (x == ("__debug__" : Str)) = false := by decide)
    (he : starEach (e :: es) X.env = (false, eval e X.env) :: starEach es X.env := by rfl) (hpl : (backTo pos (starEach es X.env)).any (·.1) = false := by rfl) : PE X (.Call (.Name x p) (e :: es) [] pos) ((CE.callM n φ i A).t G W) := by
  obtain ⟨f, fd, ps, F, hm, hk, hb⟩ := C.ex
  exact pe_callS F hr hg hm hk hb (fun σ => passAt o.tk σ) (pa_cons h1 ha he) hdb he hpl
/-- built-in functions by their names -/
theorem j_cb {id : String} {x : Str} {p : Pos} {r : Gm → List V → Hp → VK → Prop} {f : List D → Option D} {h : CbOk r f} (hc : CallR X (.builtin id) (r G)) (hm : X.mg x = none) (hv : bootBuiltins x = some (.builtin id)) (ha : PA X (e :: es) (A.t G W)) (hg : Gl X x := by rfl) (hn : x ≠ "__name__" := by decide)
    (hdb : (x == ("__debug__" : Str)) = false := by decide) (he : starEach (e :: es) X.env = (false, eval e X.env) :: starEach es X.env := by rfl) (hpl : (backTo pos (starEach es X.env)).any (·.1) = false := by rfl) :
    PE X (.Call (.Name x p) (e :: es) [] pos) ((CE.cb r f h A).t G W) := pe_callB hc hg hm hv ha hn hdb he hpl
theorem j_cty {T : String} {x : Str} {p : Pos} {r : Gm → List V → Hp → VK → Prop} {f : List D → Option D} {h : CbOk r f} (hc : CallR X (.type T) (r G)) (hm : X.mg x = none) (hv : bootBuiltins x = some (.type T)) (ha : PA X (e :: es) (A.t G W)) (hg : Gl X x := by rfl) (hn : x ≠ "__name__" := by decide)
    (hdb : (x == ("__debug__" : Str)) = false := by decide) (he : starEach (e :: es) X.env = (false, eval e X.env) :: starEach es X.env := by rfl) (hpl : (backTo pos (starEach es X.env)).any (·.1) = false := by rfl) :
    PE X (.Call (.Name x p) (e :: es) [] pos) ((CE.cb r f h A).t G W) := pe_callTy hc hg hm hv ha hn hdb he hpl
theorem j_strI {p : Pos} (o : Ok X G W) (hd : Dig G) (hm : X.mg "str" = none) (ha : PA X (e :: es) (A.t G W)) (hg : Gl X "str" := by rfl)
    (he : starEach (e :: es) X.env = (false, eval e X.env) :: starEach es X.env := by rfl) (hpl : (backTo pos (starEach es X.env)).any (·.1) = false := by rfl) :
    PE X (.Call (.Name "str" p) (e :: es) [] pos) ((CE.strI A).t G W) := by
  have h := pe_callTy (pos := pos) (p := p) (call_strBig o.calm (by rw [o.hK]; exact hd)) hg hm (by decide +kernel) ha (by decide) (by decide) he hpl
  exact ⟨fun pins s σ H Q I q => h.run pins s σ H Q I (q hd)⟩
theorem c_len (o : Ok X G W) : CallR X (.builtin "len") (rLen G.K) := by rw [← o.hK]; exact call_len
theorem c_sum (o : Ok X G W) : CallR X (.builtin "sum") (rSum G.K) := by rw [← o.hK]; exact cr_sum o.calm
theorem c_maxL (o : Ok X G W) : CallR X (.builtin "max") (rMax G.K) := by rw [← o.hK]; exact cr_max o.calm
theorem c_minL (o : Ok X G W) : CallR X (.builtin "min") (rMin G.K) := by rw [← o.hK]; exact cr_min o.calm
theorem c_any (o : Ok X G W) : CallR X (.builtin "any") (rAny G.K) := by rw [← o.hK]; exact cr_any o.calm
theorem c_all (o : Ok X G W) : CallR X (.builtin "all") (rAll G.K) := by rw [← o.hK]; exact cr_all o.calm
theorem j_isTy {p p2 : Pos} {T : String} {x : Str} (o : Ok X G W) (hm : X.mg "isinstance" = none) (hm2 : X.mg x = none) (hv2 : bootBuiltins x = some (.type T)) (ha : PE X e (ca.t G W)) (hg : Gl X "isinstance" := by rfl) (hg2 : Gl X x := by rfl) (hn2 : x ≠ "__name__" := by decide) (hdb2 : (x == ("__debug__" : Str)) = false := by decide)
    (he : starEach [e, .Name x p2] X.env = (false, eval e X.env) :: starEach [.Name x p2] X.env := by rfl) (he2 : starEach [.Name x p2] X.env = (false, eval (.Name x p2) X.env) :: starEach [] X.env := by rfl) (hpl : (backTo pos (starEach [.Name x p2] X.env)).any (·.1) = false := by rfl) :
    PE X (.Call (.Name "isinstance" p) [e, .Name x p2] [] pos) ((CE.isTy T ca).t G W) := by
  have hc : CallR X (.builtin "isinstance") (rIsi G.K) := by rw [← o.hK]; exact call_isi
  exact pe_callB hc hg hm (by decide +kernel) (pa_cons ha (pa_cons (pe_bltn (v := .ty T) hg2 hm2 hv2 rfl hn2 hdb2) pa_nil he2) he) (by decide) (by decide) he hpl
/-! new lists, slices, methods -/
theorem j_listRg2 {a b : Expr} {p p2 pos2 : Pos} (o : Ok X G W) (hm : X.mg "list" = none) (hm2 : X.mg "range" = none) (ha : PE X a (ca.t G W)) (hb : PE X b (cb.t G W)) (hg : Gl X "list" := by rfl) (hg2 : Gl X "range" := by rfl)
    (na : starEach [a, b] X.env = (false, eval a X.env) :: starEach [b] X.env := by rfl) (nb : starEach [b] X.env = (false, eval b X.env) :: starEach [] X.env := by rfl) (hp : (backTo pos2 (starEach [b] X.env)).any (·.1) = false := by rfl)
    (nc : starEach [.Call (.Name "range" p2) [a, b] [] pos2] X.env = (false, eval (.Call (.Name "range" p2) [a, b] [] pos2) X.env) :: starEach [] X.env := by rfl) :
    PE X (.Call (.Name "list" p) [.Call (.Name "range" p2) [a, b] [] pos2] [] pos) ((CL.listRg2 ca cb).t G W) := pe_listRg o.calm hg hm (prg_2 hg2 hm2 ha hb na nb hp) nc
theorem j_copy {p : Pos} (o : Ok X G W) (hm : X.mg "list" = none) (ha : PE X e (ca.t G W)) (hg : Gl X "list" := by rfl) (he : starEach (e :: []) X.env = (false, eval e X.env) :: starEach [] X.env := by rfl) (hpl : (backTo pos (starEach [] X.env)).any (·.1) = false := by rfl) :
    PE X (.Call (.Name "list" p) [e] [] pos) ((CL.copy ca).t G W) := by
  have hc : CallR X (.type "list") (rListOf G.K) := by rw [← o.hK]; exact call_list_of
  exact pe_callTy hc hg hm (by decide +kernel) (pa_cons ha pa_nil he) (by decide) (by decide) he hpl
theorem j_sorted {p : Pos} (o : Ok X G W) (hm : X.mg "sorted" = none) (ha : PE X e (ca.t G W)) (hg : Gl X "sorted" := by rfl) (he : starEach (e :: []) X.env = (false, eval e X.env) :: starEach [] X.env := by rfl) (hpl : (backTo pos (starEach [] X.env)).any (·.1) = false := by rfl) :
    PE X (.Call (.Name "sorted" p) [e] [] pos) ((CL.sorted ca).t G W) := by
  have hc : CallR X (.builtin "sorted") (rSortedI G.K) := by rw [← o.hK]; exact cr_sortedI
  exact pe_callB hc hg hm (by decide +kernel) (pa_cons ha pa_nil he) (by decide) (by decide) he hpl
theorem j_po {ca : CE} (h : PE X e (ca.t G W)) : PO X (some e) ((CO.some ca).t G W) := po_some h
theorem j_pn : PO X none (CO.none.t G W) := po_none
theorem k_sl (o : Ok X G W) : SlR X (rSlL G.K) := by rw [← o.hK]; exact sl_list
theorem j_slice {lo hi : Option Expr} {l h : CO} {p2 : Pos} (o : Ok X G W) (ha : PE X a (ca.t G W)) (hl : PO X lo (l.t G W)) (hh : PO X hi (h.t G W)) : PE X (.Subscript a (.Slice lo hi none p2) pos) ((CL.slice ca l h).t G W) := pe_slice (k_sl o) ha hl hh
theorem j_sliceS {lo hi : Option Expr} {l h : CO} {p2 : Pos} (ha : PE X a (ca.t G W)) (hl : PO X lo (l.t G W)) (hh : PO X hi (h.t G W)) : PE X (.Subscript a (.Slice lo hi none p2) pos) ((CE.sliceS ca l h).t G W) := pe_slice sl_str ha hl hh
theorem j_rev {k : Nat} {p1 p2 p3 : Pos} (o : Ok X G W) (ha : PE X e (ca.t G W)) : PE X (.Subscript e (.Slice none none (some (.UnaryOp .USub (.Constant (.int 1) k p1) p2)) p3) pos) ((CL.rev ca).t G W) := by
  have h := pe_revL (pos := pos) (k := k) (p1 := p1) (p2 := p2) (p3 := p3) ha
  rw [o.hK] at h
  exact h
theorem k_index (o : Ok X G W) : MtR X "list.index" (rIndex G.K) := by rw [← o.hK]; exact mt_index
theorem k_count (o : Ok X G W) : MtR X "list.count" (rCntI G.K) := by rw [← o.hK]; exact mt_lcount
theorem k_app (o : Ok X G W) : MtM X "list.append" rAppend := mt_append

/-! targets, what is walked -/
theorem g_name {i : Nat} {x : Str} (o : Ok X G W) (hi : X.N[i]? = some x := by rfl) (hx : Loc X.env.scope x := by first | exact Or.inl rfl | exact Or.inr rfl) (hf : X.fn x = true ∨ X.env.scope.names.lookup x = some .local := by first | exact .inl rfl | exact .inr rfl | assumption) : PG X (.Name x pos) ((CG.name i).t G) := pg_name o.nd hi hx hf
theorem g_names_nil : PGs X [] (gNames []) := pgs_nil
end
end FD
set_option Elab.async false
set_option linter.all false
set_option maxRecDepth 100000
set_option maxHeartbeats 4000000
noncomputable section
namespace FD
open PySem L2
section
variable {X : Cx} {G : Gm} {W : WX} {a b c e tg : Expr} {es : List Expr} {ca cb cc : CE} {ta tb tc : CT} {A : CA} {pos p apos : Pos} {st : Stmt} {rest body els : List Stmt} {sa sb : CS}
theorem ownE {X : Cx} {G : Gm} (o : X.K = G.K) {t : PySem.W.Frag → TE} (h : PE X e (t X.K)) : PE X e (t G.K) := by rw [← o]; exact h
theorem j_index (o : Ok X G W) (ha : PE X a (ca.t G W)) (hb : PE X b (cb.t G W))
    (hbase : attributeBase a "index" X.env (eval a X.env) = eval a X.env := by rfl)
    (hfew : ((backTo pos (starEach (b :: []) X.env)).all (fun x => !x.1) && (backToKw pos (keywordEach [] X.env)).all (fun x => x.1.isSome)
      && decide ((b :: []).length + ([] : List Keyword).length + (if ([] : List Keyword).isEmpty then 0 else 1) < 30)) = true := by rfl)
    (hline : (apos.endLine == pos.line) = true := by rfl) (hs : starEach (b :: []) X.env = (false, eval b X.env) :: starEach [] X.env := by rfl) (hplain : (backTo pos (starEach [] X.env)).any (·.1) = false := by rfl) :
    PE X (.Call (.Attribute a "index" apos) [b] [] pos) ((CE.index ca cb).t G W) :=
  ownE (t := fun K => tBM K "list" (rIndex G.K) (ca.t G W) (tCons (cb.t G W) tNil)) o.hK (pe_bm PySem.F.plainAttrs_list PySem.F.slot_list_index PySem.F.type_list_index (k_index o) ha (pa_cons hb pa_nil hs) hbase hfew hline hs hplain)
theorem j_countI (o : Ok X G W) (ha : PE X a (ca.t G W)) (hb : PE X b (cb.t G W))
    (hbase : attributeBase a "count" X.env (eval a X.env) = eval a X.env := by rfl)
    (hfew : ((backTo pos (starEach (b :: []) X.env)).all (fun x => !x.1) && (backToKw pos (keywordEach [] X.env)).all (fun x => x.1.isSome)
      && decide ((b :: []).length + ([] : List Keyword).length + (if ([] : List Keyword).isEmpty then 0 else 1) < 30)) = true := by rfl)
    (hline : (apos.endLine == pos.line) = true := by rfl) (hs : starEach (b :: []) X.env = (false, eval b X.env) :: starEach [] X.env := by rfl) (hplain : (backTo pos (starEach [] X.env)).any (·.1) = false := by rfl) :
    PE X (.Call (.Attribute a "count" apos) [b] [] pos) ((CE.countI ca cb).t G W) :=
  ownE (t := fun K => tBM K "list" (rCntI G.K) (ca.t G W) (tCons (cb.t G W) tNil)) o.hK (pe_bm PySem.F.plainAttrs_list PySem.F.slot_list_count PySem.F.type_list_count (k_count o) ha (pa_cons hb pa_nil hs) hbase hfew hline hs hplain)
theorem j_split (ha : PE X a (ca.t G W)) (hb : PE X b (cb.t G W)) (hs : starEach [b] X.env = [(false, eval b X.env)] := by rfl) (hbase : attributeBase a "split" X.env (eval a X.env) = eval a X.env := by rfl) (hline : (apos.endLine == pos.line) = true := by rfl) :
    PE X (.Call (.Attribute a "split" apos) [b] [] pos) ((CE.split ca cb).t G W) := pe_split ha hb hs hbase hline
theorem j_partition (ha : PE X a (ca.t G W)) (hb : PE X b (cb.t G W)) (hs : starEach [b] X.env = [(false, eval b X.env)] := by rfl) (hbase : attributeBase a "partition" X.env (eval a X.env) = eval a X.env := by rfl) (hline : (apos.endLine == pos.line) = true := by rfl) :
    PE X (.Call (.Attribute a "partition" apos) [b] [] pos) ((CE.partition ca cb).t G W) := pe_partition ha hb hs hbase hline
theorem j_join (o : Ok X G W) (ha : PE X a (ca.t G W)) (hb : PE X b (cb.t G W)) (hs : starEach [b] X.env = [(false, eval b X.env)] := by rfl) (hbase : attributeBase a "join" X.env (eval a X.env) = eval a X.env := by rfl) (hline : (apos.endLine == pos.line) = true := by rfl) :
    PE X (.Call (.Attribute a "join" apos) [b] [] pos) ((CE.join ca cb).t G W) :=
  ownE (t := fun K => tM1 (rJoin K) (ca.t G W) (cb.t G W)) o.hK (pe_join ha hb hs hbase hline)
theorem j_countS (ha : PE X a (ca.t G W)) (hb : PE X b (cb.t G W)) (hs : starEach [b] X.env = [(false, eval b X.env)] := by rfl) (hbase : attributeBase a "count" X.env (eval a X.env) = eval a X.env := by rfl) (hline : (apos.endLine == pos.line) = true := by rfl) :
    PE X (.Call (.Attribute a "count" apos) [b] [] pos) ((CE.countS ca cb).t G W) := pe_m1 PySem.F.slot_str_count PySem.F.type_str_count mt_count ha hb hs hbase hline
theorem j_fmt (ha : PE X a (ca.t G W)) : PE X (.FormattedValue a (-1) none pos) ((CE.fmt ca).t G W) := pe_fmt ha
theorem j_js3 (ha : PE X a (ca.t G W)) (hb : PE X b (cb.t G W)) (hc : PE X c (cc.t G W)) : PE X (.JoinedStr [a, b, c] pos) ((CE.js3 ca cb cc).t G W) := pe_joined (.cons ha (.cons hb (.cons hc .nil)))

/-! targets, what is walked -/
theorem g_nm {i : Nat} {x : Str} (hN : X.N.Nodup) (hi : X.N[i]? = some x := by rfl) (hx : Loc X.env.scope x := by first | exact Or.inl rfl | exact Or.inr rfl) (hf : X.fn x = true ∨ X.env.scope.names.lookup x = some .local := by first | exact .inl rfl | exact .inr rfl | assumption) : PG X (.Name x pos) ((CG.name i).t G) := pg_name hN hi hx hf
theorem g_n0 : PGs X [] (gNames []) := pgs_nil
theorem g_n1 {i : Nat} {x : Str} {is : List Nat} (hN : X.N.Nodup) (h2 : PGs X es (gNames is)) (hi : X.N[i]? = some x := by rfl) (hx : Loc X.env.scope x := by first | exact Or.inl rfl | exact Or.inr rfl) (hf : X.fn x = true ∨ X.env.scope.names.lookup x = some .local := by first | exact .inl rfl | exact .inr rfl | assumption)
    (hs : (assignEach (.Name x pos :: es) X.env).map (·.2) = assign (.Name x pos) X.env :: (assignEach es X.env).map (·.2) := by rfl) : PGs X (.Name x pos :: es) (gNames (i :: is)) := pgs_cons (pg_name hN hi hx hf) h2 hs
theorem g_tup {k : Nat} {is : List Nat} (o : Ok X G W) (h : PGs X es (gNames is)) (hn : (assignEach es X.env).length = is.length := by rfl) (hst : (assignEach es X.env).findIdx? (·.1) = none := by rfl) : PG X (.Tuple es k pos) ((CG.tup is).t G) := by
  have h2 := pg_tup (pos := pos) (k := k) o.calm h hn hst
  rw [o.hK] at h2
  exact h2
theorem i_rng1 (hm : X.mg "range" = none) (ha : PE X a (ca.t G W)) (hg : Gl X "range" := by rfl) (hs : starEach [a] X.env = [(false, eval a X.env)] := by rfl) : PI X tg (.Call (.Name "range" p) [a] [] pos) ((CI.rng1 ca).t G W) := pi_range1 hg hm (pa_cons ha pa_nil hs) hs
theorem i_rng2 (hm : X.mg "range" = none) (ha : PE X a (ca.t G W)) (hb : PE X b (cb.t G W)) (hg : Gl X "range" := by rfl) (hs : starEach [a, b] X.env = [(false, eval a X.env), (false, eval b X.env)] := by rfl) (hs2 : starEach [b] X.env = [(false, eval b X.env)] := by rfl) :
    PI X tg (.Call (.Name "range" p) [a, b] [] pos) ((CI.rng2 ca cb).t G W) := pi_range2 hg hm (pa_cons ha (pa_cons hb pa_nil (by rw [hs2]; rfl)) (by rw [hs, hs2])) hs hs2
theorem i_rng3 (hm : X.mg "range" = none) (ha : PE X a (ca.t G W)) (hb : PE X b (cb.t G W)) (hc : PE X c (cc.t G W)) (hg : Gl X "range" := by rfl) (hs : starEach [a, b, c] X.env = (false, eval a X.env) :: starEach [b, c] X.env := by rfl) (hs2 : starEach [b, c] X.env = (false, eval b X.env) :: starEach [c] X.env := by rfl) (hs3 : starEach [c] X.env = (false, eval c X.env) :: starEach [] X.env := by rfl)
    (hpl : (backTo pos (starEach [b, c] X.env)).any (·.1) = false := by rfl) : PI X tg (.Call (.Name "range" p) [a, b, c] [] pos) ((CI.rng3 ca cb cc).t G W) := pi_range3 hg hm (pa_cons ha (pa_cons hb (pa_cons hc pa_nil hs3) hs2) hs) hs hpl
theorem ownI {iter : Expr} (o : X.K = G.K) {t : PySem.W.Frag → TI} (h : PI X tg iter (t X.K)) : PI X tg iter (t G.K) := by rw [← o]; exact h
theorem i_list (o : Ok X G W) (ha : PE X a (ca.t G W)) : PI X tg a ((CI.list ca).t G W) := ownI (t := fun K => iList K (ca.t G W)) o.hK (pi_list ha)
theorem i_tup (o : Ok X G W) (ha : PE X a (ca.t G W)) : PI X tg a ((CI.tup ca).t G W) := ownI (t := fun K => iTup K (ca.t G W)) o.hK (pi_tup ha)
theorem i_str (ha : PE X a (ca.t G W)) : PI X tg a ((CI.str ca).t G W) := pi_str ha
theorem i_enum {tpos : Pos} {elts : List Expr} {kk : Nat} (o : Ok X G W) (hm : X.mg "enumerate" = none) (ha : PE X a (ca.t G W)) (hg : Gl X "enumerate" := by rfl) (hs : starEach [a] X.env = [(false, eval a X.env)] := by rfl) :
    PI X (.Tuple elts kk tpos) (.Call (.Name "enumerate" p) [a] [] pos) ((CI.enum ca).t G W) := ownI (t := fun K => iEnum K (tCons (ca.t G W) tNil)) o.hK (pi_enum hg hm (pa_cons ha pa_nil hs) hs)
theorem i_zip {tpos : Pos} {elts : List Expr} {kk : Nat} (o : Ok X G W) (hm : X.mg "zip" = none) (ha : PE X a (ca.t G W)) (hb : PE X b (cb.t G W)) (hg : Gl X "zip" := by rfl) (hs : starEach [a, b] X.env = (false, eval a X.env) :: starEach [b] X.env := by rfl) (hs2 : starEach [b] X.env = (false, eval b X.env) :: starEach [] X.env := by rfl)
    (hpl : (backTo pos (starEach [b] X.env)).any (·.1) = false := by rfl) : PI X (.Tuple elts kk tpos) (.Call (.Name "zip" p) [a, b] [] pos) ((CI.zip ca cb).t G W) := ownI (t := fun K => iZip K (tCons (ca.t G W) (tCons (cb.t G W) tNil))) o.hK (pi_zip hg hm (pa_cons ha (pa_cons hb pa_nil hs2) hs) hs hpl)

/-! comprehensions -/
theorem j_lc {iter elt : Expr} {ifs : List Expr} {scope : Scope} {own : List (Str × Nat)} {src : CI} {g : CGc} {c : CT} {e : CE} (o : Ok X G W) (hi : PI X tg iter (src.t G W)) (ok : BlkOk X.N X.env.scope scope own)
    (hg : ∀ (s : Shared) (H : Hp) (C : Addr) (cl : List (Str × Addr)) (fp : List Addr), Ok (X.blk s H scope (compEnvC scope cl C X.env) fp) G W0 → PG (X.blk s H scope (compEnvC scope cl C X.env) fp) tg (g.g.t G)) (ht : ∀ (s : Shared) (H : Hp) (C : Addr) (cl : List (Str × Addr)) (fp : List Addr), Ok (X.blk s H scope (compEnvC scope cl C X.env) fp) G W0 → PTs (X.blk s H scope (compEnvC scope cl C X.env) fp) ifs (c.t G W0))
    (he : ∀ (s : Shared) (H : Hp) (C : Addr) (cl : List (Str × Addr)) (fp : List Addr), Ok (X.blk s H scope (compEnvC scope cl C X.env) fp) G W0 → PE (X.blk s H scope (compEnvC scope cl C X.env) fp) elt (e.t G W0)) (hown : own.map (·.2) = g.own := by rfl) (hs : ∀ x, foldedSetIterable iter X.env x = pure x := by intro _; rfl) :
    PE X (.ListComp elt [⟨tg, iter, ifs, 0⟩] scope pos) ((CL.lc src g c e).t G W) := by
  have h := pe_lc (pos := pos) o.calm o.nd hi ok (fun s H C cl fp => hg s H C cl fp (o.inBlk s H _ _ fp)) (fun s H C cl fp => ht s H C cl fp (o.inBlk s H _ _ fp)) (fun s H C cl fp => he s H C cl fp (o.inBlk s H _ _ fp)) hs
  rw [hown] at h
  exact h
theorem s_setLc {i : Nat} {y : Str} {py spos : Pos} {iter elt : Expr} {ifs : List Expr} {scope : Scope} {own : List (Str × Nat)} {src : CI} {g : CGc} {c : CT} {e : CE} (o : Ok X G W) (hi : PI X tg iter (src.t G W)) (ok : BlkOk X.N X.env.scope scope own)
    (hg : ∀ (s : Shared) (H : Hp) (C : Addr) (cl : List (Str × Addr)) (fp : List Addr), Ok (X.blk s H scope (compEnvC scope cl C X.env) fp) G W0 → PG (X.blk s H scope (compEnvC scope cl C X.env) fp) tg (g.g.t G)) (ht : ∀ (s : Shared) (H : Hp) (C : Addr) (cl : List (Str × Addr)) (fp : List Addr), Ok (X.blk s H scope (compEnvC scope cl C X.env) fp) G W0 → PTs (X.blk s H scope (compEnvC scope cl C X.env) fp) ifs (c.t G W0))
    (he : ∀ (s : Shared) (H : Hp) (C : Addr) (cl : List (Str × Addr)) (fp : List Addr), Ok (X.blk s H scope (compEnvC scope cl C X.env) fp) G W0 → PE (X.blk s H scope (compEnvC scope cl C X.env) fp) elt (e.t G W0)) (hy : X.N[i]? = some y := by rfl) (hyl : X.env.scope.names.lookup y = some .local := by rfl)
    (hsw : swapsWith (.ListComp elt [⟨tg, iter, ifs, 0⟩] scope pos) (some (.Name y py)) spos.line X.env = pure true := by exact sw_true rfl rfl rfl (by decide +kernel)) (hown : own.map (·.2) = g.own := by rfl) (hs : ∀ x, foldedSetIterable iter X.env x = pure x := by intro _; rfl) :
    PS X (.Assign [.Name y py] (.ListComp elt [⟨tg, iter, ifs, 0⟩] scope pos) spos) ((CS.asg i (CE.ofL (CL.lc src g c e))).t G W) := by
  have h := ps_setLc (pos := pos) (py := py) (spos := spos) o.calm o.nd hy hyl hsw hi ok (fun s H C cl fp => hg s H C cl fp (o.inBlk s H _ _ fp)) (fun s H C cl fp => ht s H C cl fp (o.inBlk s H _ _ fp)) (fun s H C cl fp => he s H C cl fp (o.inBlk s H _ _ fp)) hs
  rw [hown] at h
  exact h
theorem t_none : PTs X [] (CT.yes.t G W) := pts_nil
theorem t_one (h : PT X e (ta.t G W)) : PTs X [e] (ta.t G W) := pts_one h

/-! statements -/
theorem s_nil : PSs X [] (CS.nil.t G W) := pss_nil
theorem s_cons (h : PS X st (sa.t G W)) (r : PSs X rest (sb.t G W)) : PSs X (st :: rest) ((CS.seq sa sb).t G W) := show PSs X (st :: rest) (tSeq (sa.t G W) (sb.t G W)) from pss_cons h r
theorem s_one (h : PS X st (sa.t G W)) : PSs X [st] (sa.t G W) := pss_one h
theorem s_freeze {i : Nat} (r : PSs X rest (sb.t G W)) : PSs X rest ((CS.freeze i sb).t G W) := r
theorem s_asg {i : Nat} {x : Str} (o : Ok X G W) (he : PE X e (ca.t G W)) (hi : X.N[i]? = some x := by rfl) (hx : Loc X.env.scope x := by first | exact Or.inl rfl | exact Or.inr rfl) (hs : swapsWith e (some (.Name x p)) pos.line X.env = pure false := by rfl) (hf : X.fn x = true ∨ X.env.scope.names.lookup x = some .local := by first | exact .inl rfl | exact .inr rfl | assumption) :
    PS X (.Assign [.Name x p] e pos) ((CS.asg i ca).t G W) := ps_set o.nd hi hx he hs hf
theorem s_asgOw {i : Nat} {x : Str} {l : CL} (o : Ok X G W) (he : PE X e (l.t G W)) (hi : X.N[i]? = some x := by rfl) (hx : Loc X.env.scope x := by first | exact Or.inl rfl | exact Or.inr rfl) (hs : swapsWith e (some (.Name x p)) pos.line X.env = pure false := by rfl) (hf : X.fn x = true ∨ X.env.scope.names.lookup x = some .local := by first | exact .inl rfl | exact .inr rfl | assumption) :
    PS X (.Assign [.Name x p] e pos) ((CS.asgOw i l).t G W) := ps_set o.nd hi hx he hs hf
theorem s_asgT {g : CG} (he : PE X e (ca.t G W)) (hg : PG X tg (g.t G)) (hs : swapsWithSole [tg] e pos.line X.env = pure false := by rfl) (hw : swappedStores [tg] e X.env = pure none := by rfl) (h1 : (assignEach [tg] X.env).map (·.2) = [assign tg X.env] := by rfl) :
    PS X (.Assign [tg] e pos) ((CS.asgT g ca).t G W) := ps_asg he hg hs hw h1
theorem s_par {i j : Nat} {x y : Str} {px py pt : Pos} {kt k2 pt2} (o : Ok X G W) (ha : PE X a (ca.t G W)) (hb : PE X b (cb.t G W)) (hi : X.N[i]? = some x := by rfl) (hj : X.N[j]? = some y := by rfl) (hij : i ≠ j := by decide)
    (hx : X.env.scope.names.lookup x = some .local := by rfl) (hy : X.env.scope.names.lookup y = some .local := by rfl) (hs1 : starEach [a, b] X.env = (false, eval a X.env) :: starEach [b] X.env := by rfl) (hs2 : starEach [b] X.env = (false, eval b X.env) :: starEach [] X.env := by rfl)
    (hw : swappedStores [.Tuple [.Name x px, .Name y py] kt pt] (.Tuple [a, b] k2 pt2) X.env = pure (some [x, y]) := by rfl)
    (hs : swapsWithSole [.Tuple [.Name x px, .Name y py] kt pt] (.Tuple [a, b] k2 pt2) pos.line X.env = pure false := by rfl) :
    PS X (.Assign [.Tuple [.Name x px, .Name y py] kt pt] (.Tuple [a, b] k2 pt2) pos) ((CS.par i j ca cb).t G W) := ps_par o.calm o.nd hi hj hij hx hy (pa_cons ha (pa_cons hb pa_nil hs2) hs1) hw hs
theorem s_parOw {i j : Nat} {x y : Str} {px py pt : Pos} {kt k2 pt2} {l : CL} (o : Ok X G W) (ha : PE X a (l.t G W)) (hb : PE X b (cb.t G W)) (hi : X.N[i]? = some x := by rfl) (hj : X.N[j]? = some y := by rfl) (hij : i ≠ j := by decide)
    (hx : X.env.scope.names.lookup x = some .local := by rfl) (hy : X.env.scope.names.lookup y = some .local := by rfl) (hs1 : starEach [a, b] X.env = (false, eval a X.env) :: starEach [b] X.env := by rfl) (hs2 : starEach [b] X.env = (false, eval b X.env) :: starEach [] X.env := by rfl)
    (hw : swappedStores [.Tuple [.Name x px, .Name y py] kt pt] (.Tuple [a, b] k2 pt2) X.env = pure (some [x, y]) := by rfl)
    (hs : swapsWithSole [.Tuple [.Name x px, .Name y py] kt pt] (.Tuple [a, b] k2 pt2) pos.line X.env = pure false := by rfl) :
    PS X (.Assign [.Tuple [.Name x px, .Name y py] kt pt] (.Tuple [a, b] k2 pt2) pos) ((CS.parOw i j l cb).t G W) := ps_par o.calm o.nd hi hj hij hx hy (pa_cons ha (pa_cons hb pa_nil hs2) hs1) hw hs
theorem s_augAdd {i : Nat} {x : Str} (o : Ok X G W) (he : PE X e (ca.t G W)) (hi : X.N[i]? = some x := by rfl) (hx : Loc X.env.scope x := by first | exact Or.inl rfl | exact Or.inr rfl) (hf : X.fn x = true ∨ X.env.scope.names.lookup x = some .local := by first | exact .inl rfl | exact .inr rfl | assumption) :
    PS X (.AugAssign (.Name x p) .Add e pos) ((CS.augAdd i ca).t G W) := ps_aug o.nd hi hx he ip_add hf
theorem s_augSub {i : Nat} {x : Str} (o : Ok X G W) (he : PE X e (ca.t G W)) (hi : X.N[i]? = some x := by rfl) (hx : Loc X.env.scope x := by first | exact Or.inl rfl | exact Or.inr rfl) (hf : X.fn x = true ∨ X.env.scope.names.lookup x = some .local := by first | exact .inl rfl | exact .inr rfl | assumption) :
    PS X (.AugAssign (.Name x p) .Sub e pos) ((CS.augSub i ca).t G W) := ps_aug o.nd hi hx he ip_sub hf
theorem s_augMul {i : Nat} {x : Str} (o : Ok X G W) (he : PE X e (ca.t G W)) (hi : X.N[i]? = some x := by rfl) (hx : Loc X.env.scope x := by first | exact Or.inl rfl | exact Or.inr rfl) (hf : X.fn x = true ∨ X.env.scope.names.lookup x = some .local := by first | exact .inl rfl | exact .inr rfl | assumption) :
    PS X (.AugAssign (.Name x p) .Mult e pos) ((CS.augMul i ca).t G W) := ps_aug o.nd hi hx he ip_mul hf
theorem s_extend {i : Nat} {x : Str} (o : Ok X G W) (he : PE X e (ca.t G W)) (hi : X.N[i]? = some x := by rfl) (hx : Loc X.env.scope x := by first | exact Or.inl rfl | exact Or.inr rfl) (hf : X.fn x = true ∨ X.env.scope.names.lookup x = some .local := by first | exact .inl rfl | exact .inr rfl | assumption) :
    PS X (.AugAssign (.Name x p) .Add e pos) ((CS.extend i ca).t G W) := ps_aug o.nd hi hx he iop_ext hf
theorem s_setIx {i : Nat} {tpos : Pos} (hi : PE X a ((CE.var i).t G W)) (hb : PE X b (cb.t G W)) (he : PE X e (ca.t G W)) (hs : swapsWithSole [.Subscript a b tpos] e pos.line X.env = pure false := by rfl) (hw : swappedStores [.Subscript a b tpos] e X.env = pure none := by rfl)
    (h1 : (assignEach [.Subscript a b tpos] X.env).map (·.2) = [assign (.Subscript a b tpos) X.env] := by rfl)
    (ha : ∀ v, assign (.Subscript a b tpos) X.env v = (do
      let ov ← holding [v] (eval a X.env)
      let iv ← holding [v, ov] (eval b X.env)
      standAt tpos
      holding [v, ov, iv] (setItem ov iv v)
      release [v, ov, iv] []) := by intro _; rfl) : PS X (.Assign [.Subscript a b tpos] e pos) ((CS.setIx i cb ca).t G W) := ps_asg he (pg_sub hi hb set_list ha) hs hw h1
theorem getI {X : Cx} : PGet X rGetI := by
  intro pins s σ H o i ov iv Q I ro ri h
  obtain ⟨p, xs, k, j, v, rfl, rfl, h0, hp, hj, hv, q⟩ := h
  cases ro
  obtain ⟨t, rfl⟩ := ri
  obtain ⟨its, r, pl, hz⟩ := I.list (show SqL X.K H p xs from .inl (.inl hp))
  obtain ⟨h1, h2, h3, h4⟩ := ixN_seq hj
  obtain ⟨w, ew, rw'⟩ := r.get hv
  have hl := r.length
  have hn := line63
  have hjk : k.toNat = j := by
    rw [seqIndex_of h0 h4] at h1
    exact Option.some.inj h1
  exact wpAny_getItem_list pl.isList h0 (by omega) (by rw [hjk]; simpa using ew) ⟨v, H, I, rw', q⟩
theorem s_augIx {i : Nat} {tpos : Pos} (hi : PE X a ((CE.var i).t G W)) (hb : PE X b (cb.t G W)) (he : PE X e (ca.t G W)) (ha : ∀ ov iv new, augStore b ov iv new = (do holding [new, ov, iv] (setItem ov iv new); release [new, ov, iv] []; pure .next) := by intros; rfl) :
    PS X (.AugAssign (.Subscript a b tpos) .Add e pos) ((CS.augIx i cb ca).t G W) := ps_augS hi hb getI he ip_add set_list ha
theorem ownS {X : Cx} {G : Gm} {st : Stmt} (o : X.K = G.K) {t : PySem.W.Frag → TS} (h : PS X st (t X.K)) : PS X st (t G.K) := by rw [← o]; exact h
theorem s_append {i : Nat} (o : Ok X G W) (hi : PE X a ((CE.var i).t G W)) (he : PE X e (ca.t G W))
    (hbase : attributeBase a "append" X.env (eval a X.env) = eval a X.env := by rfl)
    (hfew : ((backTo p (starEach (e :: []) X.env)).all (fun x => !x.1) && (backToKw p (keywordEach [] X.env)).all (fun x => x.1.isSome)
      && decide ((e :: []).length + ([] : List Keyword).length + (if ([] : List Keyword).isEmpty then 0 else 1) < 30)) = true := by rfl)
    (hline : (apos.endLine == p.line) = true := by rfl) (hs : starEach (e :: []) X.env = (false, eval e X.env) :: starEach [] X.env := by rfl) (hplain : (backTo p (starEach [] X.env)).any (·.1) = false := by rfl)
    (hsw : swapsWith (.Call (.Attribute a "append" apos) [e] [] p) none pos.line X.env = pure false := by rfl) :
    PS X (.Expr (.Call (.Attribute a "append" apos) [e] [] p) pos) ((CS.append i ca).t G W) :=
  ownS (t := fun K => tDrop (tBM K "list" rAppend (tVar i) (tCons (ca.t G W) tNil))) o.hK (ps_expr (pe_bm PySem.F.plainAttrs_list PySem.F.slot_list_append PySem.F.type_list_append mt_append hi (pa_cons he pa_nil hs) hbase hfew hline hs hplain) hsw)
theorem s_expr (he : PE X e (ca.t G W)) (hs : swapsWith e none pos.line X.env = pure false := by rfl) : PS X (.Expr e pos) ((CS.expr ca).t G W) := ps_expr he hs
theorem s_ret (he : PE X e (ca.t G W)) : PS X (.Return (some e) pos) ((CS.ret ca).t G W) := ps_ret he
theorem s_pass : PS X (.Pass pos) (CS.nil.t G W) := ps_pass
theorem s_ite (hc : PT X c (tc.t G W)) (ha : PSs X body (sa.t G W)) (hb : PSs X els (sb.t G W)) : PS X (.If c body els pos) ((CS.ite tc sa sb).t G W) := ps_if hc ha hb
theorem s_whl {n : Nat} (hp : PassesOwn (model X.prog X.w) X.A X.env X.xe) (hc : PT X c (tc.t G W)) (hb : PSs X body (sb.t G W)) : PS X (.While c body [] pos) ((CS.whl n tc sb).t G W) := ps_while hp hc hb
theorem s_for {iter : Expr} {src : CI} {g : CG} (o : Ok X G W) (hp : PassesOwn (model X.prog X.w) X.A X.env X.xe) (hi : PI X tg iter (src.t G W)) (hg : PG X tg (g.t G)) (hb : PSs X body (sb.t G W)) (hs : ∀ x, foldedSetIterable iter X.env x = pure x := by intro _; rfl) :
    PS X (.For tg iter body [] pos) ((CS.for src g sb).t G W) := ps_for hp o.calm hi hg hb hs
/-- the k-th class as the text has it: without an __init__ of its own, over ValueError -/
structure ExcCls (K : PySem.W.Frag) (mg : Str → Option Value) (x : Str) (C : Addr) (bm : List Value) : Prop where
  gC : mg x = some (.ref C)
  xC : PySem.W.excIn K C bm "ValueError.__new__" = true
  kC : PySem.W.keepIn K (.ref C) = true
  bC : PySem.W.subIn K (.ref C) (.type "BaseException") = some true
  tC : PySem.W.typeIn K (.ref C) = some (.type "type")
theorem s_raise {x m : Str} {j k : Nat} {p2 pos2 : Pos} (o : Ok X G W) (q : ExcCls X.K X.mg x (G.cls k) HandSPX.veTail) (hg : Gl X x := by rfl) (hdb : (x == ("__debug__" : Str)) = false := by decide) :
    PS X (.Raise (some (.Call (.Name x p) [.Constant (.str m) j p2] [] pos)) none pos2) ((CS.raise k).t G W) := ps_raise o.calm o.tk (pmk_own PySem.F.excBase_ValueError q.xC q.gC q.kC (raises_own q.bC q.tC) hg hdb)
end
end FD
set_option Elab.async false
set_option linter.all false
set_option maxRecDepth 100000
set_option maxHeartbeats 4000000
noncomputable section
namespace FD
open PySem L2 PyProof.Rows

/-! ### a def by its body -/
def args (ds : List D) (n : Nat) : Env := ds.map (fun d => some (Sl.im d)) ++ List.replicate (n - ds.length) none
def runF (b : CS) (n : Nat) (ds : List D) : RF := match b.ev (args ds n) with
  | .nx _ => .ok .none
  | .rt d _ => .ok d
  | .err k _ => .err k
  | .bad => .bad
def runM (b : CS) (n : Nat) (o : OD) (ds : List D) : RM := match b.ev (some (Sl.ow o) :: args ds (n - 1)) with
  | .nx e => match Env.ow e 0 with
    | some o' => .ok .none o'
    | none => .bad
  | .rt d e => match Env.ow e 0 with
    | some o' => .ok d o'
    | none => .bad
  | .err k e => match Env.ow e 0 with
    | some o' => .err k o'
    | none => .bad
  | .bad => .bad
theorem slOk_none {G : Gm} {I H : Hp} : ∀ n : Nat, SlOk G I H (List.replicate n none) (List.replicate n none) []
  | 0 => .nil
  | n + 1 => .skip (slOk_none n)
theorem slOk_args {G : Gm} {I H : Hp} : ∀ {vs : List V} {ds : List D}, Reps G I vs ds → ∀ n : Nat, SlOk G I H (vs.map some ++ List.replicate n none) (ds.map (fun d => some (Sl.im d)) ++ List.replicate n none) []
  | _, _, .nil, n => slOk_none n
  | _, _, .cons h r, n => .im h (slOk_args r n)
theorem run_ok {G : Gm} {n m : Nat} {b : CS} {vs : List V} {H : Hp} {Q : VK} {E : XK} (h : spOf G n (runF b m) vs H Q E) : b.t G (fun cls d _ H => E cls d H) { nx := fun _ H' => Q .non H', rt := Q } (vs.map some ++ List.replicate (m - vs.length) none) H := by
  obtain ⟨hl, I, ds, e, r, h⟩ := h
  have nw : ∀ {σ' : L2.St} {env' : Env} {H' I' : Hp}, Sim G ⟨H, I, [], none⟩ σ' env' H' I' → Ex I I' ∧ Ex I' H' ∧ (∀ b o, I' b = some o → I b = none → H b = none) ∧ Ex H H' := fun S => ⟨S.i0, S.ih, S.fr, fun b o h => S.keep b o h (by intro z; cases z)⟩
  have S : Sim G ⟨H, I, [], none⟩ (vs.map some ++ List.replicate (m - vs.length) none) (args ds m) H I := by
    refine ⟨Ex.refl _, e, (fun b o h1 h2 => absurd (h1.symm.trans h2) (by simp)), fun _ _ h _ => h, fun b hb => (by cases hb), ⟨[], ?_, List.nodup_nil, fun a ha => (by cases ha)⟩, fun i a ds' h => ?_, fun w hw => (by cases hw)⟩
    · unfold args
      rw [r.length]
      exact slOk_args r _
    · exfalso
      unfold args at h
      have := List.mem_of_getElem? h
      rcases List.mem_append.mp this with z | z
      · obtain ⟨d, _, z⟩ := List.mem_map.mp z
        cases z
      · have := List.eq_of_mem_replicate z
        cases this
  refine b.ok S ?_
  unfold runF at h
  cases q : b.ev (args ds m) with
  | nx e' =>
    rw [q] at h
    intro σ' H' I' S' _
    obtain ⟨h1, h2, h3, h4⟩ := nw S'
    exact h .non H' I' h1 h2 h3 h4 .non
  | rt d e' =>
    rw [q] at h
    intro v σ' H' I' S' r'
    obtain ⟨h1, h2, h3, h4⟩ := nw S'
    exact h v H' I' h1 h2 h3 h4 r'
  | err k e' =>
    rw [q] at h
    intro σ' H' I' S' _
    exact h H' (nw S').2.2.2
  | bad => rw [q] at h; exact h.elim
theorem runM_ok {G : Gm} {n m : Nat} {b : CS} {vs : List V} {H : Hp} {Q : VK} {E : XK} (h : spOfM G n (runM b m) vs H Q E) : b.t G (fun cls d _ H => E cls d H) { nx := fun _ H' => Q .non H', rt := Q } (vs.map some ++ List.replicate (m - vs.length) none) H := by
  obtain ⟨hl, I, v0, ws, ds, o, bs, rfl, e, r, ow, kd, nd, fb, h⟩ := h
  unfold runM at h
  have S : Sim G ⟨H, I, bs, some v0⟩ ((v0 :: ws).map some ++ List.replicate (m - (v0 :: ws).length) none) (some (Sl.ow o) :: args ds (m - 1)) H I := by
    refine ⟨Ex.refl _, e, (fun b o h1 h2 => absurd (h1.symm.trans h2) (by simp)), fun _ _ h _ => h, fun b hb => ow.live b hb, ⟨bs ++ [], ?_, by simpa using nd, fun a ha => ?_⟩, fun i a ds' h h' => ?_, fun w hw => ?_⟩
    · refine .ow ow ?_
      have e1 : m - (v0 :: ws).length = m - 1 - ds.length := by rw [List.length_cons, r.length]; omega
      rw [e1]
      exact slOk_args r _
    · have ha : a ∈ bs := by simpa using ha
      exact ⟨fb a ha, .inl ha⟩
    · exfalso
      cases i with
      | zero => simp at h; subst h; exact kd rfl
      | succ i =>
        unfold args at h
        have h : (ds.map (fun d => some (Sl.im d)) ++ List.replicate (m - 1 - ds.length) none)[i]? = some (some (Sl.ow (OD.lst ds'))) := by simpa using h
        have := List.mem_of_getElem? h
        rcases List.mem_append.mp this with z | z
        · obtain ⟨d, _, z⟩ := List.mem_map.mp z
          cases z
        · have := List.eq_of_mem_replicate z
          cases this
    · cases hw
      exact ⟨o, rfl, kd, rfl, ow⟩
  have nw : ∀ {σ' : L2.St} {env' : Env} {H' I' : Hp}, Sim G ⟨H, I, bs, some v0⟩ σ' env' H' I' → ∀ o', Env.ow env' 0 = some o' → Ex I I' ∧ Ex I' H' ∧ (∀ b o, I' b = some o → I b = none → H b = none) ∧ (∀ b x, H b = some x → b ∉ bs → H' b = some x) ∧ Own G I' H' v0 o' bs := fun S o' ho => by
    obtain ⟨o1, q1, q2, q3, q4⟩ := S.s0 v0 rfl
    rw [Env.ow_eq ho] at q1
    cases q1
    exact ⟨S.i0, S.ih, S.fr, S.keep, q4⟩
  refine b.ok S ?_
  cases q : b.ev (some (Sl.ow o) :: args ds (m - 1)) with
  | nx e' =>
    rw [q] at h
    cases q0 : Env.ow e' 0 with
    | none => simp only [q0] at h; 
    | some o' =>
      simp only [q0] at h
      intro σ' H' I' S' _
      obtain ⟨h1, h2, h3, h4, h5⟩ := nw S' o' q0
      exact h .non H' I' h1 h2 h3 h4 h5 .non
  | rt d e' =>
    rw [q] at h
    cases q0 : Env.ow e' 0 with
    | none => simp only [q0] at h; 
    | some o' =>
      simp only [q0] at h
      intro v σ' H' I' S' r'
      obtain ⟨h1, h2, h3, h4, h5⟩ := nw S' o' q0
      exact h v H' I' h1 h2 h3 h4 h5 r'
  | err k e' =>
    rw [q] at h
    cases q0 : Env.ow e' 0 with
    | none => simp only [q0] at h; 
    | some o' =>
      simp only [q0] at h
      intro σ' H' I' S' _
      obtain ⟨h1, h2, h3, h4, h5⟩ := nw S' o' q0
      exact h H' I' h1 h2 h3 h4 h5
  | bad => rw [q] at h; exact h.elim
section
variable {P : Program} {w : World} {K : PySem.W.Frag} {mg : Str → Option Value} {base : Heap}
theorem ok_cx {qual : Str} {st : Stmt} {f : Addr} {N ps : List Str} {k : Nat} {G : Gm} {cdv : Value} {A : Around} {outer : List PySem.Env} {s : Shared} {H : Hp} {E : XK} (S : FnScope N ps (defScope st)) (hG : K = G.K) (hr : Room k (A.deeper (envOfC qual (defScope st) s.heap.objs.size f cdv))) :
    Ok (cxOf (L2.CX P w) P w K mg base N qual (defScope st) f cdv A outer s H E) G (fun cls d _ H => E cls d H) :=
  ⟨hG, takes_of rfl rfl rfl rfl, rfl, hr.units, S.nd⟩
/-- a def's body as the text has it reads so -/
def BodyIs (P : Program) (w : World) (K : PySem.W.Frag) (mg : Str → Option Value) (base : Heap) (G : Gm) (k : Nat) (N : List Str) (qual : Str) (st : Stmt) (f : Addr) (t : WX → TS) : Prop :=
  ∀ (cdv : Value) (A : Around) (outer : List PySem.Env) (s : Shared) (H : Hp) (E : XK), Room k (A.deeper (envOfC qual (defScope st) s.heap.objs.size f cdv)) →
    Ok (cxOf (L2.CX P w) P w K mg base N qual (defScope st) f cdv A outer s H E) G (fun cls d _ H => E cls d H) →
    PassesOwn (model P w) (cxOf (L2.CX P w) P w K mg base N qual (defScope st) f cdv A outer s H E).A (cxOf (L2.CX P w) P w K mg base N qual (defScope st) f cdv A outer s H E).env (cxOf (L2.CX P w) P w K mg base N qual (defScope st) f cdv A outer s H E).xe →
    PSs (cxOf (L2.CX P w) P w K mg base N qual (defScope st) f cdv A outer s H E) (defBody st) (t (fun cls d _ H => E cls d H))
theorem BodyIs.is {qual : Str} {st : Stmt} {f : Addr} {N ps : List Str} {k : Nat} {G : Gm} {t : WX → TS} (h : BodyIs P w K mg base G k N qual st f t) (S : FnScope N ps (defScope st)) (hG : K = G.K) (cdv : Value) (A : Around) (outer : List PySem.Env) (s : Shared) (H : Hp) (E : XK)
    (hr : Room k (A.deeper (envOfC qual (defScope st) s.heap.objs.size f cdv))) : PSs (cxOf (L2.CX P w) P w K mg base N qual (defScope st) f cdv A outer s H E) (defBody st) (t (fun cls d _ H => E cls d H)) :=
  h cdv A outer s H E hr (ok_cx S hG hr) (passes_of rfl)
theorem fn_run {x qual : Str} {st : Stmt} {f : Addr} {fd : FuncData} {N ps : List Str} {k n : Nat} {b : CS} {G : Gm} (hG : K = G.K) (F : Fun K x qual st f fd) (S : FnScope N ps (defScope st)) (hn : ps.length = n) (h : BodyIs P w K mg base G k N qual st f (b.t G)) :
    FnOk P w K mg base (L2.CX P w) (k + 1) f fd ps (spOf G n (runF b N.length)) :=
  F.okX S (fun vs H Q E h => by rw [hn]; exact h.1) fun cdv A outer s H vs Q E hr hsp => ⟨_, h.is S hG cdv A outer s H E hr, run_ok hsp⟩
theorem fn_runM {x qual : Str} {st : Stmt} {f : Addr} {fd : FuncData} {N ps : List Str} {k n : Nat} {b : CS} {G : Gm} (hG : K = G.K) (F : Fun K x qual st f fd) (S : FnScope N ps (defScope st)) (hn : ps.length = n + 1) (h : BodyIs P w K mg base G k N qual st f (b.t G)) :
    FnOk P w K mg base (L2.CX P w) (k + 1) f fd ps (spOfM G n (runM b N.length)) :=
  F.okX S (fun vs H Q E h => by rw [hn]; exact h.1) fun cdv A outer s H vs Q E hr hsp => ⟨_, h.is S hG cdv A outer s H E hr, runM_ok hsp⟩
end
end FD
set_option Elab.async false
set_option linter.all false
set_option maxRecDepth 100000
set_option maxHeartbeats 4000000
noncomputable section
namespace FD
open PySem L2 PyProof.Rows

/-! ### try .. except X as n: c = n, the exception kept -/
section
variable {X : Cx} {pins : List (Addr × Obj)} {σ : L2.St} {H : Hp} {s : Shared}
/-- an object that stands, not tracked so far, is tracked from here on -/
theorem track {a : Addr} {o : HO} (I : Inv X pins σ H s) (h0 : X.s_0.heap.get? a = none) (hn : H a = none) (nL : a ≠ X.env.locals) (nc : ∀ x c, X.env.cells.lookup x = some c → c ≠ a) (np : ∀ p ∈ X.pn ++ pins, p.1 ≠ a)
    (new : ObjOk X.prog X.w (upd H a o) s.heap a o) : Inv X pins σ (upd H a o) s where
  ok := I.ok
  os := I.os
  bare := I.bare
  base := ⟨I.base.keep, I.base.slot, fun b u e n x => (by rw [upd_ne (fun z => by rw [z, h0] at e; cases e)]; exact I.base.free b u e n x), I.base.there,
    fun b xs e => (by have q := I.base.tups b xs e; rw [upd_ne (ne_of_none q hn)]; exact q),
    fun b u v e => (by have q := I.base.frzs b u v e; rw [upd_ne (ne_of_none q hn)]; exact q),
    fun b ps e => (by obtain ⟨m, q⟩ := I.base.tbls b ps e; exact ⟨m, by rw [upd_ne (ne_of_none q hn)]; exact q⟩)⟩
  loc := I.loc
  cell := I.cell
  free := by rw [upd_ne (Ne.symm nL)]; exact I.free
  freeC := fun x c e => by rw [upd_ne (nc x c e)]; exact I.freeC x c e
  pin := fun p hp => by obtain ⟨e, n, r⟩ := I.pin p hp; exact ⟨e, by rw [upd_ne (np p hp)]; exact n, r⟩
  hok := HOk.laidN I.hok (fun _ _ e => e) hn new
  len := I.len
end
def wKeep (K : PySem.W.Frag) (c : Value) (i j : Nat) (D : Ends) : WX := fun cls d σ H => d = none ∧ PySem.W.exmOne K cls c = some true ∧ ∀ a, H a = none → D.nx ((σ.set j (some (.ref a))).set i none) (upd H a (ExK cls a))
/-- what becomes of an exception u that leaves a try's body -/
def met (X : Cx) (hs : List ExceptHandler) (R : Flow → Shared → Prop) (u : Value) (s : Shared) : Prop :=
  wpAny (model X.prog X.w) X.A (noteFrame u X.env)
    (fun _ s2 => wpAny (model X.prog X.w) X.A (setFlight u none)
      (fun _ s3 => wpAny (model X.prog X.w) X.A (handleBy u X.env hs) R X.xe s3) X.xe s2) X.xe s
theorem met_keep {X : Cx} {x n : Str} {c : Value} {i j : Nat} {suite : List Stmt} {b0 : Stmt} {np pos' : Pos} {pins : List (Addr × Obj)} {D : Ends}
    (ok : X.Ok) (hst : X.stack = X.env :: X.outer) (hf : X.env.frame = some X.env.locals) (hex : X.ex = []) (hN : X.N.Nodup) (hi : X.N[i]? = some n) (hln : X.env.kindOf n = some .local) (hij : i ≠ j) (hc : Names X x c)
    (hsu : ∀ (a : Addr) (oe : Obj) (pn : List (Addr × Obj)), PSs (X.suite a ((a, oe) :: pn)) (b0 :: suite) (tAsg (tVar i) (gName j)))
    (u : Value) (s' : Shared) (hx : XE (X.tr (X.pn ++ pins) (met X [.ExceptHandler (some (.Name x np)) (some n) (b0 :: suite) pos'] (SP X pins D))) (wKeep X.K c i j D) u s') :
    met X [.ExceptHandler (some (.Name x np)) (some n) (b0 :: suite) pos'] (SP X pins D) u s' := by
  obtain ⟨a, B, sI, pins', σ', H', cls, d, hu, J', nb, up, sky, na, hos, ag, hd, hm, hk⟩ := hx
  subst hu
  subst hd
  have J : Inv X pins σ' H' sI := J'.ofTry ok
  have frames : X.A.frames = some (X.env :: X.outer) := by rw [ok.frames, hst]
  have sky1 : Sky B (X.env :: X.outer) a (Zc cls none) X.env.locals s'.heap := by rw [← hst]; exact sky
  unfold met
  refine Sky.land Zc.steady frames hf sky1 fun hA fly upA => ?_
  obtain ⟨o1, v1, g1, z1, d1⟩ := fly.there
  have JA : Inv X pins σ' H' { s' with heap := hA } := J.landed nb fly.1 (up.trans upA) hos ag
  -- a is none of the frames, nor did it stand when the body was entered
  have far : a ∉ frs (X.env :: X.outer) := fun hm => by
    obtain ⟨_, o2, g2, nf⟩ := fly.2.2.1.mem hm
    rw [g1] at g2
    cases g2
    exact nf _ d1
  have nL : a ≠ X.env.locals := fun z => far (List.mem_filterMap.mpr ⟨X.env, List.mem_cons_self, by rw [hf, z]⟩)
  have nF : a ∉ X.fs := fun h => by
    obtain ⟨e, he, q⟩ := List.mem_filterMap.mp h
    exact far (List.mem_filterMap.mpr ⟨e, List.mem_cons_of_mem _ he, q⟩)
  have gI : sI.heap.get? a = none := by
    cases q : sI.heap.get? a with
    | none => rfl
    | some o2 =>
      have z := nb a o2 q (by rw [hst]; exact far)
      rw [fly.2.1] at z
      cases z
  have g0 : X.s_0.heap.get? a = none := by
    cases q : X.s_0.heap.get? a with
    | none => rfl
    | some o2 =>
      obtain ⟨o3, z⟩ := J.base.there a o2 q (by rw [hex]; exact fun z => nomatch z)
      rw [gI] at z
      cases z
  have nc : ∀ y k, X.env.cells.lookup y = some k → k ≠ a := fun y k e z => by
    obtain ⟨_, o2, g2, _⟩ := J.cell y k e
    rw [z, gI] at g2
    cases g2
  have npin : ∀ p ∈ X.pn ++ pins, p.1 ≠ a := fun p hp z => by
    have g2 := (J.pin p hp).1
    rw [z, gI] at g2
    cases g2
  have SA := JA.suite g1 d1 na nL nF
  refine wpAny_handleBy_cons (codeAny_handlers_test ?_) (fun q => nomatch q)
  have ty : PySem.W.Looks (model X.prog X.w) hA (typeOf (.ref a)) cls := fun A Q E s k q => wpAny_typeOf_ref (k _ _ g1) (by rw [z1.1]; exact q)
  have yes := PySem.W.exm_one (M := model X.prog X.w) (JA.kIn) ty hm
  have nm : ∀ {Q : Value → Shared → Prop} {E : Value → Shared → Prop}, Q c { s' with heap := hA } → wpAny (model X.prog X.w) (X.A.mark (some (.ref a))) (eval (.Name x np) X.env) Q E { s' with heap := hA } := by
    intro Q E q
    obtain ⟨k1, k2, k3⟩ := hc
    rcases k3 with k3 | ⟨k3, k4, k5⟩
    · exact ld_glob (X := X.suite a ((a, o1) :: (X.pn ++ pins))) SA k1 k3 q k2
    · exact ld_blt (X := X.suite a ((a, o1) :: (X.pn ++ pins))) SA k1 k3 k4 q k5 k2
  refine nm (yes.here ?_)
  refine codeAny_handlers_suite_as ?_
  refine HandSPX.lands_againZ fly fun hB flyB upB => ?_
  obtain ⟨o2, v2, g2, z2, d2⟩ := flyB.there
  have JB : Inv X pins σ' H' { s' with heap := hB } := J.landed nb flyB.1 ((up.trans upA).trans upB) hos ag
  have SB := JB.suite g2 d2 na nL nF
  refine store_ok (X := X.suite a ((a, o2) :: (X.pn ++ pins))) (v := .ref a) SB hN hi (.inl hln) rfl (fun sC SC => ?_) (.inr hln)
  have hi' : i < σ'.length := by rw [J.len]; exact (List.getElem?_eq_some_iff.mp hi).1
  let D' : Ends := { nx := fun σ2 H2 => σ2 = (σ'.set i (some (.ref a))).set j (some (.ref a)) ∧ H2 = H', rt := fun _ _ => False }
  have go := (hsu a o2 (X.pn ++ pins)).run [] sC (σ'.set i (some (.ref a))) H' D' SC ⟨.ref a, by rw [List.getElem?_set_self hi'], rfl, rfl⟩
  refine wpAny_mono go (fun f sD hsp => ?_) (fun _ _ z => False.elim z)
  cases f with
  | next =>
    obtain ⟨σ6, H6, S6, q1, q2⟩ := hsp
    subst q1 q2
    have pinA := (S6.pin (a, o2) (List.mem_append_left _ List.mem_cons_self)).1
    have S7 : Inv X pins _ H6 sD := S6.unsuite ok
    have S8 : Inv X pins _ (upd H6 a (ExK cls a)) sD := track S7 g0 na nL nc npin ⟨⟨o2, v2, pinA, z2, d2⟩, ⟨o2, pinA⟩, fun _ _ ⟨o, v, q, r⟩ k => ⟨o, v, k o q, r⟩⟩
    show wpAny _ _ _ _ _ _
    refine gone_ok S8 hN hi hln fun sE S9 => ⟨_, _, S9, ?_⟩
    rw [List.set_comm _ _ hij, List.set_set]
    exact hk a na
  | brk => obtain ⟨σ6, H6, S6, q6⟩ := hsp; exact False.elim q6
  | cont => obtain ⟨σ6, H6, S6, q6⟩ := hsp; exact False.elim q6
  | ret u => obtain ⟨v6, σ6, H6, S6, r6, q6⟩ := hsp; exact False.elim q6
theorem s_tryR {X : Cx} {x n : Str} {c : Value} {i j : Nat} {body suite : List Stmt} {b0 : Stmt} {np pos pos' : Pos} {tb : WX → TS}
    (hst : X.stack = X.env :: X.outer) (hf : X.env.frame = some X.env.locals) (hex : X.ex = []) (hN : X.N.Nodup) (hi : X.N[i]? = some n) (hln : X.env.kindOf n = some .local) (hij : i ≠ j) (hc : Names X x c)
    (hb : ∀ (W : WX) (pn : List (Addr × Obj)) (xe : Value → Shared → Prop), Takes (X.tr pn xe) W → PassesOwn (model X.prog X.w) X.A X.env xe → PSs (X.tr pn xe) body (tb W))
    (hsu : ∀ (a : Addr) (oe : Obj) (pn : List (Addr × Obj)), PSs (X.suite a ((a, oe) :: pn)) (b0 :: suite) (tAsg (tVar i) (gName j))) :
    PS X (.Try body [.ExceptHandler (some (.Name x np)) (some n) (b0 :: suite) pos'] [] [] pos) (fun D σ H => tb (wKeep X.K c i j D) D σ H) := by
  constructor
  intro pins s σ H D I hbody
  have ok := I.ok
  apply wpAny_Try_except
  have start := (hb (wKeep X.K c i j D) (X.pn ++ pins) (met X [.ExceptHandler (some (.Name x np)) (some n) (b0 :: suite) pos'] (SP X pins D))
    (met_keep ok hst hf hex hN hi hln hij hc hsu) PassesOwn.looking).run [] s σ H D (I.toTry _) hbody
  refine wpAny_mono start (fun f s1 q => ?_) (fun _ _ z => z)
  cases f with
  | next => obtain ⟨σ1, H1, J, q⟩ := q; exact wpAny_execs_nil ⟨σ1, H1, J.ofTry ok, q⟩
  | brk => obtain ⟨σ1, H1, J, q⟩ := q; exact ⟨σ1, H1, J.ofTry ok, q⟩
  | cont => obtain ⟨σ1, H1, J, q⟩ := q; exact ⟨σ1, H1, J.ofTry ok, q⟩
  | ret u => obtain ⟨v, σ1, H1, J, r, q⟩ := q; exact ⟨v, σ1, H1, J.ofTry ok, r, q⟩

/-- the classes of this program: what isinstance and except say of them -/
structure ExFacts (G : Gm) : Prop where
  c : ∀ k, k < 5 → ExcC G.K (G.cls k)
  kit : ∀ k j, k < 5 → j < 6 → PySem.W.kitOne G.K (.ref (G.cls k)) (.ref (G.cls j)) = some (decide (k = j) || decide (j = 5))
  ve : ∀ k, k < 5 → PySem.W.kitOne G.K (.ref (G.cls k)) (.type "ValueError") = some true
  exm : ∀ k, k < 5 → PySem.W.exmOne G.K (.ref (G.cls k)) (.ref (G.cls 5)) = some true

theorem Sim.clear' {G : Gm} {B : Bs} {σ : L2.St} {env : Env} {H I : Hp} (S : Sim G B σ env H I) {i : Nat} (o : Option V) (hc : canSet env i = true) : Sim G B (σ.set i o) (env.set i none) H I := by
  obtain ⟨as, s1, s2, s3⟩ := S.sl
  obtain ⟨as', h1, h2⟩ := s1.clear i o
  refine ⟨S.i0, S.ih, S.fr, S.keep, S.live, ⟨as', h1, h2.nodup s2, fun a ha => s3 a (h2.subset ha)⟩, fun j a ds z1 z2 => ?_, fun w hw => ?_⟩
  · by_cases hj : j = i
    · subst hj
      rw [List.getElem?_set_self (canSet_lt hc)] at z1
      cases z1
    · rw [List.getElem?_set_ne (Ne.symm hj)] at z1 z2
      exact S.lo j a ds z1 z2
  · obtain ⟨o, q1, q2, q3, q4⟩ := S.s0 w hw
    have hn : i ≠ 0 := fun z => by subst z; exact q2 (canSet_kind hc q1)
    exact ⟨o, by rw [List.getElem?_set_ne hn]; exact q1, q2, by rw [List.getElem?_set_ne hn]; exact q3, q4⟩
/-- try: b except DigitError as n: c = n; n at slot i, c at slot j -/
def CS.tryK (i j : Nat) (b : CS) : CS where
  t := fun G W D σ H => ExFacts G → b.t G (wKeep G.K (.ref (G.cls 5)) i j D) D σ H
  ev := fun env => match b.ev env with
    | .nx e => .nx e
    | .rt d e => .rt d e
    | .err k e => if lk (decide (k < 5)) && canSet e j && canSet (e.set j (some (.im (exc k)))) i then .nx ((e.set j (some (.im (exc k)))).set i none) else .bad
    | .bad => .bad
  ok := fun {G B σ env H I W D} S P EF => b.ok S (by
    cases q : b.ev env with
    | nx e => rw [q] at P; exact P
    | rt d e => rw [q] at P; exact P
    | bad => rw [q] at P; exact P
    | err k e =>
      simp only [q] at P
      split at P
      · rename_i hc
        rw [Bool.and_eq_true, Bool.and_eq_true] at hc
        have hk := of_lk hc.1.1
        intro σ' H' I' S' e1
        refine ⟨rfl, EF.exm k hk, fun a ha => ?_⟩
        obtain ⟨S2, e2⟩ := S'.alloc (o := ExK (.ref (G.cls k)) a) ha
        have S3 := S2.setIm (i := j) (d := exc k) (Rep.exc upd_same) hc.1.2
        exact P _ _ _ (S3.clear' none hc.2) (e1.trans e2)
      · exact P.elim)
theorem s_try {X : Cx} {G : Gm} {W : WX} {x n cn : Str} {i j : Nat} {body : List Stmt} {np pos pos' p1 p2 p3 : Pos} {sb : CS} (o : Ok X G W) (EF : ExFacts G) (gd : X.mg x = some (.ref (G.cls 5)))
    (hb : ∀ (W : WX) (pn : List (Addr × Obj)) (xe : Value → Shared → Prop), Ok (X.tr pn xe) G W → PassesOwn (model X.prog X.w) X.A X.env xe → PSs (X.tr pn xe) body (sb.t G W))
    (hst : X.stack = X.env :: X.outer := by rfl) (hf : X.env.frame = some X.env.locals := by rfl) (hex : X.ex = [] := by rfl) (hi : X.N[i]? = some n := by rfl) (hj : X.N[j]? = some cn := by rfl) (hln : X.env.kindOf n = some .local := by rfl) (hij : i ≠ j := by decide)
    (hg : Gl X x := by rfl) (hdb : (x == ("__debug__" : Str)) = false := by decide) (hv : Vis X.env.scope n := by first | exact Or.inl rfl | exact Or.inr (Or.inl rfl) | exact Or.inr (Or.inr rfl))
    (hl : Loc X.env.scope cn := by first | exact Or.inl rfl | exact Or.inr rfl) (hfn : X.fn cn = true ∨ X.env.scope.names.lookup cn = some .local := by first | exact .inl rfl | exact .inr rfl | assumption)
    (hd1 : (n == ("__debug__" : Str)) = false := by decide) (hd2 : (n == ("__classdict__" : Str)) = false := by decide)
    (hs : swapsWith (.Name n p2) (some (.Name cn p1)) p3.line X.env = pure false := by rfl) :
    PS X (.Try body [.ExceptHandler (some (.Name x np)) (some n) [.Assign [.Name cn p1] (.Name n p2) p3] pos'] [] [] pos) ((CS.tryK i j sb).t G W) := by
  have h := s_tryR (X := X) (np := np) (pos := pos) (pos' := pos') (tb := sb.t G) (suite := []) (b0 := .Assign [.Name cn p1] (.Name n p2) p3) hst hf hex o.nd hi hln hij ⟨hg, hdb, .inl gd⟩
    (fun W' pn xe tk hp => hb W' pn xe ⟨o.hK, tk, o.calm, o.hu, o.nd⟩ hp)
    (fun a oe pn => pss_one (ps_set (X := X.suite a ((a, oe) :: pn)) o.nd hj hl (pe_var hi hv hd1 hd2) hs hfn))
  refine ⟨fun pins s σ H D I q => h.run pins s σ H D I ?_⟩
  rw [o.hK]
  exact q EF

/-! ### isinstance of a caught exception -/
def excOf : D → Option Nat
  | .dict [(.none, .int k)] => some k.toNat
  | _ => none
theorem excOf_exc (k : Nat) : excOf (exc k) = some k := rfl
def rIsX (K : PySem.W.Frag) : List V → Hp → VK → Prop := fun xs H Q => ∃ (a D : Addr) (c : V) (cv : Value) (b : Bool), xs = [.ref a, c] ∧ H a = some (ExK (.ref D) a) ∧ ExcC K D ∧ ClsV c cv ∧ PySem.W.kitOne K (.ref D) cv = some b ∧ Q (.bl b) H
theorem call_isX {X : Cx} : CallR X (.builtin "isinstance") (rIsX X.K) := by
  intro pins s σ H xs us Q I r h
  obtain ⟨a, D, c, cv, b, rfl, ha, C, kc, e, q⟩ := h
  obtain ⟨u1, u2, rfl, r1, r2⟩ := vals2 r
  have e2 := kc.eq r2
  subst e2
  cases r1
  obtain ⟨⟨oe, vs, g, z, d⟩, _, _⟩ := I.hok a _ ha
  have J : PySem.W.InstAt s.heap a oe D none := by
    obtain ⟨oc, od, oda, osl⟩ := oe
    obtain ⟨z1, z2⟩ := z
    dsimp only at z1 z2 d
    subst z1 z2 d
    exact ⟨g, rfl, rfl, trivial⟩
  exact PySem.W.kia_one (PySem.W.handS_kitx_exc C.hg C.hk C.hs C.hd C.ha C.hn C.ht C.hm) I.kIn J e (fun z => nomatch z) fun tk => ⟨.bl b, H, I.kept (t' := tk) fun _ _ z => z, rfl, q⟩
/-- the j-th class of the program as a value (5: DigitError; 6: ValueError) -/
def clsVal (G : Gm) (j : Nat) : V := if j = 6 then .ty "ValueError" else .ref (G.cls j)
def CE.isEx (j : Nat) (a : CE) : CE where
  t := fun G W σ H Q => ExFacts G → tCB (rIsX G.K) (tCons (a.t G W) (tCons (tC (clsVal G j)) tNil)) σ H Q
  ev := fun env => (a.ev env).bind fun x e1 => match excOf x with
    | some k => if lk (decide (k < 5)) && lk (decide (j < 7)) then .ok (.bool (decide (k = j) || decide (j = 5) || decide (j = 6))) e1 else .bad
    | none => .bad
  ok := fun {G B σ env H I W Q} S P EF => a.ok S (Post.bind P fun x e1 v H1 I1 S1 ex1 r1 P1 => by
    cases r1 with
    | @exc ad k h =>
      have P1' : Post G B σ W (Rep G) I1 Q (if lk (decide (k < 5)) && lk (decide (j < 7)) then .ok (.bool (decide (k = j) || decide (j = 5) || decide (j = 6))) e1 else .bad) := P1
      split at P1'
      · rename_i c
        rw [Bool.and_eq_true] at c
        have hk := of_lk c.1
        have hj := of_lk c.2
        by_cases j6 : j = 6
        · subst j6
          refine ⟨ad, G.cls k, .ty "ValueError", .type "ValueError", true, rfl, S1.ih _ _ h, EF.c k hk, .ty _, EF.ve k hk, ?_⟩
          have := P1' (.bl true) H1 I1 S1 (Ex.refl _)
          simp only [decide_true, Bool.or_true] at this
          exact this (.bl true)
        · refine ⟨ad, G.cls k, clsVal G j, .ref (G.cls j), (decide (k = j) || decide (j = 5)), rfl, S1.ih _ _ h, EF.c k hk, ?_, EF.kit k j hk (by omega), ?_⟩
          · unfold clsVal
            rw [if_neg j6]
            exact .own _
          · have := P1' (.bl (decide (k = j) || decide (j = 5))) H1 I1 S1 (Ex.refl _)
            simp only [j6, decide_false, Bool.or_false] at this
            exact this (.bl _)
      · exact P1'.elim
    | _ => exact P1.elim)
  pu := a.pu
  pok := fun p env d env' h => by
    obtain ⟨x, e1, h1, h⟩ := R.bind_eq_ok h
    split at h
    · split at h
      · cases h; exact a.pok p _ _ _ h1
      · cases h
    · cases h
section
variable {X : Cx} {G : Gm} {W : WX} {a b e : Expr} {ca cb : CE} {pos p apos : Pos}
theorem PE.under {t : TE} {c : Prop} (hc : c) (h : PE X e t) : PE X e (fun σ H Q => c → t σ H Q) := ⟨fun pins s σ H Q I q => h.run pins s σ H Q I (q hc)⟩
theorem j_isEx {p p2 : Pos} {j : Nat} {x : Str} (o : Ok X G W) (EF : ExFacts G) (hm : X.mg "isinstance" = none) (hx : PE X (.Name x p2) (tC (clsVal G j))) (ha : PE X e (ca.t G W)) (hg : Gl X "isinstance" := by rfl)
    (he : starEach [e, .Name x p2] X.env = (false, eval e X.env) :: starEach [.Name x p2] X.env := by rfl) (he2 : starEach [.Name x p2] X.env = (false, eval (.Name x p2) X.env) :: starEach [] X.env := by rfl) (hpl : (backTo pos (starEach [.Name x p2] X.env)).any (·.1) = false := by rfl) :
    PE X (.Call (.Name "isinstance" p) [e, .Name x p2] [] pos) ((CE.isEx j ca).t G W) := by
  have hc : CallR X (.builtin "isinstance") (rIsX G.K) := by rw [← o.hK]; exact call_isX
  exact PE.under EF (pe_callB hc hg hm (by decide +kernel) (pa_cons ha (pa_cons hx pa_nil he2) he) (by decide) (by decide) he hpl)
theorem n_cls {j : Nat} {x : Str} (hj : j ≠ 6) (hm : X.mg x = some (.ref (G.cls j))) (hg : Gl X x := by rfl) (hd : (x == ("__debug__" : Str)) = false := by decide) : PE X (.Name x p) (tC (clsVal G j)) := by
  unfold clsVal
  rw [if_neg hj]
  exact pe_glob (v := .ref (G.cls j)) hg hm rfl hd
theorem n_ve (hm : X.mg "ValueError" = none) (hg : Gl X "ValueError" := by rfl) : PE X (.Name "ValueError" p) (tC (clsVal G 6)) :=
  pe_bltn (v := .ty "ValueError") hg hm (by decide +kernel) rfl (by decide) (by decide)

/-! ### xs.count(y), flat items -/
def rCntF (K : PySem.W.Frag) : V → List V → Hp → VK → Prop := fun x xs H Q => ∃ (a : Addr) (ys : List V) (y : V), x = .ref a ∧ xs = [y] ∧ SqL K H a ys ∧ flatV y = true ∧ ys.all flatV = true ∧ Q (.int (ys.countP fun z => eqV z y : Nat)) H
theorem count_eqU {x : V} : ∀ {xs : List V} {us : List Value}, Vals xs us → xs.all flatV = true → us.countP (eqU x) = xs.countP fun y => eqV y x
  | _, _, .nil, _ => rfl
  | y :: xs, u :: us, .cons r t, f => by
    rw [List.all_cons, Bool.and_eq_true] at f
    rw [List.countP_cons, List.countP_cons, eqU_of r f.1, count_eqU t f.2]
theorem mt_countF : MtR X "list.count" (rCntF X.K) := by
  intro pins s σ H x xs v us Q I rx rxs h
  obtain ⟨a, ys, y, rfl, rfl, hs, fy, fys, q⟩ := h
  cases rx
  obtain ⟨uy, rfl, ry⟩ := rxs.one
  obtain ⟨its, rv, ⟨⟨cls, dd, data, sl⟩, n, ho, hc, hdn, hd⟩, hlen⟩ := I.list hs
  simp only at hc hd
  subst hc hd
  refine call_meets PySem.F.slot_list_count ⟨_, ho, rfl⟩ PySem.F.entry_list_count (PySem.F.args_list_count_2 _ _)
    (SeqAt.list_countAt a its.toArray n dd sl uy (eqU y)) ⟨ho, fun u' hu' => mem_eqAt ry fy rv fys u' (by simpa using hu'), ?_⟩
  refine ⟨.int (ys.countP fun z => eqV z y : Nat), H, I.tok _, ⟨s.toks, ?_⟩, q⟩
  show Value.int ((its.toArray.toList.countP (eqU y) : Nat) : Int) s.toks = _
  rw [show its.toArray.toList = its by simp, count_eqU rv fys]
end
theorem countP_rep {G : Gm} {I : Hp} {v : V} {d : D} (r : Rep G I v d) (f : flatD d = true) : ∀ {vs : List V} {ds : List D}, Reps G I vs ds → ds.all flatD = true → (vs.countP fun z => eqV z v) = ds.countP fun y => PyData.eqv y d
  | _, _, .nil, _ => rfl
  | _, _, .cons h q, g => by
    rw [List.all_cons, Bool.and_eq_true] at g
    rw [List.countP_cons, List.countP_cons, eqV_rep h r g.1 f, countP_rep r f q g.2]
def CE.countF (a b : CE) : CE where
  t := fun G W => tBM G.K "list" (rCntF G.K) (a.t G W) (tCons (b.t G W) tNil)
  ev := fun env => (a.ev env).bind fun x e1 => match x with
    | .list ds => (b.ev e1).bind fun y e2 => if flatD y && ds.all flatD then .ok (.int (ds.countP fun z => PyData.eqv z y : Nat)) e2 else .bad
    | _ => .bad
  ok := fun {G B σ env H I W Q} S P => a.ok S (Post.bind P fun x e1 v H1 I1 S1 ex1 r1 P1 => by
    cases r1 with
    | @lst ad ws es h q =>
      refine ⟨.inl ⟨rfl, ws, sqL_fun (S1.ih _ _ h)⟩, b.ok S1 (Post.bind P1 fun y e2 w H2 I2 S2 ex2 r2 P2 => ?_)⟩
      have P2' : Post G B σ W (Rep G) I2 Q (if flatD y && es.all flatD then .ok (.int (es.countP fun z => PyData.eqv z y : Nat)) e2 else .bad) := P2
      split at P2'
      · rename_i c
        rw [Bool.and_eq_true] at c
        have q2 := q.mono ex2
        refine ⟨ad, ws, w, rfl, rfl, sqL_fun (S2.ih _ _ (ex2 _ _ h)), flat_rep r2 c.1, flat_reps q2 c.2, ?_⟩
        rw [countP_rep r2 c.1 q2 c.2]
        exact P2' _ H2 I2 S2 (Ex.refl _) (.int _)
      · exact P2'.elim
    | _ => exact P1.elim)
  pu := a.pu && b.pu
  pok := fun p env d env' h => by
    rw [Bool.and_eq_true] at p
    obtain ⟨x, e1, h1, h⟩ := R.bind_eq_ok h
    split at h
    · obtain ⟨y, e2, h2, h⟩ := R.bind_eq_ok h
      split at h
      · cases h; rw [b.pok p.2 _ _ _ h2, a.pok p.1 _ _ _ h1]
      · cases h
    · cases h
section
variable {X : Cx} {G : Gm} {W : WX} {a b e : Expr} {ca cb : CE} {pos p apos : Pos}
theorem j_countF (o : Ok X G W) (ha : PE X a (ca.t G W)) (hb : PE X b (cb.t G W))
    (hbase : attributeBase a "count" X.env (eval a X.env) = eval a X.env := by rfl)
    (hfew : ((backTo pos (starEach (b :: []) X.env)).all (fun x => !x.1) && (backToKw pos (keywordEach [] X.env)).all (fun x => x.1.isSome)
      && decide ((b :: []).length + ([] : List Keyword).length + (if ([] : List Keyword).isEmpty then 0 else 1) < 30)) = true := by rfl)
    (hline : (apos.endLine == pos.line) = true := by rfl) (hs : starEach (b :: []) X.env = (false, eval b X.env) :: starEach [] X.env := by rfl) (hplain : (backTo pos (starEach [] X.env)).any (·.1) = false := by rfl) :
    PE X (.Call (.Attribute a "count" apos) [b] [] pos) ((CE.countF ca cb).t G W) := by
  have hm : MtR X "list.count" (rCntF G.K) := by rw [← o.hK]; exact mt_countF
  exact ownE (t := fun K => tBM K "list" (rCntF G.K) (ca.t G W) (tCons (cb.t G W) tNil)) o.hK (pe_bm PySem.F.plainAttrs_list PySem.F.slot_list_count PySem.F.type_list_count hm ha (pa_cons hb pa_nil hs) hbase hfew hline hs hplain)
end
end FD
set_option Elab.async false
set_option linter.all false
set_option maxRecDepth 100000
set_option maxHeartbeats 4000000
noncomputable section
namespace FD
open PySem L2 PyProof.Rows PySem.Spec

/-! ### the laws' own draws -/
def dr (s : DrawSt) (lim : Int) : Int × DrawSt :=
  let c := s.2 + 1
  let at_ := (c % (s.1.length : Int)).toNat
  let cell := s.1.getD at_ 0
  if 1000000000000000000 ≤ cell then (cell % lim, (s.1.set at_ (cell / lim), c))
  else
    let m := (cell + 104729 * c) % 4294967291
    let m2 := m ^ (5 : Nat) % 4294967279
    (((m2 / 64 * 69621 + m2) % 4294967231) / 8 % lim, (s.1, c))
def drOk (s : DrawSt) (lim : Int) : Bool := decide (s.1 ≠ []) && decide (s.1.length ≤ 1000) && decide (0 < lim) && sm lim
theorem dr_range {s : DrawSt} {lim : Int} (h : 0 < lim) : 0 ≤ (dr s lim).1 ∧ (dr s lim).1 < lim := by
  unfold dr
  dsimp only
  split
  · exact ⟨Int.emod_nonneg _ (by omega), Int.emod_lt_of_pos _ h⟩
  · exact ⟨Int.emod_nonneg _ (by omega), Int.emod_lt_of_pos _ h⟩
theorem dr_len {s : DrawSt} {lim : Int} : (dr s lim).2.1.length = s.1.length := by
  unfold dr
  dsimp only
  split
  · simp
  · rfl
def rModE : R2 := rI (fun _ j => 0 < j) fun i j => .int (i % j)
theorem op_modE {X : Cx} : OpR X (binaryOp .Mod) rModE := by
  intro pins s σ H x y v u Q I rx ry h
  obtain ⟨i, j, rfl, rfl, hc, q⟩ := h
  refine op_modN pins s σ H (.int i) (.int j) v u Q I rx ry ⟨i, j, rfl, rfl, by omega, ?_⟩
  show Q (.int (i.fmod j)) H
  rw [Int.fmod_eq_emod_of_nonneg i (by omega)]
  exact q
/-- _law_draw: draws, limit, numbers, at, cell, mixed -/
def t_draw (G : Gm) : TS :=
  tSeq (tAsg (tOp (rIx G.K) (tVar 0) (tC (.int 0))) (gName 2))
  (tSeq (tAsg (tOp (rI0 fun i j => .int (i + j)) (tOp (rIx G.K) (tVar 0) (tC (.int 1))) (tC (.int 1))) (gSub (tVar 0) (tC (.int 1)) rSetL))
  (tSeq (tAsg (tOp rModE (tOp (rIx G.K) (tVar 0) (tC (.int 1))) (tCB (rLen G.K) (tCons (tVar 2) tNil))) (gName 3))
  (tSeq (tAsg (tOp (rIx G.K) (tVar 2) (tVar 3)) (gName 4))
  (tSeq (tIfS (tTest (tOp (rI0 fun i j => .bl (decide (j ≤ i))) (tVar 4) (tC (.int 1000000000000000000))))
      (tSeq (tAsg (tOp (rI CDivW fun i j => .int (i / j)) (tVar 4) (tVar 1)) (gSub (tVar 2) (tVar 3) rSetL))
        (tRet (tOp rModE (tVar 4) (tVar 1)))) tNext)
  (tSeq (tAsg (tOp rModE (tOp (rI0 fun i j => .int (i + j)) (tVar 4) (tOp (rI CMul fun i j => .int (i * j)) (tC (.int 104729)) (tOp (rIx G.K) (tVar 0) (tC (.int 1))))) (tC (.int 4294967291))) (gName 5))
  (tSeq (tAsg (tOp rModE (tOp (rI CPow fun i j => .int (i ^ j.toNat)) (tVar 5) (tC (.int 5))) (tC (.int 4294967279))) (gName 5))
    (tRet (tOp rModE (tOp (rI CDivW fun i j => .int (i / j)) (tOp rModE (tOp (rI0 fun i j => .int (i + j)) (tOp (rI CMul fun i j => .int (i * j)) (tOp (rI CDivW fun i j => .int (i / j)) (tVar 5) (tC (.int 64))) (tC (.int 69621))) (tVar 5)) (tC (.int 4294967231))) (tC (.int 8))) (tVar 1)))))))))
theorem atI_0 {α : Type} (x : α) (xs : List α) : atI (x :: xs) 0 = some x := by
  unfold atI ixN
  rw [if_pos (by omega), if_pos (by simp only [List.length_cons]; omega)]
  rfl
theorem atI_1 {α : Type} (x y : α) (xs : List α) : atI (x :: y :: xs) 1 = some y := by
  unfold atI ixN
  rw [if_pos (by omega), if_pos (by simp only [List.length_cons]; omega)]
  rfl
theorem small_div (j : Int) (h : 0 < j) (h2 : j.natAbs < 2 ^ 64) : CDivW 0 j := ⟨h, by
  rw [Nat.log2_lt (by omega)]
  exact Nat.lt_trans h2 (by decide +kernel)⟩
def b_draw : CS where
  t := fun G _ => t_draw G
  ev := fun env => match env with
    | [some (.ow (.draws s)), some (.im (.int lim)), none, none, none, none] => if drOk s lim then .rt (.int (dr s lim).1) [some (.ow (.draws (dr s lim).2)), some (.im (.int lim)), none, none, none, none] else .bad
    | _ => .bad
  ok := fun {G B σ env H I W D} S P => by
    split at P
    · rename_i s lim
      split at P
      · rename_i c
        unfold drOk at c
        rw [Bool.and_eq_true, Bool.and_eq_true, Bool.and_eq_true] at c
        obtain ⟨⟨⟨c1, c2⟩, c3⟩, c4⟩ := c
        have c1 := of_decide_eq_true c1
        have c2 := of_decide_eq_true c2
        have c3 := of_decide_eq_true c3
        have c4 := log2_big (of_lk c4)
        -- the slots
        obtain ⟨v0, bs, hv0, own0, nd, fb, put⟩ := S.own (i := 0) (o := .draws s) rfl
        obtain ⟨v1, hv1, rep1⟩ := S.getIm (i := 1) (d := .int lim) rfl
        cases rep1
        have hlen : σ.length = 6 := by
          obtain ⟨as, s1, _⟩ := S.sl
          exact s1.len
        obtain ⟨o2, o3, o4, o5, rfl⟩ : ∃ o2 o3 o4 o5, σ = [some v0, some (.int lim), o2, o3, o4, o5] := by
          match σ, hlen, hv0, hv1 with
          | [a0, a1, a2, a3, a4, a5], _, h0, h1 =>
            simp at h0 h1
            exact ⟨a2, a3, a4, a5, by rw [h0, h1]⟩
        cases own0 with
        | @draws d a s hd ha =>
          have hda : d ≠ a := by
            have := nd
            simp at this
            exact this
          have had : a ≠ d := fun z => hda z.symm
          have hlen1 : (s.1.map V.int).length = s.1.length := by simp
          have hpos : 0 < s.1.length := List.length_pos_iff.mpr c1
          have hne : ((s.1.length : Nat) : Int) ≠ 0 := by omega
          -- numbers = draws[0]
          refine ⟨.ref d, rfl, .inl ⟨d, _, 0, .ref a, rfl, rfl, sqL_fun hd, atI_0 _ _, ?_⟩⟩
          -- draws[1] = draws[1] + 1
          refine ⟨.ref d, rfl, .inl ⟨d, _, 1, .int s.2, rfl, rfl, sqL_fun hd, atI_1 _ _ _, _, _, rfl, rfl, .ref d, rfl, d, _, 1, 1, rfl, rfl, hd, rfl, ?_⟩⟩
          have hd1 : (upd H d (.lst [.ref a, .int (s.2 + 1)])) d = some (.lst [.ref a, .int (s.2 + 1)]) := upd_same
          have ha1 : (upd H d (.lst [.ref a, .int (s.2 + 1)])) a = some (.lst (s.1.map .int)) := by rw [upd_ne had]; exact ha
          generalize hH1 : upd H d (.lst [.ref a, .int (s.2 + 1)]) = H1 at hd1 ha1
          show (tSeq (tAsg (tOp rModE (tOp (rIx G.K) (tVar 0) (tC (.int 1))) (tCB (rLen G.K) (tCons (tVar 2) tNil))) (gName 3)) _) D [some (.ref d), some (.int lim), some (.ref a), o3, o4, o5] (upd H d (.lst [.ref a, .int (s.2 + 1)]))
          rw [hH1]
          -- at = draws[1] % len(numbers)
          refine ⟨.ref d, rfl, .inl ⟨d, _, 1, .int (s.2 + 1), rfl, rfl, sqL_fun hd1, atI_1 _ _ _, .ref a, rfl, .ref a, s.1.length, rfl, .inl ⟨_, sqL_fun ha1, hlen1.symm⟩, _, _, rfl, rfl, by omega, ?_⟩⟩
          have hk0 : 0 ≤ (s.2 + 1) % (s.1.length : Int) := Int.emod_nonneg _ hne
          have hk1 : (s.2 + 1) % (s.1.length : Int) < s.1.length := Int.emod_lt_of_pos _ (by omega)
          obtain ⟨k, hk⟩ : ∃ k : Nat, (s.2 + 1) % (s.1.length : Int) = (k : Int) := ⟨((s.2 + 1) % (s.1.length : Int)).toNat, by omega⟩
          have hkl : k < s.1.length := by omega
          dsimp only
          rw [hk]
          have hix : ixN (s.1.map V.int).length ((k : Nat) : Int) = some k := by
            unfold ixN
            rw [if_pos (by omega), if_pos (by rw [hlen1]; omega)]
            simp
          have hget : atI (s.1.map V.int) ((k : Nat) : Int) = some (.int (s.1.getD k 0)) := by
            unfold atI
            rw [hix]
            show (s.1.map V.int)[k]? = _
            rw [List.getElem?_map, List.getElem?_eq_getElem hkl, List.getD_eq_getElem?_getD, List.getElem?_eq_getElem hkl]
            rfl
          have e1 : (dr s lim) = (if 1000000000000000000 ≤ s.1.getD k 0 then (s.1.getD k 0 % lim, (s.1.set k (s.1.getD k 0 / lim), s.2 + 1))
              else ((((((s.1.getD k 0 + 104729 * (s.2 + 1)) % 4294967291) ^ (5 : Nat) % 4294967279) / 64 * 69621 + (((s.1.getD k 0 + 104729 * (s.2 + 1)) % 4294967291) ^ (5 : Nat) % 4294967279)) % 4294967231) / 8 % lim, (s.1, s.2 + 1))) := by
            unfold dr
            dsimp only
            rw [hk]
            simp only [Int.toNat_natCast]
          -- cell = numbers[at]
          refine ⟨.ref a, rfl, .int k, rfl, .inl ⟨a, _, k, .int (s.1.getD k 0), rfl, rfl, sqL_fun ha1, hget, ?_⟩⟩
          generalize hcell : s.1.getD k 0 = cell at e1 hget
          -- if cell >= ..
          refine ⟨.int cell, rfl, _, _, rfl, rfl, _, rfl, ?_⟩
          have kp1 : ∀ b x, H b = some x → b ∉ [d, a] → H1 b = some x := fun b x h hb => by
            rw [← hH1, upd_ne (fun z => hb (by simp [z]))]; exact h
          have nI : ∀ (b : Addr) (x : HO), I b = some x → I b = none → H b = none := fun b x h1 h2 => by rw [h1] at h2; cases h2
          have iI : Ex I H1 := fun b x h => kp1 b x (S.ih b x h) fun z => by rw [fb b z] at h; cases h
          by_cases hc : 1000000000000000000 ≤ cell
          · rw [if_pos hc] at e1
            rw [decide_eq_true hc]
            refine iteT ?_
            -- numbers[at] = cell // limit
            refine ⟨.int cell, rfl, .int lim, rfl, _, _, rfl, rfl, ⟨c3, by omega⟩, .ref a, rfl, .int k, rfl, a, _, _, k, rfl, rfl, ha1, hix, ?_⟩
            refine ⟨.int cell, rfl, .int lim, rfl, _, _, rfl, rfl, by omega, ?_⟩
            dsimp only
            rw [e1] at P
            have em : (s.1.map V.int).set k (.int (cell / lim)) = (s.1.set k (cell / lim)).map V.int := by rw [List.map_set]
            rw [em]
            refine P (.int (cell % lim)) [some (.ref d), some (.int lim), o2, o3, o4, o5] _ I (put _ I (.draws (s.1.set k (cell / lim), s.2 + 1)) (Ex.refl _) (fun b x h => ?_) nI (fun b x h hb => ?_) rfl (.draws ?_ upd_same)) (.int _)
            · rw [upd_ne (fun z => by rw [z, fb a (by simp)] at h; cases h)]; exact iI b x h
            · rw [upd_ne (fun z => hb (by simp [z]))]; exact kp1 b x h hb
            · rw [upd_ne hda]; exact hd1
          · rw [if_neg hc] at e1
            rw [decide_eq_false hc]
            refine iteF ?_
            -- mixed
            have m0 : 0 ≤ (cell + 104729 * (s.2 + 1)) % 4294967291 := Int.emod_nonneg _ (by decide)
            have m1 : (cell + 104729 * (s.2 + 1)) % 4294967291 < 4294967291 := Int.emod_lt_of_pos _ (by decide)
            refine ⟨.int cell, rfl, .ref d, rfl, .inl ⟨d, _, 1, .int (s.2 + 1), rfl, rfl, sqL_fun hd1, atI_1 _ _ _, _, _, rfl, rfl, .inl ⟨by decide, by decide⟩, _, _, rfl, rfl, _, _, rfl, rfl, (by show (0 : Int) < 4294967291; decide), ?_⟩⟩
            dsimp only
            generalize hm : (cell + 104729 * (s.2 + 1)) % 4294967291 = m at e1 m0 m1
            refine ⟨.int m, rfl, _, _, rfl, rfl, ⟨by decide, by decide, by omega⟩, _, _, rfl, rfl, (by show (0 : Int) < 4294967279; decide), ?_⟩
            dsimp only
            rw [show ((5 : Int).toNat) = 5 from rfl]
            have n0 : 0 ≤ m ^ 5 % 4294967279 := Int.emod_nonneg _ (by decide)
            have n1 : m ^ 5 % 4294967279 < 4294967279 := Int.emod_lt_of_pos _ (by decide)
            generalize hm2 : m ^ 5 % 4294967279 = m2 at e1 n0 n1
            refine ⟨.int m2, rfl, _, _, rfl, rfl, ⟨by decide, by decide⟩, _, _, rfl, rfl, .inr ⟨by decide, by decide⟩, .int m2, rfl, _, _, rfl, rfl, _, _, rfl, rfl, (by show (0 : Int) < 4294967231; decide), _, _, rfl, rfl, ⟨by decide, by decide⟩, .int lim, rfl, _, _, rfl, rfl, by omega, ?_⟩
            dsimp only
            rw [e1] at P
            exact P (.int _) [some (.ref d), some (.int lim), o2, o3, o4, o5] H1 I (put H1 I (.draws (s.1, s.2 + 1)) (Ex.refl _) iI nI kp1 rfl (.draws hd1 ha1)) (.int _)
      · exact P.elim
    · exact P.elim
/-! ### _law_start -/
def startL (ns : List Int) : List Int := if ns = [] then [0] else ns
def spStart (G : Gm) : Sp := fun vs H Q E => vs.length = 1 ∧ ∃ (a : Addr) (ns : List Int), vs = [.ref a] ∧ SqL G.K H a (ns.map V.int) ∧ ∀ (d b : Addr) (H' : Hp), H d = none → H b = none → d ≠ b → Ex H H' → H' d = some (.lst [.ref b, .int 0]) → H' b = some (.lst ((startL ns).map V.int)) → Q (.ref d) H'
def t_start (G : Gm) : TS := tRet (tLst (tCons (tIf (tTest (tOp (rNeD G.K) (tVar 0) (tLst tNil))) (tCB (rListOf G.K) (tCons (tVar 0) tNil)) (tLst (tCons (tC (.int 0)) tNil))) (tCons (tC (.int 0)) tNil)))
theorem dp_ints {K : PySem.W.Frag} {H : Hp} : ∀ ns : List Int, DpAll K H (ns.map V.int) (ns.map PyData.int)
  | [] => .nil
  | n :: r => .cons (.int n) (dp_ints r)
theorem depth_ints : ∀ ns : List Int, PyData.depthAll (ns.map PyData.int) = 0
  | [] => by simp [PyData.depthAll]
  | n :: r => by simp [PyData.depthAll, PyData.depth, depth_ints r]
theorem canLay_ints : ∀ ns : List Int, PyData.canLayAll0 (ns.map PyData.int) = true
  | [] => by simp [PyData.canLayAll0]
  | n :: r => by simp [PyData.canLayAll0, PyData.canLay0, canLay_ints r]
theorem shaped_ints (ns : List Int) : SeqAt.shaped (.list (ns.map PyData.int)) = true := by
  unfold SeqAt.shaped
  rw [Bool.and_eq_true]
  refine ⟨by simpa [PyData.canLay0] using canLay_ints ns, ?_⟩
  simp [PyData.depth, depth_ints]
theorem eqv_nil (ds : List D) : PyData.eqv (.list ds) (.list []) = ds.isEmpty := by
  cases ds <;> simp [PyData.eqv, PyData.eqvAll]
theorem start_run {G : Gm} {vs : List V} {H : Hp} {Q : VK} {E : XK} {D : Ends} (hD : D.rt = Q) (h : spStart G vs H Q E) : t_start G D (vs.map some ++ List.replicate (1 - vs.length) none) H := by
  obtain ⟨_, a, ns, rfl, hs, k⟩ := h
  refine ⟨.ref a, rfl, Nat.zero_le _, fun p hp => ?_⟩
  have e1 : Ex H (upd H p (.lst [])) := Ex.new hp
  have hs1 : SqL G.K (upd H p (.lst [])) a (ns.map V.int) := by
    rcases hs with (h | ⟨o, h⟩) | h
    · exact .inl (.inl (e1 _ _ h))
    · exact .inl (.inr ⟨o, e1 _ _ h⟩)
    · exact .inr h
  refine ⟨.list (ns.map PyData.int), .list [], .lst hs1 (dp_ints ns), .lst (.inl (.inl upd_same)) .nil, shaped_ints ns, shaped_ints [], _, rfl, ?_⟩
  rw [eqv_nil]
  cases ns with
  | nil =>
    refine iteF ?_
    refine ⟨by show 1 ≤ sizeLine; rw [sizeLine_eq]; decide, fun b hb => ⟨by show 2 ≤ sizeLine; rw [sizeLine_eq]; decide, fun d hd => ?_⟩⟩
    rw [hD]
    have hb0 : H b = none := by
      cases z : H b with
      | none => rfl
      | some o => rw [e1 b o z] at hb; cases hb
    have e2 : Ex H (upd (upd H p (.lst [])) b (.lst [.int 0])) := e1.trans (Ex.new hb)
    have hd0 : H d = none := by
      cases z : H d with
      | none => rfl
      | some o => rw [e2 d o z] at hd; cases hd
    have ndb : d ≠ b := fun z => by rw [z, upd_same] at hd; cases hd
    exact k d b _ hd0 hb0 ndb (e2.trans (Ex.new hd)) upd_same (by rw [upd_ne (Ne.symm ndb)]; exact upd_same)
  | cons n r =>
    refine iteT ?_
    refine ⟨.ref a, rfl, a, _, rfl, .inl hs1, fun b hb => ⟨by show 2 ≤ sizeLine; rw [sizeLine_eq]; decide, fun d hd => ?_⟩⟩
    rw [hD]
    have hb0 : H b = none := by
      cases z : H b with
      | none => rfl
      | some o => rw [e1 b o z] at hb; cases hb
    have e2 : Ex H (upd (upd H p (.lst [])) b (.lst ((n :: r).map V.int))) := e1.trans (Ex.new hb)
    have hd0 : H d = none := by
      cases z : H d with
      | none => rfl
      | some o => rw [e2 d o z] at hd; cases hd
    have ndb : d ≠ b := fun z => by rw [z, upd_same] at hd; cases hd
    exact k d b _ hd0 hb0 ndb (e2.trans (Ex.new hd)) upd_same (by rw [upd_ne (Ne.symm ndb)]; exact upd_same)

/-! ### law -/
def spLaw (K : PySem.W.Frag) : Sp := fun vs H Q _ => vs.length = 1 ∧ ∃ (a : Addr) (ns : List Int), vs = [.ref a] ∧ SqL K H a (ns.map V.int) ∧ ns.length ≤ 63 ∧ ∀ H', Q (.bl true) H'
def goodD (s : DrawSt) : Prop := s.1 ≠ [] ∧ s.1.length ≤ 63
theorem dr_good {s : DrawSt} {lim : Int} (h : goodD s) : goodD (dr s lim).2 := by
  unfold goodD at *
  rw [dr_len]
  refine ⟨fun z => ?_, h.2⟩
  have := dr_len (s := s) (lim := lim)
  rw [z] at this
  exact h.1 (List.length_eq_zero_iff.mp this.symm)
theorem drOk_of {s : DrawSt} {lim : Int} (h : goodD s) (h0 : 0 < lim) (h1 : lim.natAbs < BIG) : drOk s lim = true := by
  unfold drOk sm
  obtain ⟨a, b⟩ := h
  simp only [lk_eq, Bool.and_eq_true, decide_eq_true_eq]
  exact ⟨⟨⟨a, by omega⟩, h0⟩, h1⟩
theorem law_run {G : Gm} {m : Nat} {b : CS} (hb : ∀ s, goodD s → ∃ e', b.ev (none :: some (Sl.ow (OD.draws s)) :: List.replicate m none) = .rt (.bool true) e') {vs : List V} {H : Hp} {Q : VK} {E : XK} (h : spLaw G.K vs H Q E) :
    (tSeq (tAsg (tCallS (spStart G) (WE fun cls d _ H => E cls d H) (tCons (tVar 0) tNil)) (gName 1)) (b.t G fun cls d _ H => E cls d H)) { nx := fun _ H' => Q .non H', rt := Q } (vs.map some ++ List.replicate (m + 2 - vs.length) none) H := by
  obtain ⟨_, a, ns, rfl, hs, hlen, k⟩ := h
  refine ⟨.ref a, rfl, rfl, a, ns, rfl, hs, fun d b2 H' hd hb2 ndb e e1 e2 => ?_⟩
  have good : goodD (startL ns, 0) := by
    unfold goodD startL
    split
    · exact ⟨by simp, by simp⟩
    · rename_i hne
      exact ⟨hne, hlen⟩
  obtain ⟨e', he⟩ := hb _ good
  have S : Sim G ⟨H, fun _ => none, [], none⟩ (some (.ref a) :: some (.ref d) :: List.replicate m none) (none :: some (Sl.ow (OD.draws (startL ns, 0))) :: List.replicate m none) H' (fun _ => none) := by
    refine ⟨Ex.refl _, (fun _ _ h => by cases h), (fun _ _ h => by cases h), fun b o h _ => e b o h, fun b hb => (by cases hb), ⟨[d, b2] ++ [], .skip (.ow (.draws e1 e2) (slOk_none m)), by simpa using ndb, fun a ha => ⟨rfl, .inr ?_⟩⟩, fun i a ds h => ?_, fun w hw => (by cases hw)⟩
    · simp at ha
      rcases ha with rfl | rfl
      · exact hd
      · exact hb2
    · exfalso
      match i with
      | 0 => simp at h
      | 1 => simp at h
      | i + 2 =>
        have h : (List.replicate m (none : Option Sl))[i]? = some (some (Sl.ow (OD.lst ds))) := by simpa using h
        have := List.eq_of_mem_replicate (List.mem_of_getElem? h)
        cases this
  refine b.ok S ?_
  rw [he]
  intro v σ' H2 I2 S2 r2
  cases r2
  exact k H2
section
variable {P : Program} {w : World} {K : PySem.W.Frag} {mg : Str → Option Value} {base : Heap}
theorem fn_start {x qual : Str} {st : Stmt} {f : Addr} {fd : FuncData} {N ps : List Str} {k : Nat} {G : Gm} (hG : K = G.K) (F : Fun K x qual st f fd) (S : FnScope N ps (defScope st)) (hn : ps.length = 1) (hN : N.length = 1)
    (h : BodyIs P w K mg base G k N qual st f fun _ => t_start G) : FnOk P w K mg base (L2.CX P w) (k + 1) f fd ps (spStart G) :=
  F.okX S (fun vs H Q E h => by rw [hn]; exact h.1) fun cdv A outer s H vs Q E hr hsp => ⟨_, h.is S hG cdv A outer s H E hr, by unfold L2.start; rw [hN]; exact start_run rfl hsp⟩
theorem fn_law {x qual : Str} {st : Stmt} {f : Addr} {fd : FuncData} {N ps : List Str} {k m : Nat} {b : CS} {G : Gm} (hG : K = G.K) (F : Fun K x qual st f fd) (S : FnScope N ps (defScope st)) (hn : ps.length = 1) (hN : N.length = m + 2)
    (hb : ∀ s, goodD s → ∃ e', b.ev (none :: some (Sl.ow (OD.draws s)) :: List.replicate m none) = .rt (.bool true) e')
    (h : BodyIs P w K mg base G k N qual st f fun W => tSeq (tAsg (tCallS (spStart G) (WE W) (tCons (tVar 0) tNil)) (gName 1)) (b.t G W)) :
    FnOk P w K mg base (L2.CX P w) (k + 1) f fd ps (spLaw K) :=
  F.okX S (fun vs H Q E h => by rw [hn]; exact h.1) fun cdv A outer s H vs Q E hr hsp => ⟨_, h.is S hG cdv A outer s H E hr, by unfold L2.start; rw [hN]; exact law_run hb (by rw [← hG]; exact hsp)⟩
end
theorem walk {l : PySem.W.OpenLaw} {k : Nat} {q : Program} {loose : List Str} {XP : (Str → Option Value) → Heap → Prop} {YP : World → Heap → Prop} {d : DefRec} {K : Params → PySem.W.Frag} {x : Str} (hn : l.most = some 63) (hdf : d.params.defaults = []) (hr : Room k callerA)
    (hY : ∀ (w : World) (h : Heap), YP w h → (K w.params).In h)
    (F : ∀ (w : World) (mg : Str → Option Value) (fa : Addr) (h : Heap), (K w.params).In h → h.Ns mainGlobals mg → mg d.name = some (.ref fa) →
      ∃ fd : FuncData, (∀ (s : Shared) (u : Value), BindsTo s fd ⟨[u], []⟩ [(x, u)]) ∧ ∀ base : Heap, (K w.params).In base → base.Ns mainGlobals mg → FnOk l.prog w (K w.params) mg base (L2.CX l.prog w) k fa fd [x] (spLaw (K w.params))) :
    PySem.W.WalkO q loose XP YP l.row.toRowW d [] (fun f vs => PySem.call f vs) :=
  L2.walk_of (n := 63) (k := k) (x := x) (CX := fun w => L2.CX l.prog w) (sp := fun w => spLaw (K w.params)) hn (by rw [sizeLine_eq]; decide) hdf hr hY F (fun _ _ a ns hl _ hS => ⟨rfl, a, ns, rfl, hS, hl, fun _ => rfl⟩)
    fun _ _ _ _ _ h => by
      obtain ⟨_, _, _, _, _, _, _, _, _, _, _, _, z⟩ := h
      exact z
end FD
set_option Elab.async false
set_option linter.all false
set_option maxRecDepth 100000
set_option maxHeartbeats 4000000
noncomputable section
namespace FD
open PySem L2 PyProof.Rows

/-! ### rows: what the class says, what an owned row is made of -/
structure RowFacts (G : Gm) : Prop where
  cl : Cls G.K G.row
  nl : NoAttr G.K G.row "line"
  np : NoAttr G.K G.row "past"
def fldN (b : Bool) : Str := if b then "line" else "past"
theorem RowFacts.no {G : Gm} (F : RowFacts G) (b : Bool) : NoAttr G.K G.row (fldN b) := by cases b; exact F.np; exact F.nl
theorem rowFlds_at (a b : Addr) : ∀ q : Bool, (rowFlds a b).lookup (fldN q) = some (.ref (if q then a else b))
  | true => by
    unfold rowFlds
    rw [lookup_putF, lookup_putF]
    rfl
  | false => by
    unfold rowFlds
    rw [lookup_putF]
    rfl
theorem rowFlds_no {a b : Addr} {m : Str} (h1 : m ≠ "past") (h2 : m ≠ "line") : (rowFlds a b).lookup m = none := by
  unfold rowFlds
  rw [lookup_putF, lookup_putF, if_neg (Ne.symm (Ne.symm h1)), if_neg (Ne.symm (Ne.symm h2))]
  rfl
/-- a row's parts: line, then past -/
def selR (q : Bool) (l p : List Int) : List Int := if q then l else p
def putR (q : Bool) (l p n : List Int) : OD := if q then .row n p else .row l n
theorem putR_kind {q : Bool} {l p n : List Int} : (putR q l p n).kind = 2 := by cases q <;> rfl
section
variable {G : Gm} {B : Bs} {σ : L2.St} {env : Env} {H I : Hp}
theorem Sim.rowAt (S : Sim G B σ env H I) {i : Nat} {l p : List Int} (h : env[i]? = some (some (.ow (.row l p)))) : ∃ x dx a b, σ[i]? = some (some (.ref x)) ∧ H x = some (.ins G.row dx (rowFlds a b)) ∧
    (∀ q, H (if q then a else b) = some (.lst ((selR q l p).map .int))) ∧ (∀ q : Bool, I (if q then a else b) = none) ∧
    ∀ (q : Bool) (n : List Int), Sim G B (env := env.set i (some (.ow (putR q l p n)))) σ (upd H (if q then a else b) (.lst (n.map .int))) I := by
  obtain ⟨v, bs, h1, h2, h3, h4, h5⟩ := S.own h
  cases h2 with
  | @row x dx a b _ _ hx ha hb =>
    have nd : x ≠ a ∧ x ≠ b ∧ a ≠ b := by
      simp at h3
      exact ⟨h3.1.1, h3.1.2, h3.2⟩
    refine ⟨x, dx, a, b, h1, hx, fun q => (by cases q; exact hb; exact ha), fun q => (by cases q; exact h4 b (by simp); exact h4 a (by simp)), fun q n => ?_⟩
    refine h5 _ I _ (Ex.refl _) (fun c o e => ?_) (fun c o e1 e2 => by rw [e1] at e2; cases e2) (fun c o e hc => ?_) (by rw [putR_kind]; rfl) ?_
    · have : c ≠ (if q then a else b) := fun z => by
        cases q
        · rw [z] at e; simp at e; rw [h4 b (by simp)] at e; cases e
        · rw [z] at e; simp at e; rw [h4 a (by simp)] at e; cases e
      rw [upd_ne this]; exact S.ih _ _ e
    · have : c ≠ (if q then a else b) := fun z => hc (by cases q <;> simp [z])
      rw [upd_ne this]; exact e
    · cases q
      · exact .row (l := l) (p := n) (by rw [upd_ne (by simpa using nd.2.1)]; exact hx) (by rw [upd_ne (by simpa using nd.2.2)]; exact ha) (by simpa using upd_same)
      · exact .row (l := n) (p := p) (by rw [upd_ne (by simpa using nd.1)]; exact hx) (by simpa using upd_same) (by rw [upd_ne (by simpa using nd.2.2.symm)]; exact hb)
end
def Env.owR (env : Env) (i : Nat) : Option (List Int × List Int) := match env[i]? with
  | some (some (.ow (.row l p))) => some (l, p)
  | _ => none
theorem Env.owR_eq {env : Env} {i : Nat} {r : List Int × List Int} (h : Env.owR env i = some r) : env[i]? = some (some (.ow (.row r.1 r.2))) := by
  unfold Env.owR at h
  split at h
  · rename_i l p e; cases h; exact e
  · cases h
/-- the row's part, as a text reads it -/
def tPart (G : Gm) (i : Nat) (q : Bool) : TE := tFld G.K (tVar i) (fldN q)
theorem tPart_at {G : Gm} (F : RowFacts G) {B : Bs} {σ : L2.St} {env : Env} {H I : Hp} (S : Sim G B σ env H I) {i : Nat} {r : List Int × List Int} (h : Env.owR env i = some r) (q : Bool) {Q : VK}
    (k : ∀ a, H a = some (.lst ((selR q r.1 r.2).map .int)) → I a = none → (∀ n : List Int, Sim G B σ (env.set i (some (.ow (putR q r.1 r.2 n)))) (upd H a (.lst (n.map .int))) I) → Q (.ref a) H) : tPart G i q σ H Q := by
  obtain ⟨x, dx, a, b, h1, h2, h3, h4, h5⟩ := S.rowAt (Env.owR_eq h)
  exact ⟨.ref x, h1, x, G.row, dx, rowFlds a b, .ref (if q then a else b), rfl, h2, F.cl, F.no q, rowFlds_at a b q, k _ (h3 q) (h4 q) (h5 q)⟩
/-- self.line[-1] -/
def CE.rowLast (i : Nat) : CE where
  t := fun G W σ H Q => RowFacts G → tOp (rIx G.K) (tPart G i true) ((CE.neg (CE.int 1)).t G W) σ H Q
  ev := fun env => (R.lift (Env.owR env i) env).bind fun r e1 => R.lift ((atI r.1 (-1)).map .int) e1
  ok := fun {G B σ env H I W Q} S P F => by
    cases h : Env.owR env i with
    | none => rw [h] at P; exact P.elim
    | some r =>
      rw [h] at P
      have P1 : Post G B σ W (Rep G) I Q (R.lift ((atI r.1 (-1)).map .int) env) := P
      refine tPart_at F S h true fun a ha _ _ => ?_
      cases q : atI r.1 (-1) with
      | none => rw [q] at P1; exact P1.elim
      | some n =>
        rw [q] at P1
        refine ⟨1, rfl, ?_⟩
        refine .inl ⟨a, r.1.map .int, -1, .int n, rfl, rfl, .inl (.inl ha), ?_, P1 (.int n) H I S (Ex.refl _) (.int n)⟩
        obtain ⟨j, h1, h2⟩ := atI_get q
        unfold L2.atI
        rw [List.length_map, h1]
        show (r.1.map V.int)[j]? = _
        rw [List.getElem?_map, h2]; rfl
  pu := true
  pok := fun _ env d env' h => by
    obtain ⟨r, e1, h1, h⟩ := R.bind_eq_ok h
    rw [(R.lift_eq_ok h).2, (R.lift_eq_ok h1).2]
/-- len(self.past) -/
def CE.rowLen (q : Bool) (i : Nat) : CE where
  t := fun G W σ H Q => RowFacts G → tCB (rLen G.K) (tCons (tPart G i q) tNil) σ H Q
  ev := fun env => (R.lift (Env.owR env i) env).bind fun r e1 => .ok (.int (selR q r.1 r.2).length) e1
  ok := fun {G B σ env H I W Q} S P F => by
    cases h : Env.owR env i with
    | none => rw [h] at P; exact P.elim
    | some r =>
      rw [h] at P
      refine tPart_at F S h q fun a ha _ _ => ?_
      refine ⟨.ref a, _, rfl, .inl ⟨_, .inl (.inl ha), rfl⟩, ?_⟩
      rw [List.length_map]
      exact P _ H I S (Ex.refl _) (.int _)
  pu := true
  pok := fun _ env d env' h => by
    obtain ⟨r, e1, h1, h⟩ := R.bind_eq_ok h
    cases h
    exact (R.lift_eq_ok h1).2
/-- self.past == [] -/
def CE.rowNil (q : Bool) (i : Nat) : CE where
  t := fun G W σ H Q => RowFacts G → tOp (rEqD G.K) (tPart G i q) ((CE.lst CA.nil).t G W) σ H Q
  ev := fun env => (R.lift (Env.owR env i) env).bind fun r e1 => .ok (.bool (decide (selR q r.1 r.2 = []))) e1
  ok := fun {G B σ env H I W Q} S P F => by
    cases h : Env.owR env i with
    | none => rw [h] at P; exact P.elim
    | some r =>
      rw [h] at P
      refine tPart_at F S h q fun a ha _ _ => ?_
      refine ⟨Nat.zero_le _, fun c hc => ?_⟩
      obtain ⟨S2, e2⟩ := S.alloc (o := .lst []) hc
      have hac : a ≠ c := ne_of_none ha hc
      refine ⟨.list ((selR q r.1 r.2).map .int), .list [], ?_, ?_, shaped_ints _, shaped_ints [], ?_⟩
      · exact .lst (.inl (.inl (by rw [upd_ne hac]; exact ha))) (Reps.dp (G := G) (I := upd I c (.lst [])) S2.ih (Reps.ofInts _) (by simpa [PyData.canLay0] using SeqAt.canLay_of_shaped (shaped_ints (selR q r.1 r.2))))
      · exact .lst (.inl (.inl upd_same)) .nil
      · have : PyData.eqv (.list ((selR q r.1 r.2).map .int)) (.list []) = decide (selR q r.1 r.2 = []) := by
          cases selR q r.1 r.2 <;> rfl
        rw [this]
        exact P _ _ _ S2 e2 (.bl _)
  pu := true
  pok := fun _ env d env' h => by
    obtain ⟨r, e1, h1, h⟩ := R.bind_eq_ok h
    cases h
    exact (R.lift_eq_ok h1).2
/-- an argument that leaves the heap as it is -/
structure Still (a : CE) : Prop where
  run : ∀ {G : Gm} {B : Bs} {σ : L2.St} {env env' : Env} {H I : Hp} {W : WX} {d : D}, RowFacts G → Sim G B σ env H I → a.ev env = .ok d env' → env' = env ∧ ∃ v, Rep G I v d ∧ ∀ Q : VK, Q v H → a.t G W σ H Q
theorem still_var (j : Nat) : Still (CE.var j) := by
  constructor
  intro G B σ env env' H I W d F S h
  obtain ⟨h1, h2⟩ := R.lift_eq_ok h
  obtain ⟨v, h3, h4⟩ := S.getIm (Env.im_eq h1)
  exact ⟨h2, v, h4, fun Q q => ⟨v, h3, q⟩⟩
theorem still_last (i : Nat) : Still (CE.rowLast i) := by
  constructor
  intro G B σ env env' H I W d F S h
  obtain ⟨r, e1, h1, h2⟩ := R.bind_eq_ok h
  obtain ⟨h3, h4⟩ := R.lift_eq_ok h1
  subst h4
  obtain ⟨h5, h6⟩ := R.lift_eq_ok h2
  cases q : atI r.1 (-1) with
  | none => rw [q] at h5; cases h5
  | some n =>
    rw [q] at h5
    cases h5
    refine ⟨h6, .int n, .int n, fun Q k _ => tPart_at F S h3 true fun a ha _ _ => ⟨1, rfl, .inl ⟨a, r.1.map .int, -1, .int n, rfl, rfl, .inl (.inl ha), ?_, k⟩⟩⟩
    obtain ⟨j, h1, h2⟩ := atI_get q
    unfold L2.atI
    rw [List.length_map, h1]
    show (r.1.map V.int)[j]? = _
    rw [List.getElem?_map, h2]; rfl
/-- self.line.append(e) -/
def CS.rowApp (q : Bool) (i : Nat) (a : CE) (hs : Still a) : CS where
  t := fun G W D σ H => RowFacts G → tDrop (tBM G.K "list" rAppend (tPart G i q) (tCons (a.t G W) tNil)) D σ H
  ev := fun env => (R.lift (Env.owR env i) env).toF fun r e0 => match a.ev e0 with
    | .ok (.int n) _ => if lk (decide ((selR q r.1 r.2).length < 100000)) then .nx (e0.set i (some (.ow (putR q r.1 r.2 (selR q r.1 r.2 ++ [n]))))) else .bad
    | _ => .bad
  ok := fun {G B σ env H I W D} S P F => by
    cases h : Env.owR env i with
    | none => rw [h] at P; exact P.elim
    | some r =>
      rw [h] at P
      have P : SPost G B W D I (match a.ev env with
        | .ok (.int n) _ => if lk (decide ((selR q r.1 r.2).length < 100000)) then .nx (env.set i (some (.ow (putR q r.1 r.2 (selR q r.1 r.2 ++ [n]))))) else .bad
        | _ => .bad) := P
      unfold tDrop tBM
      refine tPart_at F S h q fun c ha _ up => ⟨.inl ⟨rfl, _, .inl (.inl ha)⟩, ?_⟩
      split at P
      · rename_i n e1 he
        split at P
        · rename_i hz
          obtain ⟨-, v, rv, run⟩ := hs.run (W := W) F S he
          cases rv
          refine run _ ⟨c, _, .int n, rfl, rfl, ha, by rw [List.length_map]; exact Nat.lt_of_lt_of_le (of_lk hz) (by rw [sizeLine_eq]; decide), ?_⟩
          have := up (selR q r.1 r.2 ++ [n])
          rw [List.map_append] at this
          exact P _ _ I this (Ex.refl _)
        · exact P.elim
      · exact P.elim
/-- self.line.pop() -/
def CS.rowPop (q : Bool) (i : Nat) : CS where
  t := fun G W D σ H => RowFacts G → tDrop (tBM0 G.K "list" rPop (tPart G i q)) D σ H
  ev := fun env => (R.lift (Env.owR env i) env).toF fun r e0 => if lk (decide (selR q r.1 r.2 ≠ [])) then .nx (e0.set i (some (.ow (putR q r.1 r.2 (selR q r.1 r.2).dropLast)))) else .bad
  ok := fun {G B σ env H I W D} S P F => by
    cases h : Env.owR env i with
    | none => rw [h] at P; exact P.elim
    | some r =>
      rw [h] at P
      have P : SPost G B W D I (if lk (decide (selR q r.1 r.2 ≠ [])) then .nx (env.set i (some (.ow (putR q r.1 r.2 (selR q r.1 r.2).dropLast)))) else .bad) := P
      split at P
      · rename_i hz
        have hz := of_lk hz
        have hl := List.length_pos_iff.mpr hz
        unfold tDrop tBM0
        refine tPart_at F S h q fun c ha _ up => ⟨.inl ⟨rfl, _, .inl (.inl ha)⟩, ?_⟩
        refine ⟨c, _, .int ((selR q r.1 r.2).getLast hz), rfl, rfl, ha, ?_, ?_⟩
        · rw [List.getElem?_map, List.length_map, List.getLast_eq_getElem, List.getElem?_eq_getElem (by omega)]; rfl
        · have := up (selR q r.1 r.2).dropLast
          rw [List.map_dropLast] at this
          exact P _ _ I this (Ex.refl _)
      · exact P.elim

/-! ### [.. for place, number in enumerate(self.line) ..], ints -/
theorem strip_idem (env : Env) : stripE (stripE env) = stripE env := by
  unfold stripE
  rw [List.map_map]
  apply List.map_congr_left
  intro s _
  cases s with
  | none => rfl
  | some s => cases s <;> rfl
def CL.lcRow (i : Nat) (g : CGc) (c : CT) (e : CE) : CL where
  t := fun G W σ H Q => RowFacts G → tLc (iEnum G.K (tCons (tPart G i true) tNil)) (g.g.t G) (c.t G W0) (e.t G W0) g.own σ H Q
  ev := fun env => (R.lift (Env.owR env i) env).bind fun r e1 => if lk (decide (r.1.length ≤ 100000)) then R.lift ((lcF g.g.ev c.ev e.ev (wipeE (stripE e1) g.own) (enumD (r.1.map .int))).bind fun ds => (intsD ds).map fun ns => ns.map .int) e1 else .bad
  ok := fun {G B σ env H I W Q} S P F => by
    cases h : Env.owR env i with
    | none => rw [h] at P; exact P.elim
    | some r =>
      rw [h] at P
      have P : LPost G B σ W I Q (if lk (decide (r.1.length ≤ 100000)) then R.lift ((lcF g.g.ev c.ev e.ev (wipeE (stripE env) g.own) (enumD (r.1.map .int))).bind fun ds => (intsD ds).map fun ns => ns.map .int) env else .bad) := P
      split at P
      · rename_i hlen
        cases q : lcF g.g.ev c.ev e.ev (wipeE (stripE env) g.own) (enumD (r.1.map .int)) with
        | none => rw [q] at P; exact P.elim
        | some ds =>
          rw [q] at P
          cases qi : intsD ds with
          | none => simp only [Option.bind_some, qi] at P; exact P.elim
          | some ns =>
            simp only [Option.bind_some, qi, Option.map_some] at P
            have := intsD_eq qi
            subst this
            unfold tLc iEnum
            refine tPart_at F S h true fun a ha ia _ => ?_
            refine ⟨a, _, rfl, .inl (.inl ha), ?_⟩
            have ex : Ex I (upd I a (.lst ((selR true r.1 r.2).map .int))) := Ex.new ia
            obtain ⟨as, s1, s2, s3⟩ := S.sl
            have S2 : Sim G ⟨H, upd I a (.lst ((selR true r.1 r.2).map .int)), [], none⟩ σ (stripE env) H (upd I a (.lst ((selR true r.1 r.2).map .int))) := by
              refine ⟨Ex.refl _, fun b o hb => ?_, (fun b o h1 h2 => absurd (h1.symm.trans h2) (by simp)), fun _ _ h _ => h, fun b hb => (by cases hb), ⟨[], (s1.strip H).mono ex (fun _ hb => by cases hb), List.nodup_nil, fun a ha => (by cases ha)⟩, fun i a ds h => absurd h strip_no, fun w hw => (by cases hw)⟩
              by_cases z : b = a
              · subst z; rw [upd_same] at hb; cases hb; exact ha
              · rw [upd_ne z] at hb; exact S.ih _ _ hb
            refine lc_core (W := W0) (ds := enumD (r.1.map .int)) g c e S2 (ite_ok upd_same (Reps.ofInts _)) (by simp [enumD]; exact of_lk hlen) ?_
            rw [strip_idem, q]
            intro p vs H' I2 S3 e3 hp rs
            have := rs.ints
            subst this
            have kk : Ex H H' := fun b o hb => S3.keep b o hb (by intro z; cases z)
            exact P p _ H' I (S.step (Ex.refl _) (S.ih.trans kk) (fun b o h1 h2 => absurd (h1.symm.trans h2) (by simp)) kk) (Ex.refl _) hp (Reps.ofInts ns)
      · exact P.elim
  pu := true
  pok := fun _ env d env' h => by
    obtain ⟨x, e1, h1, h⟩ := R.bind_eq_ok h
    split at h
    · rw [(R.lift_eq_ok h).2, (R.lift_eq_ok h1).2]
    · cases h

/-! ### methods of a row -/
def tMethE (C : Addr) (m : Str) (sp : Sp) (E : L2.St → XK) (ta : TE) (t : TA) : TE :=
  fun σ H Q => ta σ H fun x H1 => ∃ a dx fs, x = .ref a ∧ H1 a = some (.ins C dx fs) ∧ fs.lookup m = none ∧ t σ H1 fun vs H2 => sp (x :: vs) H2 Q (E σ)
section
variable {X : Cx} {CX : CXT} {k : Nat} {C f : Addr} {m : Str} {fd : FuncData} {ps : List Str} {sp : Sp} {E : L2.St → XK} {o e : Expr} {es : List Expr} {ta : TE} {t : TA} {apos pos p : Pos}
theorem pe_methE {pl : Sem Bool} (he : PE X o ta) (c : Cls X.K C) (hm : Meth X.K C m f) (F : FnOk X.prog X.w X.K X.mg X.base CX k f fd ps sp) (hr : Room k X.A)
    (hb : Binds X.K fd ps []) (hx : ∀ σ, PassesAt CX X σ (E σ)) (ha : PA X (e :: es) t)
    (hst : starEach (e :: es) X.env = (false, eval e X.env) :: starEach es X.env := by rfl)
    (hpl : (backTo pos (starEach es X.env)).any (·.1) = false := by rfl)
    (ht : eval (.Call (.Attribute o m apos) (e :: es) [] pos) X.env = (do let ov ← eval o X.env; standAt apos.atName; let (f, first) ← holding [ov] (getMethod ov m pl); callWith pos f first (backTo pos (starEach (e :: es) X.env)) (backToKw pos (keywordEach [] X.env))) := by rfl) :
    PE X (.Call (.Attribute o m apos) (e :: es) [] pos) (tMethE C m sp E ta t) := by
  constructor
  intro pins s σ H Q I h
  refine PySem.W.methodCall_KW (pl := pl) (thn (he.run pins s σ H _ I h) ?_) ht
  rintro u s1 ⟨x, H1, I1, rx, a, dx, fs, rfl, ea, l, q⟩
  cases rx
  refine getmeth_ok I1 ea c hm l (PySem.W.callWith_K (first := [.ref a]) (h₀ := X.base) I.ok.mod.kin hm.kp (thn (ha.run pos pins s1 σ H1 _ I1 q) ?_) hst hpl)
  rintro us s2 ⟨vs, H2, I2, r, q2⟩
  exact ⟨I2.kIn, run_fnS (us := .ref a :: us) (vs := .ref a :: vs) F hr hb (hx σ) I2 (.cons rfl r) q2⟩
theorem pe_methE0 {pl : Sem Bool} (he : PE X o ta) (c : Cls X.K C) (hm : Meth X.K C m f) (F : FnOk X.prog X.w X.K X.mg X.base CX k f fd ps sp) (hr : Room k X.A)
    (hb : Binds X.K fd ps []) (hx : ∀ σ, PassesAt CX X σ (E σ))
    (ht : eval (.Call (.Attribute o m apos) [] [] pos) X.env = (do let ov ← eval o X.env; standAt apos.atName; let (f, first) ← holding [ov] (getMethod ov m pl); callWith pos f first (backTo pos (starEach [] X.env)) (backToKw pos (keywordEach [] X.env))) := by rfl) :
    PE X (.Call (.Attribute o m apos) [] [] pos) (tMethE C m sp E ta tNil) := by
  constructor
  intro pins s σ H Q I h
  refine PySem.W.methodCall_KW (pl := pl) (thn (he.run pins s σ H _ I h) ?_) ht
  rintro u s1 ⟨x, H1, I1, rx, a, dx, fs, rfl, ea, l, q⟩
  cases rx
  exact getmeth_ok I1 ea c hm l (PySem.W.callWith_K0 (first := [.ref a]) I1.kIn hm.kp (run_fnS (us := [.ref a]) (vs := [.ref a]) F hr hb (hx σ) I1 (.cons rfl .nil) q))
end
def CE.meth (n : Nat) (φ : OD → List D → RM) (i : Nat) (m : Str) (a : CA) : CE where
  t := fun G W => tMethE G.row m (spOfM G n φ) (WE W) (tVar i) (a.t G W)
  ev := fun env => if lk (decide (m ≠ "past" ∧ m ≠ "line")) then (R.lift (Env.owR env i) env).bind fun _ e0 => (CE.callM n φ i a).ev e0 else .bad
  ok := fun {G B σ env H I W Q} S P => by
    split at P
    · rename_i hm
      have hm := of_lk hm
      cases h : Env.owR env i with
      | none => rw [h] at P; exact P.elim
      | some r =>
        rw [h] at P
        obtain ⟨x, dx, ad, b, h1, h2, -, -, -⟩ := S.rowAt (Env.owR_eq h)
        obtain ⟨v, hv, go⟩ := (CE.callM n φ i a).ok S P
        rw [h1] at hv
        cases hv
        exact ⟨.ref x, h1, x, dx, rowFlds ad b, rfl, h2, rowFlds_no hm.1 hm.2, go⟩
    · exact P.elim
  pu := false
  pok := fun p => by cases p

/-! ### a new row -/
def tMakeE (C : Addr) (sp : Sp) (E : L2.St → XK) (t : TA) : TE := fun σ H Q => t σ H fun vs H1 => ∀ x dx, H1 x = none → H1 dx = none → dx ≠ x →
  sp (.ref x :: vs) (upd (upd H1 dx (.own x)) x (.ins C dx [])) (fun v H2 => v = .non ∧ Q (.ref x) H2) (E σ)
section
variable {X : Cx} {CX : CXT} {k : Nat} {C f : Addr} {x : Str} {fd : FuncData} {ps : List Str} {sp : Sp} {E : L2.St → XK} {e : Expr} {es : List Expr} {t : TA} {pos p : Pos}
theorem run_makeE {pins : List (Addr × Obj)} {σ : L2.St} {H : Hp} {s : Shared} {Q : VK} {us : List Value} {vs : List V} (M : Mk X.K C f) (F : FnOk X.prog X.w X.K X.mg X.base CX k f fd ps sp) (hr : Room (k + 1) X.A)
    (hb : Binds X.K fd ps []) (hx : PassesAt CX X σ (E σ)) (I : Inv X pins σ H s) (r : Vals vs us)
    (h : ∀ x dx, H x = none → H dx = none → dx ≠ x → sp (.ref x :: vs) (upd (upd H dx (.own x)) x (.ins C dx [])) (fun v H2 => v = .non ∧ Q (.ref x) H2) (E σ)) :
    wpAny (model X.prog X.w) X.A (call (.ref C) us) (EP X pins σ Q) X.xe s := by
  have promise := h (s.heap.objs.size + 1) s.heap.objs.size (I.hok.fresh (Nat.le_succ _)) (I.hok.fresh (Nat.le_refl _)) (Nat.ne_of_lt (Nat.lt_succ_self _))
  have J := Inv.made (C := C) I
  have rv : Vals (V.ref (s.heap.objs.size + 1) :: vs) (Value.ref (s.heap.objs.size + 1) :: us) := .cons rfl r
  have len : (Value.ref (s.heap.objs.size + 1) :: us).length = ps.length := by rw [← rv.length]; exact F.len _ _ _ _ promise
  have bound := hb _ (Value.ref (s.heap.objs.size + 1) :: us) J.kIn (by rw [List.append_nil]; exact len)
  rw [List.append_nil] at bound
  have go := F.run _ X.stack _ _ ⟨Value.ref (s.heap.objs.size + 1) :: us, []⟩ _ _ _ (E σ) (hr.make C us []) (J.env0.make C us []) bound rv promise
  refine wpAny_call (make_map (f := f) I.kIn M.makes M.init (beq_iff_eq.mp M.fn) (codeAny_mono go fun res s' got => ?_))
  cases res with
  | error e => exact hx pins _ _ e s' J got
  | ok fl =>
    cases fl with
    | ret u =>
      obtain ⟨v, H', I3, rv, rfl, q3⟩ := J.after got
      exact ⟨rv, V.ref (s.heap.objs.size + 1), H', I3, rfl, q3⟩
    | next => exact got.elim
    | brk => exact got.elim
    | cont => exact got.elim
theorem pe_makeE (M : Mk X.K C f) (F : FnOk X.prog X.w X.K X.mg X.base CX k f fd ps sp) (hr : Room (k + 1) X.A) (hg : Gl X x) (hm : X.mg x = some (.ref C)) (hb : Binds X.K fd ps []) (hx : ∀ σ, PassesAt CX X σ (E σ))
    (ha : PA X (e :: es) t) (hdb : (x == ("__debug__" : Str)) = false := by decide) (he : starEach (e :: es) X.env = (false, eval e X.env) :: starEach es X.env := by rfl)
    (hpl : (backTo pos (starEach es X.env)).any (·.1) = false := by rfl) : PE X (.Call (.Name x p) (e :: es) [] pos) (tMakeE C sp E t) := by
  constructor
  intro pins s σ H Q I h
  refine wpAny_Call_Name_kw (ld_glob I hg hm ?_ hdb)
  refine PySem.W.callWith_K (h₀ := X.base) I.ok.mod.kin M.kp (thn (ha.run pos pins s σ H _ I h) ?_) he hpl
  rintro us s1 ⟨vs, H1, I1, r, q⟩
  exact ⟨I1.kIn, run_makeE M F hr hb (hx σ) I1 r q⟩
end
end FD
set_option Elab.async false
set_option linter.all false
set_option maxRecDepth 100000
set_option maxHeartbeats 4000000
noncomputable section
namespace FD
open PySem L2 PyProof.Rows PySem.Spec
def b_is_int : CS :=
    (CS.ret (CE.andV (CE.isTy "int" (CE.var 0)) (CE.andV (CE.notV (CE.isTy "bool" (CE.var 0))) (CE.leLe (CE.var 1) (CE.var 0) (CE.var 2)))))
def f_is_int : List D → RF := runF b_is_int 3

def b_ten_to : CS :=
    (CS.seq (CS.asg 1 (CE.int 1))
    (CS.seq (CS.for (CI.rng1 (CE.var 0)) (CG.name 2) (CS.augMul 1 (CE.int 10)))
    (CS.ret (CE.var 1))))
def f_ten_to : List D → RF := runF b_ten_to 3

def b_is_number : CS :=
    (CS.ret (CE.call 3 f_is_int (CA.cons (CE.var 0) (CA.cons (CE.int 1) (CA.cons (CE.sub (CE.call 1 f_ten_to (CA.cons (CE.int 60) CA.nil)) (CE.int 1)) CA.nil)))))
def f_is_number : List D → RF := runF b_is_number 1

def b_is_beginning : CS :=
    (CS.ret (CE.call 3 f_is_int (CA.cons (CE.var 0) (CA.cons (CE.int 1) (CA.cons (CE.int 9999) CA.nil)))))
def f_is_beginning : List D → RF := runF b_is_beginning 1

def b_check_number : CS :=
    (CS.ite (CT.not (CT.of (CE.call 1 f_is_number (CA.cons (CE.var 0) CA.nil)))) (CS.raise 0) CS.nil)
def f_check_number : List D → RF := runF b_check_number 1

def b_check_beginning : CS :=
    (CS.ite (CT.not (CT.of (CE.call 1 f_is_beginning (CA.cons (CE.var 0) CA.nil)))) (CS.raise 1) CS.nil)
def f_check_beginning : List D → RF := runF b_check_beginning 1

def b_check_count : CS :=
    (CS.ite (CT.not (CT.of (CE.call 3 f_is_int (CA.cons (CE.var 0) (CA.cons (CE.var 1) (CA.cons (CE.var 2) CA.nil)))))) (CS.raise 2) CS.nil)
def f_check_count : List D → RF := runF b_check_count 3

def b_size_of : CS :=
    (CS.ret (CE.len (CA.cons (CE.strI (CA.cons (CE.var 0) CA.nil)) CA.nil)))
def f_size_of : List D → RF := runF b_size_of 1

def b_first_of : CS :=
    (CS.ret (CE.intS (CA.cons (CE.sliceS (CE.strI (CA.cons (CE.var 0) CA.nil)) CO.none (CO.some (CE.var 1))) CA.nil)))
def f_first_of : List D → RF := runF b_first_of 2

def b_begins_of : CS :=
    (CS.ret (CE.eq (CE.sliceS (CE.strI (CA.cons (CE.var 0) CA.nil)) CO.none (CO.some (CE.call 1 f_size_of (CA.cons (CE.var 1) CA.nil)))) (CE.strI (CA.cons (CE.var 1) CA.nil))))
def f_begins_of : List D → RF := runF b_begins_of 2

def b_digit_count : CS :=
    (CS.seq (CS.expr (CE.call 1 f_check_number (CA.cons (CE.var 0) CA.nil)))
    (CS.ret (CE.call 1 f_size_of (CA.cons (CE.var 0) CA.nil))))
def f_digit_count : List D → RF := runF b_digit_count 1

def b_first_digits : CS :=
    (CS.seq (CS.expr (CE.call 1 f_check_number (CA.cons (CE.var 0) CA.nil)))
    (CS.seq (CS.expr (CE.call 3 f_check_count (CA.cons (CE.var 1) (CA.cons (CE.int 1) (CA.cons (CE.int 4) CA.nil)))))
    (CS.ret (CE.call 2 f_first_of (CA.cons (CE.var 0) (CA.cons (CE.var 1) CA.nil))))))
def f_first_digits : List D → RF := runF b_first_digits 2

def b_begins : CS :=
    (CS.seq (CS.expr (CE.call 1 f_check_number (CA.cons (CE.var 0) CA.nil)))
    (CS.seq (CS.expr (CE.call 1 f_check_beginning (CA.cons (CE.var 1) CA.nil)))
    (CS.ret (CE.call 2 f_begins_of (CA.cons (CE.var 0) (CA.cons (CE.var 1) CA.nil))))))
def f_begins : List D → RF := runF b_begins 2

def b_is_within : CS :=
    (CS.seq (CS.expr (CE.call 1 f_check_beginning (CA.cons (CE.var 0) CA.nil)))
    (CS.seq (CS.expr (CE.call 1 f_check_beginning (CA.cons (CE.var 1) CA.nil)))
    (CS.ret (CE.call 2 f_begins_of (CA.cons (CE.var 0) (CA.cons (CE.var 1) CA.nil))))))
def f_is_within : List D → RF := runF b_is_within 2

def b_are_apart : CS :=
    (CS.seq (CS.expr (CE.call 1 f_check_beginning (CA.cons (CE.var 0) CA.nil)))
    (CS.seq (CS.expr (CE.call 1 f_check_beginning (CA.cons (CE.var 1) CA.nil)))
    (CS.ret (CE.andV (CE.notV (CE.call 2 f_begins_of (CA.cons (CE.var 0) (CA.cons (CE.var 1) CA.nil)))) (CE.notV (CE.call 2 f_begins_of (CA.cons (CE.var 1) (CA.cons (CE.var 0) CA.nil))))))))
def f_are_apart : List D → RF := runF b_are_apart 2

def b_longer : CS :=
    (CS.seq (CS.expr (CE.call 1 f_check_beginning (CA.cons (CE.var 0) CA.nil)))
    (CS.seq (CS.expr (CE.call 3 f_check_count (CA.cons (CE.var 1) (CA.cons (CE.int 1) (CA.cons (CE.int 4) CA.nil)))))
    (CS.seq (CS.asg 2 (CE.sub (CE.var 1) (CE.call 1 f_size_of (CA.cons (CE.var 0) CA.nil))))
    (CS.seq (CS.ite (CT.of (CE.lt (CE.var 2) (CE.int 0))) (CS.ret (CE.lst CA.nil)) CS.nil)
    (CS.ret (CE.ofL (CL.listRg2 (CE.mul (CE.var 0) (CE.call 1 f_ten_to (CA.cons (CE.var 2) CA.nil))) (CE.mul (CE.add (CE.var 0) (CE.int 1)) (CE.call 1 f_ten_to (CA.cons (CE.var 2) CA.nil))))))))))
def f_longer : List D → RF := runF b_longer 3

def b_stretch_of : CS :=
    (CS.seq (CS.asg 2 (CE.call 1 f_ten_to (CA.cons (CE.sub (CE.var 1) (CE.call 1 f_size_of (CA.cons (CE.var 0) CA.nil))) CA.nil)))
    (CS.ret (CE.tup (CA.cons (CE.mul (CE.var 0) (CE.var 2)) (CA.cons (CE.sub (CE.mul (CE.add (CE.var 0) (CE.int 1)) (CE.var 2)) (CE.int 1)) CA.nil)))))
def f_stretch_of : List D → RF := runF b_stretch_of 3

def b_stretch : CS :=
    (CS.seq (CS.expr (CE.call 1 f_check_beginning (CA.cons (CE.var 0) CA.nil)))
    (CS.seq (CS.expr (CE.call 3 f_check_count (CA.cons (CE.var 1) (CA.cons (CE.int 1) (CA.cons (CE.int 60) CA.nil)))))
    (CS.seq (CS.ite (CT.of (CE.lt (CE.var 1) (CE.call 1 f_size_of (CA.cons (CE.var 0) CA.nil)))) (CS.raise 4) CS.nil)
    (CS.ret (CE.call 2 f_stretch_of (CA.cons (CE.var 0) (CA.cons (CE.var 1) CA.nil)))))))
def f_stretch : List D → RF := runF b_stretch 2

def b_up_to_of : CS :=
    (CS.seq (CS.asg 2 (CE.int 0))
    (CS.seq (CS.for (CI.rng2 (CE.call 1 f_size_of (CA.cons (CE.var 0) CA.nil)) (CE.add (CE.call 1 f_size_of (CA.cons (CE.var 1) CA.nil)) (CE.int 1))) (CG.name 3) (CS.seq (CS.asgT (CG.tup [4, 5]) (CE.call 2 f_stretch_of (CA.cons (CE.var 0) (CA.cons (CE.var 3) CA.nil))))
    (CS.ite (CT.of (CE.ge (CE.var 1) (CE.var 4))) (CS.augAdd 2 (CE.add (CE.sub (CE.min2 (CA.cons (CE.var 5) (CA.cons (CE.var 1) CA.nil))) (CE.var 4)) (CE.int 1))) CS.nil)))
    (CS.ret (CE.var 2))))
def f_up_to_of : List D → RF := runF b_up_to_of 6

def b_count_up_to : CS :=
    (CS.seq (CS.expr (CE.call 1 f_check_beginning (CA.cons (CE.var 0) CA.nil)))
    (CS.seq (CS.expr (CE.call 1 f_check_number (CA.cons (CE.var 1) CA.nil)))
    (CS.ret (CE.call 2 f_up_to_of (CA.cons (CE.var 0) (CA.cons (CE.var 1) CA.nil))))))
def f_count_up_to : List D → RF := runF b_count_up_to 2

def b_count_between : CS :=
    (CS.seq (CS.expr (CE.call 1 f_check_beginning (CA.cons (CE.var 0) CA.nil)))
    (CS.seq (CS.expr (CE.call 1 f_check_number (CA.cons (CE.var 1) CA.nil)))
    (CS.seq (CS.expr (CE.call 1 f_check_number (CA.cons (CE.var 2) CA.nil)))
    (CS.seq (CS.ite (CT.of (CE.gt (CE.var 1) (CE.var 2))) (CS.ret (CE.int 0)) CS.nil)
    (CS.ret (CE.sub (CE.call 2 f_up_to_of (CA.cons (CE.var 0) (CA.cons (CE.var 2) CA.nil))) (CE.ite (CT.of (CE.gt (CE.var 1) (CE.int 1))) (CE.call 2 f_up_to_of (CA.cons (CE.var 0) (CA.cons (CE.sub (CE.var 1) (CE.int 1)) CA.nil))) (CE.int 0))))))))
def f_count_between : List D → RF := runF b_count_between 3

def b_least_from : CS :=
    (CS.seq (CS.expr (CE.call 1 f_check_beginning (CA.cons (CE.var 0) CA.nil)))
    (CS.seq (CS.expr (CE.call 1 f_check_number (CA.cons (CE.var 1) CA.nil)))
    (CS.seq (CS.ite (CT.of (CE.call 2 f_begins_of (CA.cons (CE.var 1) (CA.cons (CE.var 0) CA.nil)))) (CS.ret (CE.var 1)) CS.nil)
    (CS.seq (CS.asg 2 (CE.max2 (CA.cons (CE.call 1 f_size_of (CA.cons (CE.var 1) CA.nil)) (CA.cons (CE.call 1 f_size_of (CA.cons (CE.var 0) CA.nil)) CA.nil))))
    (CS.seq (CS.asgT (CG.tup [3, 4]) (CE.call 2 f_stretch_of (CA.cons (CE.var 0) (CA.cons (CE.var 2) CA.nil))))
    (CS.ret (CE.ite (CT.of (CE.ge (CE.var 3) (CE.var 1))) (CE.var 3) (CE.ix (CE.call 2 f_stretch_of (CA.cons (CE.var 0) (CA.cons (CE.add (CE.var 2) (CE.int 1)) CA.nil))) (CE.int 0)))))))))
def f_least_from : List D → RF := runF b_least_from 5

def b_last_before : CS :=
    (CS.seq (CS.expr (CE.call 1 f_check_beginning (CA.cons (CE.var 0) CA.nil)))
    (CS.seq (CS.expr (CE.call 1 f_check_number (CA.cons (CE.var 1) CA.nil)))
    (CS.seq (CS.for (CI.rng3 (CE.call 1 f_size_of (CA.cons (CE.var 1) CA.nil)) (CE.sub (CE.call 1 f_size_of (CA.cons (CE.var 0) CA.nil)) (CE.int 1)) (CE.neg (CE.int 1))) (CG.name 2) (CS.seq (CS.asgT (CG.tup [3, 4]) (CE.call 2 f_stretch_of (CA.cons (CE.var 0) (CA.cons (CE.var 2) CA.nil))))
    (CS.ite (CT.of (CE.lt (CE.var 3) (CE.var 1))) (CS.ret (CE.min2 (CA.cons (CE.var 4) (CA.cons (CE.sub (CE.var 1) (CE.int 1)) CA.nil)))) CS.nil)))
    (CS.raise 4))))
def f_last_before : List D → RF := runF b_last_before 5

def b_number_at : CS :=
    (CS.seq (CS.expr (CE.call 1 f_check_beginning (CA.cons (CE.var 0) CA.nil)))
    (CS.seq (CS.expr (CE.call 3 f_check_count (CA.cons (CE.var 1) (CA.cons (CE.int 0) (CA.cons (CE.int 1000000000) CA.nil)))))
    (CS.seq (CS.par 2 3 (CE.var 1) (CE.int 0))
    (CS.seq (CS.whl 2000 (CT.of (CE.ge (CE.var 2) (CE.call 1 f_ten_to (CA.cons (CE.var 3) CA.nil)))) (CS.seq (CS.augSub 2 (CE.call 1 f_ten_to (CA.cons (CE.var 3) CA.nil)))
    (CS.augAdd 3 (CE.int 1))))
    (CS.ret (CE.add (CE.mul (CE.var 0) (CE.call 1 f_ten_to (CA.cons (CE.var 3) CA.nil))) (CE.var 2)))))))
def f_number_at : List D → RF := runF b_number_at 4

def b_rank_of : CS :=
    (CS.seq (CS.expr (CE.call 1 f_check_beginning (CA.cons (CE.var 0) CA.nil)))
    (CS.seq (CS.expr (CE.call 1 f_check_number (CA.cons (CE.var 1) CA.nil)))
    (CS.seq (CS.ite (CT.not (CT.of (CE.call 2 f_begins_of (CA.cons (CE.var 1) (CA.cons (CE.var 0) CA.nil))))) (CS.raise 4) CS.nil)
    (CS.ret (CE.sub (CE.call 2 f_up_to_of (CA.cons (CE.var 0) (CA.cons (CE.var 1) CA.nil))) (CE.int 1))))))
def f_rank_of : List D → RF := runF b_rank_of 2

def b_check_base : CS :=
    (CS.ite (CT.not (CT.of (CE.call 3 f_is_int (CA.cons (CE.var 0) (CA.cons (CE.int 2) (CA.cons (CE.int 99) CA.nil)))))) (CS.raise 0) CS.nil)
def f_check_base : List D → RF := runF b_check_base 1

def b_powers_of : CS :=
    (CS.seq (CS.asgOw 2 (CL.disp (CA.cons (CE.int 1) CA.nil)))
    (CS.seq (CS.for (CI.rng1 (CE.var 1)) (CG.name 3) (CS.append 2 (CE.mul (CE.ownIx 2 (CE.neg (CE.int 1))) (CE.var 0))))
    (CS.freeze 2 (CS.ret (CE.var 2)))))
def f_powers_of : List D → RF := runF b_powers_of 4

def b_places_of : CS :=
    (CS.ret (CE.ofL (CL.lc (CI.enum (CE.call 2 f_powers_of (CA.cons (CE.var 0) (CA.cons (CE.var 2) CA.nil)))) (CGc.tup [3, 4]) (CT.of (CE.call 2 f_begins_of (CA.cons (CE.var 4) (CA.cons (CE.var 1) CA.nil)))) (CE.var 3))))
def f_places_of : List D → RF := runF b_places_of 5

def b_check_all : CS :=
    (CS.seq (CS.expr (CE.call 1 f_check_base (CA.cons (CE.var 0) CA.nil)))
    (CS.seq (CS.expr (CE.call 1 f_check_beginning (CA.cons (CE.var 1) CA.nil)))
    (CS.expr (CE.call 3 f_check_count (CA.cons (CE.var 2) (CA.cons (CE.int 0) (CA.cons (CE.int 300) CA.nil)))))))
def f_check_all : List D → RF := runF b_check_all 3

def b_power_places : CS :=
    (CS.seq (CS.expr (CE.call 3 f_check_all (CA.cons (CE.var 0) (CA.cons (CE.var 1) (CA.cons (CE.var 2) CA.nil)))))
    (CS.ret (CE.call 3 f_places_of (CA.cons (CE.var 0) (CA.cons (CE.var 1) (CA.cons (CE.var 2) CA.nil))))))
def f_power_places : List D → RF := runF b_power_places 3

def b_first_power : CS :=
    (CS.seq (CS.expr (CE.call 3 f_check_all (CA.cons (CE.var 0) (CA.cons (CE.var 1) (CA.cons (CE.var 2) CA.nil)))))
    (CS.seq (CS.asg 3 (CE.call 3 f_places_of (CA.cons (CE.var 0) (CA.cons (CE.var 1) (CA.cons (CE.var 2) CA.nil)))))
    (CS.ret (CE.ite (CT.of (CE.ne (CE.var 3) (CE.lst CA.nil))) (CE.ix (CE.var 3) (CE.int 0)) CE.non))))
def f_first_power : List D → RF := runF b_first_power 4

def b_waits : CS :=
    (CS.seq (CS.expr (CE.call 3 f_check_all (CA.cons (CE.var 0) (CA.cons (CE.var 1) (CA.cons (CE.var 2) CA.nil)))))
    (CS.seq (CS.asg 3 (CE.call 3 f_places_of (CA.cons (CE.var 0) (CA.cons (CE.var 1) (CA.cons (CE.var 2) CA.nil)))))
    (CS.ret (CE.ofL (CL.lc (CI.zip (CE.var 3) (CE.ofL (CL.slice (CE.var 3) (CO.some (CE.int 1)) CO.none))) (CGc.tup [4, 5]) CT.yes (CE.sub (CE.var 5) (CE.var 4)))))))
def f_waits : List D → RF := runF b_waits 6

def b_longest_wait : CS :=
    (CS.seq (CS.expr (CE.call 3 f_check_all (CA.cons (CE.var 0) (CA.cons (CE.var 1) (CA.cons (CE.var 2) CA.nil)))))
    (CS.seq (CS.asg 3 (CE.call 3 f_places_of (CA.cons (CE.var 0) (CA.cons (CE.var 1) (CA.cons (CE.var 2) CA.nil)))))
    (CS.seq (CS.ite (CT.of (CE.lt (CE.len (CA.cons (CE.var 3) CA.nil)) (CE.int 2))) (CS.raise 4) CS.nil)
    (CS.seq (CS.asg 4 (CE.ofL (CL.lc (CI.zip (CE.var 3) (CE.ofL (CL.slice (CE.var 3) (CO.some (CE.int 1)) CO.none))) (CGc.tup [5, 6]) CT.yes (CE.sub (CE.var 6) (CE.var 5)))))
    (CS.ret (CE.tup (CA.cons (CE.ix (CE.var 3) (CE.index (CE.var 4) (CE.maxL (CA.cons (CE.var 4) CA.nil)))) (CA.cons (CE.maxL (CA.cons (CE.var 4) CA.nil)) CA.nil))))))))
def f_longest_wait : List D → RF := runF b_longest_wait 7

def b_digit_table : CS :=
    (CS.seq (CS.expr (CE.call 1 f_check_base (CA.cons (CE.var 0) CA.nil)))
    (CS.seq (CS.expr (CE.call 3 f_check_count (CA.cons (CE.var 1) (CA.cons (CE.int 0) (CA.cons (CE.int 300) CA.nil)))))
    (CS.seq (CS.asgOw 2 (CL.rep (CE.lst (CA.cons (CE.int 0) CA.nil)) (CE.int 9)))
    (CS.seq (CS.for (CI.list (CE.call 2 f_powers_of (CA.cons (CE.var 0) (CA.cons (CE.var 1) CA.nil)))) (CG.name 3) (CS.augIx 2 (CE.sub (CE.call 2 f_first_of (CA.cons (CE.var 3) (CA.cons (CE.int 1) CA.nil))) (CE.int 1)) (CE.int 1)))
    (CS.freeze 2 (CS.ret (CE.var 2)))))))
def f_digit_table : List D → RF := runF b_digit_table 4

def b_never : CS :=
    (CS.seq (CS.expr (CE.call 1 f_check_base (CA.cons (CE.var 0) CA.nil)))
    (CS.seq (CS.expr (CE.call 3 f_check_count (CA.cons (CE.var 1) (CA.cons (CE.int 1) (CA.cons (CE.int 3) CA.nil)))))
    (CS.seq (CS.expr (CE.call 3 f_check_count (CA.cons (CE.var 2) (CA.cons (CE.int 0) (CA.cons (CE.int 300) CA.nil)))))
    (CS.seq (CS.asgOw 3 (CL.rep (CE.lst (CA.cons (CE.bl false) CA.nil)) (CE.call 1 f_ten_to (CA.cons (CE.var 1) CA.nil))))
    (CS.seq (CS.for (CI.list (CE.call 2 f_powers_of (CA.cons (CE.var 0) (CA.cons (CE.var 2) CA.nil)))) (CG.name 4) (CS.ite (CT.of (CE.ge (CE.call 1 f_size_of (CA.cons (CE.var 4) CA.nil)) (CE.var 1))) (CS.setIx 3 (CE.call 2 f_first_of (CA.cons (CE.var 4) (CA.cons (CE.var 1) CA.nil))) (CE.bl true)) CS.nil))
    (CS.freeze 3 (CS.ret (CE.ofL (CL.lc (CI.rng2 (CE.call 1 f_ten_to (CA.cons (CE.sub (CE.var 1) (CE.int 1)) CA.nil)) (CE.call 1 f_ten_to (CA.cons (CE.var 1) CA.nil))) (CGc.name 5) (CT.not (CT.of (CE.ix (CE.var 3) (CE.var 5)))) (CE.var 5))))))))))
def f_never : List D → RF := runF b_never 6

def b_powers_with : CS :=
    (CS.seq (CS.expr (CE.call 1 f_check_base (CA.cons (CE.var 0) CA.nil)))
    (CS.seq (CS.expr (CE.call 3 f_check_count (CA.cons (CE.var 1) (CA.cons (CE.int 1) (CA.cons (CE.int 600) CA.nil)))))
    (CS.ret (CE.ofL (CL.lc (CI.enum (CE.call 2 f_powers_of (CA.cons (CE.var 0) (CA.cons (CE.int 300) CA.nil)))) (CGc.tup [2, 3]) (CT.of (CE.eq (CE.call 1 f_size_of (CA.cons (CE.var 3) CA.nil)) (CE.var 1))) (CE.var 2))))))
def f_powers_with : List D → RF := runF b_powers_with 4

def b_check_step : CS :=
    (CS.ite (CT.not (CT.of (CE.call 3 f_is_int (CA.cons (CE.var 0) (CA.cons (CE.int 1) (CA.cons (CE.int 1000000) CA.nil)))))) (CS.raise 0) CS.nil)
def f_check_step : List D → RF := runF b_check_step 1

def b_first_of_stretch : CS :=
    (CS.seq (CS.asg 3 (CE.mul (CE.div (CE.sub (CE.add (CE.var 1) (CE.var 0)) (CE.int 1)) (CE.var 0)) (CE.var 0)))
    (CS.ret (CE.ite (CT.of (CE.le (CE.var 3) (CE.var 2))) (CE.var 3) CE.non)))
def f_first_of_stretch : List D → RF := runF b_first_of_stretch 4

def b_first_multiple : CS :=
    (CS.seq (CS.expr (CE.call 1 f_check_step (CA.cons (CE.var 0) CA.nil)))
    (CS.seq (CS.expr (CE.call 1 f_check_beginning (CA.cons (CE.var 1) CA.nil)))
    (CS.seq (CS.asg 2 (CE.call 1 f_size_of (CA.cons (CE.var 1) CA.nil)))
    (CS.seq (CS.asgT (CG.tup [3, 4]) (CE.call 2 f_stretch_of (CA.cons (CE.var 1) (CA.cons (CE.var 2) CA.nil))))
    (CS.seq (CS.whl 2000 (CT.of (CE.isN (CE.call 3 f_first_of_stretch (CA.cons (CE.var 0) (CA.cons (CE.var 3) (CA.cons (CE.var 4) CA.nil)))) CE.non)) (CS.seq (CS.augAdd 2 (CE.int 1))
    (CS.asgT (CG.tup [3, 4]) (CE.call 2 f_stretch_of (CA.cons (CE.var 1) (CA.cons (CE.var 2) CA.nil))))))
    (CS.ret (CE.call 3 f_first_of_stretch (CA.cons (CE.var 0) (CA.cons (CE.var 3) (CA.cons (CE.var 4) CA.nil))))))))))
def f_first_multiple : List D → RF := runF b_first_multiple 5

def b_multiple_places : CS :=
    (CS.seq (CS.expr (CE.call 1 f_check_step (CA.cons (CE.var 0) CA.nil)))
    (CS.seq (CS.expr (CE.call 1 f_check_beginning (CA.cons (CE.var 1) CA.nil)))
    (CS.seq (CS.expr (CE.call 3 f_check_count (CA.cons (CE.var 2) (CA.cons (CE.int 1) (CA.cons (CE.int 1000) CA.nil)))))
    (CS.ret (CE.ofL (CL.lc (CI.rng2 (CE.int 1) (CE.add (CE.var 2) (CE.int 1))) (CGc.name 3) (CT.of (CE.call 2 f_begins_of (CA.cons (CE.mul (CE.var 0) (CE.var 3)) (CA.cons (CE.var 1) CA.nil)))) (CE.var 3)))))))
def f_multiple_places : List D → RF := runF b_multiple_places 4

def b_count_multiples : CS :=
    (CS.seq (CS.expr (CE.call 1 f_check_step (CA.cons (CE.var 0) CA.nil)))
    (CS.seq (CS.expr (CE.call 1 f_check_beginning (CA.cons (CE.var 1) CA.nil)))
    (CS.seq (CS.expr (CE.call 3 f_check_count (CA.cons (CE.var 2) (CA.cons (CE.int 1) (CA.cons (CE.int 60) CA.nil)))))
    (CS.seq (CS.ite (CT.of (CE.lt (CE.var 2) (CE.call 1 f_size_of (CA.cons (CE.var 1) CA.nil)))) (CS.ret (CE.int 0)) CS.nil)
    (CS.seq (CS.asgT (CG.tup [3, 4]) (CE.call 2 f_stretch_of (CA.cons (CE.var 1) (CA.cons (CE.var 2) CA.nil))))
    (CS.ret (CE.sub (CE.div (CE.var 4) (CE.var 0)) (CE.div (CE.sub (CE.var 3) (CE.int 1)) (CE.var 0)))))))))
def f_count_multiples : List D → RF := runF b_count_multiples 5

def b_scales : CS :=
    (CS.seq (CS.asg 0 (CE.ofL (CL.lc (CI.rng3 (CE.int 12) (CE.int 0) (CE.neg (CE.int 1))) (CGc.name 1) CT.yes (CE.tup (CA.cons (CE.int 1) (CA.cons (CE.call 1 f_ten_to (CA.cons (CE.var 1) CA.nil)) CA.nil))))))
    (CS.ret (CE.cat (CE.var 0) (CE.ofL (CL.lc (CI.rng1 (CE.int 13)) (CGc.name 1) CT.yes (CE.tup (CA.cons (CE.call 1 f_ten_to (CA.cons (CE.var 1) CA.nil)) (CA.cons (CE.int 1) CA.nil))))))))
def f_scales : List D → RF := runF b_scales 2

def b_crosses : CS :=
    (CS.seq (CS.asgT (CG.tup [5, 6]) (CE.var 4))
    (CS.ret (CE.andV (CE.lt (CE.mul (CE.mul (CE.var 2) (CE.var 5)) (CE.ix (CE.var 1) (CE.int 1))) (CE.mul (CE.ix (CE.var 1) (CE.int 0)) (CE.var 6))) (CE.lt (CE.mul (CE.ix (CE.var 0) (CE.int 0)) (CE.var 6)) (CE.mul (CE.mul (CE.var 3) (CE.var 5)) (CE.ix (CE.var 0) (CE.int 1)))))))
def f_crosses : List D → RF := runF b_crosses 7

def b_meets : CS :=
    (CS.ret (CE.any (CA.cons (CE.ofL (CL.lc (CI.list (CE.call 0 f_scales CA.nil)) (CGc.name 3) CT.yes (CE.call 5 f_crosses (CA.cons (CE.var 0) (CA.cons (CE.var 1) (CA.cons (CE.var 2) (CA.cons (CE.add (CE.var 2) (CE.int 1)) (CA.cons (CE.var 3) CA.nil)))))))) CA.nil)))
def f_meets : List D → RF := runF b_meets 4

def b_all_meeting : CS :=
    (CS.seq (CS.asgT (CG.tup [3, 4]) (CE.tup (CA.cons (CE.call 1 f_ten_to (CA.cons (CE.sub (CE.var 2) (CE.int 1)) CA.nil)) (CA.cons (CE.call 1 f_ten_to (CA.cons (CE.var 2) CA.nil)) CA.nil))))
    (CS.seq (CS.asg 5 (CE.ofL (CL.lc (CI.list (CE.call 0 f_scales CA.nil)) (CGc.name 8) (CT.of (CE.call 5 f_crosses (CA.cons (CE.var 0) (CA.cons (CE.var 1) (CA.cons (CE.var 3) (CA.cons (CE.var 4) (CA.cons (CE.var 8) CA.nil))))))) (CE.var 8))))
    (CS.seq (CS.asgOw 6 (CL.disp CA.nil))
    (CS.seq (CS.for (CI.rng2 (CE.var 3) (CE.var 4)) (CG.name 7) (CS.ite (CT.of (CE.any (CA.cons (CE.ofL (CL.lc (CI.list (CE.var 5)) (CGc.name 8) CT.yes (CE.call 5 f_crosses (CA.cons (CE.var 0) (CA.cons (CE.var 1) (CA.cons (CE.var 7) (CA.cons (CE.add (CE.var 7) (CE.int 1)) (CA.cons (CE.var 8) CA.nil)))))))) CA.nil))) (CS.append 6 (CE.var 7)) CS.nil))
    (CS.freeze 6 (CS.ret (CE.var 6)))))))
def f_all_meeting : List D → RF := runF b_all_meeting 9

def b_product_bounds : CS :=
    (CS.ret (CE.tup (CA.cons (CE.tup (CA.cons (CE.mul (CE.var 0) (CE.var 1)) (CA.cons (CE.int 1) CA.nil))) (CA.cons (CE.tup (CA.cons (CE.mul (CE.add (CE.var 0) (CE.int 1)) (CE.add (CE.var 1) (CE.int 1))) (CA.cons (CE.int 1) CA.nil))) CA.nil))))
def f_product_bounds : List D → RF := runF b_product_bounds 2

def b_products : CS :=
    (CS.seq (CS.expr (CE.call 1 f_check_beginning (CA.cons (CE.var 0) CA.nil)))
    (CS.seq (CS.expr (CE.call 1 f_check_beginning (CA.cons (CE.var 1) CA.nil)))
    (CS.seq (CS.expr (CE.call 3 f_check_count (CA.cons (CE.var 2) (CA.cons (CE.int 1) (CA.cons (CE.int 3) CA.nil)))))
    (CS.seq (CS.asgT (CG.tup [3, 4]) (CE.call 2 f_product_bounds (CA.cons (CE.var 0) (CA.cons (CE.var 1) CA.nil))))
    (CS.ret (CE.call 3 f_all_meeting (CA.cons (CE.var 3) (CA.cons (CE.var 4) (CA.cons (CE.var 2) CA.nil)))))))))
def f_products : List D → RF := runF b_products 5

def b_can_be_product : CS :=
    (CS.seq (CS.expr (CE.call 1 f_check_beginning (CA.cons (CE.var 0) CA.nil)))
    (CS.seq (CS.expr (CE.call 1 f_check_beginning (CA.cons (CE.var 1) CA.nil)))
    (CS.seq (CS.expr (CE.call 1 f_check_beginning (CA.cons (CE.var 2) CA.nil)))
    (CS.seq (CS.asgT (CG.tup [3, 4]) (CE.call 2 f_product_bounds (CA.cons (CE.var 0) (CA.cons (CE.var 1) CA.nil))))
    (CS.ret (CE.call 3 f_meets (CA.cons (CE.var 3) (CA.cons (CE.var 4) (CA.cons (CE.var 2) CA.nil)))))))))
def f_can_be_product : List D → RF := runF b_can_be_product 5

def b_least_behind : CS :=
    (CS.seq (CS.asg 4 (CE.call 1 f_ten_to (CA.cons (CE.var 3) CA.nil)))
    (CS.seq (CS.asg 5 (CE.mul (CE.mul (CE.mul (CE.var 0) (CE.var 1)) (CE.var 4)) (CE.var 4)))
    (CS.seq (CS.for (CI.rng2 (CE.call 1 f_size_of (CA.cons (CE.var 5) CA.nil)) (CE.add (CE.call 1 f_size_of (CA.cons (CE.var 5) CA.nil)) (CE.int 3))) (CG.name 6) (CS.ite (CT.of (CE.ge (CE.var 6) (CE.call 1 f_size_of (CA.cons (CE.var 2) CA.nil)))) (CS.seq (CS.asg 7 (CE.mul (CE.var 2) (CE.call 1 f_ten_to (CA.cons (CE.sub (CE.var 6) (CE.call 1 f_size_of (CA.cons (CE.var 2) CA.nil))) CA.nil))))
    (CS.seq (CS.par 8 9 (CE.neg (CE.int 1)) (CE.var 4))
    (CS.seq (CS.whl 2000 (CT.of (CE.gt (CE.sub (CE.var 9) (CE.var 8)) (CE.int 1))) (CS.seq (CS.asg 10 (CE.div (CE.add (CE.var 8) (CE.var 9)) (CE.int 2)))
    (CS.ite (CT.of (CE.ge (CE.mul (CE.add (CE.mul (CE.var 0) (CE.var 4)) (CE.var 10)) (CE.add (CE.mul (CE.var 1) (CE.var 4)) (CE.var 10))) (CE.var 7))) (CS.asg 9 (CE.var 10)) (CS.asg 8 (CE.var 10)))))
    (CS.ite (CT.and (CT.of (CE.lt (CE.var 9) (CE.var 4))) (CT.of (CE.call 2 f_begins_of (CA.cons (CE.mul (CE.add (CE.mul (CE.var 0) (CE.var 4)) (CE.var 9)) (CE.add (CE.mul (CE.var 1) (CE.var 4)) (CE.var 9))) (CA.cons (CE.var 2) CA.nil))))) (CS.ret (CE.var 9)) CS.nil)))) CS.nil))
    (CS.ret CE.non))))
def f_least_behind : List D → RF := runF b_least_behind 11

def b_product_example : CS :=
    (CS.seq (CS.expr (CE.call 1 f_check_beginning (CA.cons (CE.var 0) CA.nil)))
    (CS.seq (CS.expr (CE.call 1 f_check_beginning (CA.cons (CE.var 1) CA.nil)))
    (CS.seq (CS.expr (CE.call 1 f_check_beginning (CA.cons (CE.var 2) CA.nil)))
    (CS.seq (CS.asgT (CG.tup [3, 4]) (CE.call 2 f_product_bounds (CA.cons (CE.var 0) (CA.cons (CE.var 1) CA.nil))))
    (CS.seq (CS.ite (CT.not (CT.of (CE.call 3 f_meets (CA.cons (CE.var 3) (CA.cons (CE.var 4) (CA.cons (CE.var 2) CA.nil)))))) (CS.raise 4) CS.nil)
    (CS.seq (CS.asg 5 (CE.int 0))
    (CS.seq (CS.asg 6 (CE.call 4 f_least_behind (CA.cons (CE.var 0) (CA.cons (CE.var 1) (CA.cons (CE.var 2) (CA.cons (CE.var 5) CA.nil))))))
    (CS.seq (CS.whl 2000 (CT.of (CE.isN (CE.var 6) CE.non)) (CS.seq (CS.augAdd 5 (CE.int 1))
    (CS.asg 6 (CE.call 4 f_least_behind (CA.cons (CE.var 0) (CA.cons (CE.var 1) (CA.cons (CE.var 2) (CA.cons (CE.var 5) CA.nil))))))))
    (CS.ret (CE.tup (CA.cons (CE.add (CE.mul (CE.var 0) (CE.call 1 f_ten_to (CA.cons (CE.var 5) CA.nil))) (CE.var 6)) (CA.cons (CE.add (CE.mul (CE.var 1) (CE.call 1 f_ten_to (CA.cons (CE.var 5) CA.nil))) (CE.var 6)) CA.nil))))))))))))
def f_product_example : List D → RF := runF b_product_example 7

def b_sums : CS :=
    (CS.seq (CS.expr (CE.call 1 f_check_beginning (CA.cons (CE.var 0) CA.nil)))
    (CS.seq (CS.expr (CE.call 1 f_check_beginning (CA.cons (CE.var 1) CA.nil)))
    (CS.seq (CS.expr (CE.call 3 f_check_count (CA.cons (CE.var 2) (CA.cons (CE.int 1) (CA.cons (CE.int 3) CA.nil)))))
    (CS.seq (CS.par 3 4 (CE.mul (CE.var 0) (CE.call 1 f_ten_to (CA.cons (CE.sub (CE.int 4) (CE.call 1 f_size_of (CA.cons (CE.var 0) CA.nil))) CA.nil))) (CE.mul (CE.var 1) (CE.call 1 f_ten_to (CA.cons (CE.sub (CE.int 4) (CE.call 1 f_size_of (CA.cons (CE.var 1) CA.nil))) CA.nil))))
    (CS.seq (CS.par 5 6 (CE.call 1 f_ten_to (CA.cons (CE.sub (CE.int 4) (CE.call 1 f_size_of (CA.cons (CE.var 0) CA.nil))) CA.nil)) (CE.call 1 f_ten_to (CA.cons (CE.sub (CE.int 4) (CE.call 1 f_size_of (CA.cons (CE.var 1) CA.nil))) CA.nil)))
    (CS.ret (CE.call 3 f_all_meeting (CA.cons (CE.tup (CA.cons (CE.add (CE.var 3) (CE.var 4)) (CA.cons (CE.int 1) CA.nil))) (CA.cons (CE.tup (CA.cons (CE.add (CE.add (CE.add (CE.var 3) (CE.var 5)) (CE.var 4)) (CE.var 6)) (CA.cons (CE.int 1) CA.nil))) (CA.cons (CE.var 2) CA.nil))))))))))
def f_sums : List D → RF := runF b_sums 7

def b_quotients : CS :=
    (CS.seq (CS.expr (CE.call 1 f_check_beginning (CA.cons (CE.var 0) CA.nil)))
    (CS.seq (CS.expr (CE.call 1 f_check_beginning (CA.cons (CE.var 1) CA.nil)))
    (CS.seq (CS.expr (CE.call 3 f_check_count (CA.cons (CE.var 2) (CA.cons (CE.int 1) (CA.cons (CE.int 3) CA.nil)))))
    (CS.ret (CE.call 3 f_all_meeting (CA.cons (CE.tup (CA.cons (CE.var 0) (CA.cons (CE.add (CE.var 1) (CE.int 1)) CA.nil))) (CA.cons (CE.tup (CA.cons (CE.add (CE.var 0) (CE.int 1)) (CA.cons (CE.var 1) CA.nil))) (CA.cons (CE.var 2) CA.nil))))))))
def f_quotients : List D → RF := runF b_quotients 3

def b_can_be_quotient : CS :=
    (CS.seq (CS.expr (CE.call 1 f_check_beginning (CA.cons (CE.var 0) CA.nil)))
    (CS.seq (CS.expr (CE.call 1 f_check_beginning (CA.cons (CE.var 1) CA.nil)))
    (CS.seq (CS.expr (CE.call 1 f_check_beginning (CA.cons (CE.var 2) CA.nil)))
    (CS.ret (CE.call 3 f_meets (CA.cons (CE.tup (CA.cons (CE.var 0) (CA.cons (CE.add (CE.var 1) (CE.int 1)) CA.nil))) (CA.cons (CE.tup (CA.cons (CE.add (CE.var 0) (CE.int 1)) (CA.cons (CE.var 1) CA.nil))) (CA.cons (CE.var 2) CA.nil))))))))
def f_can_be_quotient : List D → RF := runF b_can_be_quotient 3

def b_squares : CS :=
    (CS.seq (CS.expr (CE.call 1 f_check_beginning (CA.cons (CE.var 0) CA.nil)))
    (CS.seq (CS.expr (CE.call 3 f_check_count (CA.cons (CE.var 1) (CA.cons (CE.int 1) (CA.cons (CE.int 3) CA.nil)))))
    (CS.ret (CE.call 3 f_all_meeting (CA.cons (CE.tup (CA.cons (CE.mul (CE.var 0) (CE.var 0)) (CA.cons (CE.int 1) CA.nil))) (CA.cons (CE.tup (CA.cons (CE.mul (CE.add (CE.var 0) (CE.int 1)) (CE.add (CE.var 0) (CE.int 1))) (CA.cons (CE.int 1) CA.nil))) (CA.cons (CE.var 1) CA.nil)))))))
def f_squares : List D → RF := runF b_squares 2

def b_roots : CS :=
    (CS.seq (CS.expr (CE.call 1 f_check_beginning (CA.cons (CE.var 0) CA.nil)))
    (CS.seq (CS.expr (CE.call 3 f_check_count (CA.cons (CE.var 1) (CA.cons (CE.int 1) (CA.cons (CE.int 3) CA.nil)))))
    (CS.seq (CS.parOw 2 3 (CL.disp CA.nil) (CE.call 0 f_scales CA.nil))
    (CS.seq (CS.for (CI.rng2 (CE.call 1 f_ten_to (CA.cons (CE.sub (CE.var 1) (CE.int 1)) CA.nil)) (CE.call 1 f_ten_to (CA.cons (CE.var 1) CA.nil))) (CG.name 4) (CS.seq (CS.asgT (CG.tup [5, 6]) (CE.tup (CA.cons (CE.tup (CA.cons (CE.mul (CE.var 4) (CE.var 4)) (CA.cons (CE.int 1) CA.nil))) (CA.cons (CE.tup (CA.cons (CE.mul (CE.add (CE.var 4) (CE.int 1)) (CE.add (CE.var 4) (CE.int 1))) (CA.cons (CE.int 1) CA.nil))) CA.nil))))
    (CS.ite (CT.of (CE.any (CA.cons (CE.ofL (CL.lc (CI.list (CE.var 3)) (CGc.name 7) CT.yes (CE.call 5 f_crosses (CA.cons (CE.var 5) (CA.cons (CE.var 6) (CA.cons (CE.var 0) (CA.cons (CE.add (CE.var 0) (CE.int 1)) (CA.cons (CE.var 7) CA.nil)))))))) CA.nil))) (CS.append 2 (CE.var 4)) CS.nil)))
    (CS.freeze 2 (CS.ret (CE.var 2)))))))
def f_roots : List D → RF := runF b_roots 8

def b_root_from : CS :=
    (CS.seq (CS.par 1 2 (CE.int 0) (CE.var 0))
    (CS.seq (CS.whl 2000 (CT.of (CE.gt (CE.sub (CE.var 2) (CE.var 1)) (CE.int 1))) (CS.seq (CS.asg 3 (CE.div (CE.add (CE.var 1) (CE.var 2)) (CE.int 2)))
    (CS.ite (CT.of (CE.lt (CE.mul (CE.var 3) (CE.var 3)) (CE.var 0))) (CS.asg 1 (CE.var 3)) (CS.asg 2 (CE.var 3)))))
    (CS.ret (CE.var 2))))
def f_root_from : List D → RF := runF b_root_from 4

def b_least_root : CS :=
    (CS.seq (CS.expr (CE.call 1 f_check_beginning (CA.cons (CE.var 0) CA.nil)))
    (CS.seq (CS.asg 1 (CE.len (CA.cons (CE.strI (CA.cons (CE.var 0) CA.nil)) CA.nil)))
    (CS.seq (CS.asgT (CG.tup [2, 3]) (CE.call 2 f_stretch_of (CA.cons (CE.var 0) (CA.cons (CE.var 1) CA.nil))))
    (CS.seq (CS.asg 4 (CE.call 1 f_root_from (CA.cons (CE.var 2) CA.nil)))
    (CS.seq (CS.whl 2000 (CT.of (CE.gt (CE.mul (CE.var 4) (CE.var 4)) (CE.var 3))) (CS.seq (CS.augAdd 1 (CE.int 1))
    (CS.seq (CS.asgT (CG.tup [2, 3]) (CE.call 2 f_stretch_of (CA.cons (CE.var 0) (CA.cons (CE.var 1) CA.nil))))
    (CS.asg 4 (CE.call 1 f_root_from (CA.cons (CE.var 2) CA.nil))))))
    (CS.ret (CE.var 4)))))))
def f_least_root : List D → RF := runF b_least_root 5

def b_roots_with : CS :=
    (CS.seq (CS.expr (CE.call 1 f_check_beginning (CA.cons (CE.var 0) CA.nil)))
    (CS.seq (CS.expr (CE.call 3 f_check_count (CA.cons (CE.var 1) (CA.cons (CE.int 1) (CA.cons (CE.int 60) CA.nil)))))
    (CS.seq (CS.ite (CT.of (CE.lt (CE.var 1) (CE.len (CA.cons (CE.strI (CA.cons (CE.var 0) CA.nil)) CA.nil)))) (CS.raise 4) CS.nil)
    (CS.seq (CS.asgT (CG.tup [2, 3]) (CE.call 2 f_stretch_of (CA.cons (CE.var 0) (CA.cons (CE.var 1) CA.nil))))
    (CS.seq (CS.par 4 5 (CE.call 1 f_root_from (CA.cons (CE.var 2) CA.nil)) (CE.sub (CE.call 1 f_root_from (CA.cons (CE.add (CE.var 3) (CE.int 1)) CA.nil)) (CE.int 1)))
    (CS.seq (CS.ite (CT.of (CE.gt (CE.var 4) (CE.var 5))) (CS.raise 4) CS.nil)
    (CS.ret (CE.tup (CA.cons (CE.var 4) (CA.cons (CE.var 5) CA.nil))))))))))
def f_roots_with : List D → RF := runF b_roots_with 6

def b_is_row : CS :=
    (CS.ret (CE.andV (CE.isTy "list" (CE.var 0)) (CE.andV (CE.leLe (CE.int 1) (CE.len (CA.cons (CE.var 0) CA.nil)) (CE.int 20)) (CE.all (CA.cons (CE.ofL (CL.lc (CI.list (CE.var 0)) (CGc.name 1) CT.yes (CE.call 1 f_is_beginning (CA.cons (CE.var 1) CA.nil)))) CA.nil)))))
def f_is_row : List D → RF := runF b_is_row 2

def b_parts_of : CS :=
    (CS.seq (CS.asgOw 1 (CL.disp CA.nil))
    (CS.seq (CS.for (CI.list (CE.var 0)) (CG.name 2) (CS.ite (CT.and (CT.of (CE.ownNe 1 (CE.lst CA.nil))) (CT.of (CE.eq (CE.add (CE.ix (CE.ownIx 1 (CE.neg (CE.int 1))) (CE.int 1)) (CE.int 1)) (CE.var 2)))) (CS.setIx 1 (CE.neg (CE.int 1)) (CE.tup (CA.cons (CE.ix (CE.ownIx 1 (CE.neg (CE.int 1))) (CE.int 0)) (CA.cons (CE.var 2) CA.nil)))) (CS.append 1 (CE.tup (CA.cons (CE.var 2) (CA.cons (CE.var 2) CA.nil))))))
    (CS.freeze 1 (CS.ret (CE.var 1)))))
def f_parts_of : List D → RF := runF b_parts_of 3

def b_text_of : CS :=
    (CS.ret (CE.join (CE.str " ") (CE.ofL (CL.lc (CI.list (CE.call 1 f_parts_of (CA.cons (CE.var 0) CA.nil))) (CGc.tup [1, 2]) CT.yes (CE.ite (CT.of (CE.eq (CE.var 1) (CE.var 2))) (CE.strI (CA.cons (CE.var 1) CA.nil)) (CE.js3 (CE.fmt (CE.var 1)) (CE.str "-") (CE.fmt (CE.var 2))))))))
def f_text_of : List D → RF := runF b_text_of 3

def b_format_beginnings : CS :=
    (CS.seq (CS.ite (CT.not (CT.of (CE.call 1 f_is_row (CA.cons (CE.var 0) CA.nil)))) (CS.raise 1) CS.nil)
    (CS.ret (CE.call 1 f_text_of (CA.cons (CE.var 0) CA.nil))))
def f_format_beginnings : List D → RF := runF b_format_beginnings 1

def b_number_in : CS :=
    (CS.seq (CS.ite (CT.or (CT.not (CT.of (CE.leLe (CE.int 1) (CE.len (CA.cons (CE.var 0) CA.nil)) (CE.int 4)))) (CT.or (CT.not (CT.of (CE.all (CA.cons (CE.ofL (CL.lc (CI.str (CE.var 0)) (CGc.name 1) CT.yes (CE.inS (CE.var 1) (CE.str "0123456789")))) CA.nil)))) (CT.of (CE.eq (CE.ix (CE.var 0) (CE.int 0)) (CE.str "0"))))) (CS.raise 3) CS.nil)
    (CS.ret (CE.intS (CA.cons (CE.var 0) CA.nil))))
def f_number_in : List D → RF := runF b_number_in 2

def b_parse_beginnings : CS :=
    (CS.seq (CS.ite (CT.not (CT.of (CE.isTy "str" (CE.var 0)))) (CS.raise 3) CS.nil)
    (CS.seq (CS.asgOw 1 (CL.disp CA.nil))
    (CS.seq (CS.for (CI.list (CE.split (CE.var 0) (CE.str " "))) (CG.name 2) (CS.seq (CS.asgT (CG.tup [3, 4, 5]) (CE.partition (CE.var 2) (CE.str "-")))
    (CS.seq (CS.asg 6 (CE.call 1 f_number_in (CA.cons (CE.var 3) CA.nil)))
    (CS.seq (CS.asg 7 (CE.ite (CT.of (CE.ne (CE.var 4) (CE.str ""))) (CE.call 1 f_number_in (CA.cons (CE.var 5) CA.nil)) (CE.var 6)))
    (CS.seq (CS.ite (CT.of (CE.gt (CE.sub (CE.var 7) (CE.var 6)) (CE.int 20))) (CS.raise 3) CS.nil)
    (CS.extend 1 (CE.ofL (CL.listRg2 (CE.var 6) (CE.add (CE.var 7) (CE.int 1))))))))))
    (CS.freeze 1 (CS.seq (CS.ite (CT.or (CT.not (CT.of (CE.call 1 f_is_row (CA.cons (CE.var 1) CA.nil)))) (CT.of (CE.ne (CE.call 1 f_text_of (CA.cons (CE.var 1) CA.nil)) (CE.var 0)))) (CS.raise 3) CS.nil)
    (CS.ret (CE.var 1)))))))
def f_parse_beginnings : List D → RF := runF b_parse_beginnings 8

end FD
set_option Elab.async false
set_option linter.all false
set_option maxRecDepth 100000
set_option maxHeartbeats 4000000
noncomputable section
namespace FD
open PySem L2 PyProof.Rows

/-! ### Row(number) -/
def spInit (G : Gm) : Sp := fun vs H Q E => ∃ (x dx : Addr) (v : V) (I : Hp) (d : D), vs = [.ref x, v] ∧ H x = some (.ins G.row dx []) ∧ Ex I H ∧ Rep G I v d ∧ I x = none ∧ RowFacts G ∧ match f_check_number [d], d with
  | .ok _, .int n => ∀ H' a b, H' x = some (.ins G.row dx (rowFlds a b)) → H' a = some (.lst [.int n]) → H' b = some (.lst []) → H a = none → H b = none → a ≠ b → (∀ c o, c ≠ x → H c = some o → H' c = some o) → Q .non H'
  | .err k, _ => ∀ H', Ex H H' → E (.ref (G.cls k)) none H'
  | _, _ => False
def t_init (G : Gm) (W : WX) : TS := tSeq (tDrop (tCallS (spOf G 1 f_check_number) (WE W) (tCons (tVar 1) tNil)))
  (tSeq (sFld G.K (tVar 0) (tLst (tCons (tVar 1) tNil)) "line") (sFld G.K (tVar 0) (tLst tNil) "past"))
theorem init_ok {G : Gm} {vs : List V} {H : Hp} {Q : VK} {E : XK} (h : spInit G vs H Q E) : t_init G (fun cls d _ H => E cls d H) { nx := fun _ H' => Q .non H', rt := Q } (vs.map some) H := by
  obtain ⟨x, dx, v, I, d, rfl, hx, ex, rv, ix, F, h⟩ := h
  refine ⟨v, rfl, rfl, I, [d], ex, .cons rv .nil, ?_⟩
  cases q : f_check_number [d] with
  | bad => rw [q] at h; exact h.elim
  | err k => rw [q] at h; exact h
  | ok d' =>
    rw [q] at h
    cases rv with
    | int n =>
      intro w H1 I1 e1 e2 nw kp rw1
      refine ⟨.int n, rfl, by rw [sizeLine_eq]; show 1 ≤ _; decide, fun p hp => ?_⟩
      have hx1 := kp _ _ hx
      have xp : x ≠ p := ne_of_none hx1 hp
      have lk1 : ([] : List (Str × V)).lookup ("line" : Str) = none := rfl
      refine ⟨.ref x, rfl, x, G.row, dx, [], rfl, by rw [upd_ne xp]; exact hx1, F.cl, F.nl, by decide, ?_⟩
      refine ⟨by rw [sizeLine_eq]; decide, fun r hr => ?_⟩
      have rx : r ≠ x := fun z => by rw [z, upd_same] at hr; cases hr
      have rp : r ≠ p := fun z => by rw [z, upd_ne xp.symm, upd_same] at hr; cases hr
      have h1r : H1 r = none := by rw [upd_ne rx, upd_ne rp] at hr; exact hr
      refine ⟨.ref x, rfl, x, G.row, dx, _, rfl, by rw [upd_ne rx.symm, upd_same], F.cl, F.np, by show 1 < _; decide, ?_⟩
      have back : ∀ c, H1 c = none → H c = none := fun c hc => by
        cases z : H c with
        | none => rfl
        | some o => rw [kp c o z] at hc; cases hc
      refine h _ p r upd_same ?_ ?_ (back p hp) (back r h1r) rp.symm fun c o hc e => ?_
      · rw [upd_ne xp.symm, upd_ne rp.symm, upd_ne xp.symm, upd_same]
      · rw [upd_ne rx, upd_same]
      · have e1 := kp _ _ e
        rw [upd_ne hc, upd_ne (ne_of_none e1 h1r), upd_ne hc, upd_ne (ne_of_none e1 hp)]
        exact e1
    | _ => exact h.elim
theorem Sim.setRow {G : Gm} {B : Bs} {σ : L2.St} {env : Env} {H H' I : Hp} (S : Sim G B σ env H I) {i : Nat} {x dx a b : Addr} {l p : List Int} (hx : H x = none) (ha : H a = none) (hb : H b = none) (nd : [x, a, b].Nodup)
    (gx : H' x = some (.ins G.row dx (rowFlds a b))) (ga : H' a = some (.lst (l.map .int))) (gb : H' b = some (.lst (p.map .int))) (kp : ∀ c o, H c = some o → H' c = some o) (hc : canSet env i = true) :
    Sim G B (σ.set i (some (.ref x))) (env.set i (some (.ow (.row l p)))) H' I := by
  have hi := canSet_lt hc
  obtain ⟨as, s1, s2, s3⟩ := S.sl
  have s1' : SlOk G I H' σ env as := s1.mono (Ex.refl _) fun a _ x h => kp a x h
  have new : ∀ c ∈ [x, a, b], H c = none := fun c hc => by
    simp at hc
    rcases hc with rfl | rfl | rfl
    · exact hx
    · exact ha
    · exact hb
  obtain ⟨as', h1, h2, h3⟩ := s1'.setOw (Own.row (G := G) (I := I) gx ga gb) nd i s2 (fun c hc hz => by
    obtain ⟨o, ho⟩ := s1.live c hz
    rw [new c hc] at ho; cases ho) (by rw [s1.len]; exact hi)
  refine ⟨S.i0, S.ih.trans kp, S.fr, fun c o h1 h2 => kp _ _ (S.keep c o h1 h2), fun c hc => ?_, ⟨as', h1, h2, fun c hc => ?_⟩, fun j c ds' z1 z2 => ?_, fun w hw => ?_⟩
  · obtain ⟨o, h⟩ := S.live c hc
    exact ⟨o, kp _ _ h⟩
  · rcases h3 c hc with z | z
    · exact s3 c z
    · exact ⟨S.ni (new c z), .inr (S.h0 (new c z)).1⟩
  · by_cases hj : j = i
    · subst hj
      rw [List.getElem?_set_self hi] at z1
      cases z1
    · rw [List.getElem?_set_ne (Ne.symm hj)] at z1 z2
      exact S.lo j c ds' z1 z2
  · obtain ⟨o, q1, q2, q3, q4⟩ := S.s0 w hw
    have hn : i ≠ 0 := fun z => by subst z; exact q2 (canSet_kind hc q1)
    exact ⟨o, by rw [List.getElem?_set_ne hn]; exact q1, q2, by rw [List.getElem?_set_ne hn]; exact q3, q4.mono (Ex.refl _) fun a _ x h => kp a x h⟩
def newF (r : RF) (d : D) (e1 : Env) (k : Int → F) : F := match r, d with
  | .ok _, .int n => k n
  | .err k, _ => .err k e1
  | _, _ => .bad
/-- x = Row(e) -/
def CS.newRow (i : Nat) (a : CE) : CS where
  t := fun G W D σ H => RowFacts G → tAsg (tMakeE G.row (spInit G) (WE W) (tCons (a.t G W) tNil)) (gName i) D σ H
  ev := fun env => (a.ev env).toF fun d e1 => newF (f_check_number [d]) d e1 fun n => if canSet e1 i = true then .nx (e1.set i (some (.ow (.row [n] [])))) else .bad
  ok := fun {G B σ env H I W D} S P F => a.ok S (SPost.bindR P fun d e1 v H1 I1 S1 ex1 r1 P1 => by
    intro x dx hx hdx hne
    have k1 : ∀ c o, H1 c = some o → upd (upd H1 dx (.own x)) x (.ins G.row dx []) c = some o := fun c o e => by rw [upd_ne (ne_of_none e hx), upd_ne (ne_of_none e hdx)]; exact e
    refine ⟨x, dx, v, I1, d, rfl, upd_same, S1.ih.trans k1, r1, S1.ni hx, F, ?_⟩
    cases q : f_check_number [d] with
    | bad => rw [q] at P1; exact P1.elim
    | err k =>
      rw [q] at P1
      have P1 : SPost G B W D I1 (.err k e1) := by cases d <;> exact P1
      exact fun H' kp => P1 _ H' I1 (S1.step (Ex.refl _) (S1.ih.trans (fun c o e => kp _ _ (k1 c o e))) (fun b o h1 h2 => by rw [h1] at h2; cases h2) fun c o e => kp _ _ (k1 c o e)) (Ex.refl _)
    | ok d' =>
      rw [q] at P1
      cases r1 with
      | int n =>
        have P1 : SPost G B W D I1 (if canSet e1 i = true then .nx (e1.set i (some (.ow (.row [n] [])))) else .bad) := P1
        split at P1
        · rename_i hc
          intro H' a b gx ga gb ha hb hab kp
          have ax : a ≠ x := fun z => by rw [z, upd_same] at ha; cases ha
          have bx : b ≠ x := fun z => by rw [z, upd_same] at hb; cases hb
          have adx : a ≠ dx := fun z => by rw [z, upd_ne hne, upd_same] at ha; cases ha
          have bdx : b ≠ dx := fun z => by rw [z, upd_ne hne, upd_same] at hb; cases hb
          have ha1 : H1 a = none := by rw [upd_ne ax, upd_ne adx] at ha; exact ha
          have hb1 : H1 b = none := by rw [upd_ne bx, upd_ne bdx] at hb; exact hb
          refine ⟨rfl, P1 _ _ I1 (S1.setRow (l := [n]) (p := []) hx ha1 hb1 ?_ gx ga gb (fun c o e => kp c o (ne_of_none e hx) (k1 c o e)) hc) (Ex.refl _)⟩
          simp [ax.symm, bx.symm, hab]
        · exact P1.elim
      | _ => exact P1.elim)
section
variable {P : Program} {w : World} {K : PySem.W.Frag} {mg : Str → Option Value} {base : Heap}
theorem fn_init {x qual : Str} {st : Stmt} {f : Addr} {fd : FuncData} {N ps : List Str} {k : Nat} {G : Gm} (hG : K = G.K) (F : Fun K x qual st f fd) (S : FnScope N ps (defScope st)) (hn : ps.length = 2) (hN : N.length = 2) (h : BodyIs P w K mg base G k N qual st f (t_init G)) :
    FnOk P w K mg base (L2.CX P w) (k + 1) f fd ps (spInit G) :=
  F.okX S (fun vs H Q E h => by obtain ⟨x, dx, v, I, d, rfl, _⟩ := h; rw [hn]; rfl) fun cdv A outer s H vs Q E hr hsp => ⟨_, h.is S hG cdv A outer s H E hr, by
    obtain ⟨x, dx, v, I, d, e, _⟩ := id hsp
    have e2 : L2.start N vs = vs.map some := by
      unfold L2.start
      rw [e, hN]
      simp
    rw [e2]
    exact init_ok hsp⟩
end
end FD
set_option Elab.async false
set_option linter.all false
set_option maxRecDepth 100000
set_option maxHeartbeats 4000000
noncomputable section
namespace FD
open PySem L2 PyProof.Rows

/-! ### len(row) -/
def rLenE (C : Addr) (sp : Sp) : List V → Hp → VK → Prop := fun xs H Q => ∃ a dx fs, xs = [.ref a] ∧ H a = some (.ins C dx fs) ∧ sp [.ref a] H (fun v H2 => ∃ n : Int, v = .int n ∧ 0 ≤ n ∧ n < 2 ^ 63 ∧ Q v H2) (fun _ _ _ => False)
theorem call_lenE {X : Cx} {k : Nat} {C f : Addr} {fd : FuncData} {ps : List Str} {sp : Sp} (hm : Meth X.K C "__len__" f) (F : FnOk X.prog X.w X.K X.mg X.base (L2.CX X.prog X.w) k f fd ps sp) (hr : Room (k + 1) X.A) (hb : Binds X.K fd ps []) :
    CallR X (.builtin "len") (rLenE C sp) := by
  intro pins s σ H xs us Q I r h
  obtain ⟨a, dx, fs, rfl, ea, q⟩ := h
  obtain ⟨u, rfl, ru⟩ := r.one
  cases ru
  obtain ⟨mA, O, _⟩ := ins_get I.hok ea
  obtain ⟨od, J, _⟩ := O.look
  obtain ⟨m, fr⟩ := I.fr
  have bd := hb s [.ref a] I.kIn (by rw [List.append_nil]; exact F.len _ _ _ _ q)
  rw [List.append_nil] at bd
  refine PySem.W.len_K fr I.mod.kin J hm.at_ hm.fn (wpAny_call (codeAny_mono (F.run X.A.in1 X.stack s H ⟨[.ref a], []⟩ [.ref a] [.ref a] _ _ hr.in1 I.env0.in1 bd (.cons rfl .nil) q) fun r s' got => ?_))
  cases r with
  | error e =>
    obtain ⟨_, _, _, _, _, _, _, _, _, _, _, _, z⟩ := got
    exact z.elim
  | ok fl =>
    cases fl with
    | ret u =>
      obtain ⟨v, H', I3, rv, n, rfl, n0, n1, q3⟩ := I.after got
      obtain ⟨t, rfl⟩ := rv
      exact ⟨⟨n0, n1⟩, .int n, H', I3.tok _, ⟨_, rfl⟩, q3⟩
    | next => exact got.elim
    | brk => exact got.elim
    | cont => exact got.elim
def CE.lenRow (φ : OD → List D → RM) (i : Nat) : CE where
  t := fun G W => tCB (rLenE G.row (spOfM G 0 φ)) (tCons (tVar i) tNil)
  ev := fun env => (R.lift (Env.owR env i) env).bind fun r e0 => match φ (.row r.1 r.2) [] with
    | .ok (.int n) (.row l p) => if lk (decide (0 ≤ n ∧ n < 2 ^ 63)) then .ok (.int n) (e0.set i (some (.ow (.row l p)))) else .bad
    | _ => .bad
  ok := fun {G B σ env H I W Q} S P => by
    cases h : Env.owR env i with
    | none => rw [h] at P; exact P.elim
    | some r =>
      rw [h] at P
      obtain ⟨v, bs, hv, q1, q2, q3, q4⟩ := S.own (Env.owR_eq h)
      have P : Post G B σ W (Rep G) I Q (match φ (.row r.1 r.2) [] with
        | .ok (.int n) (.row l p) => if lk (decide (0 ≤ n ∧ n < 2 ^ 63)) then .ok (.int n) (env.set i (some (.ow (.row l p)))) else .bad
        | _ => .bad) := P
      cases id q1 with
      | @row x dx a b _ _ hx ha hb =>
        split at P
        · rename_i n l p hφ
          split at P
          · rename_i hn
            have hn := of_lk hn
            refine ⟨.ref x, hv, x, dx, rowFlds a b, rfl, hx, rfl, I, .ref x, [], [], .row r.1 r.2, _, rfl, S.ih, .nil, q1, (fun z => by cases z), q2, q3, ?_⟩
            rw [hφ]
            intro v' H' I' e eh nw k ow rp
            cases rp
            exact ⟨n, rfl, hn.1, hn.2, P _ H' I' (q4 H' I' _ e eh nw k rfl ow) e (.int n)⟩
          · exact P.elim
        · exact P.elim
  pu := false
  pok := fun p => by cases p

/-! ### judgements -/
structure MCallee (P : Program) (w : World) (K : PySem.W.Frag) (mg : Str → Option Value) (base : Heap) (C : Addr) (m : Str) (k : Nat) (sp : Sp) : Prop where
  ex : ∃ (f : Addr) (fd : FuncData) (ps : List Str), FnOk P w K mg base (L2.CX P w) k f fd ps sp ∧ Meth K C m f ∧ Binds K fd ps []
structure NCallee (P : Program) (w : World) (K : PySem.W.Frag) (mg : Str → Option Value) (base : Heap) (C : Addr) (k : Nat) (sp : Sp) : Prop where
  ex : ∃ (f : Addr) (fd : FuncData) (ps : List Str), FnOk P w K mg base (L2.CX P w) k f fd ps sp ∧ Mk K C f ∧ Binds K fd ps [] ∧ mg "Row" = some (.ref C)
section
variable {X : Cx} {G : Gm} {W : WX} {a b e : Expr} {es : List Expr} {ca cb : CE} {A : CA} {pos p apos fpos : Pos} {i k n : Nat} {m : Str}
theorem j_part {q : Bool} {f : Str} (o : Ok X G W) (hf : f = fldN q) (ha : PE X a ((CE.var i).t G W)) (hb : attributeBase a f X.env (eval a X.env) = eval a X.env := by rfl) : PE X (.Attribute a f pos) (tPart G i q) := by
  subst hf
  have h := pe_fld (pos := pos) ha hb
  rw [o.hK] at h
  exact h
theorem j_rowLast (o : Ok X G W) (F : RowFacts G) (ha : PE X a ((CE.var i).t G W)) (hb : PE X b ((CE.neg (CE.int 1)).t G W)) (hs : PlainIx b := by intro _ _; rfl) (hbase : attributeBase a "line" X.env (eval a X.env) = eval a X.env := by rfl) :
    PE X (.Subscript (.Attribute a "line" fpos) b pos) ((CE.rowLast i).t G W) := PE.under F (pe_ix (k_ix o) (j_part (q := true) o rfl ha hbase) hb hs)
theorem j_rowLen (o : Ok X G W) (F : RowFacts G) (hn : X.mg "len" = none) (ha : PE X a ((CE.var i).t G W)) (hg : Gl X "len" := by rfl) (hbase : attributeBase a "past" X.env (eval a X.env) = eval a X.env := by rfl)
    (he : starEach [.Attribute a "past" fpos] X.env = (false, eval (.Attribute a "past" fpos) X.env) :: starEach [] X.env := by rfl) (hpl : (backTo pos (starEach [] X.env)).any (·.1) = false := by rfl) :
    PE X (.Call (.Name "len" p) [.Attribute a "past" fpos] [] pos) ((CE.rowLen false i).t G W) := PE.under F (pe_callB (c_len o) hg hn (by decide +kernel) (pa_cons (j_part (q := false) o rfl ha hbase) pa_nil he) (by decide) (by decide) he hpl)
theorem j_rowNil (o : Ok X G W) (F : RowFacts G) (ha : PE X a ((CE.var i).t G W)) (hb : PE X b ((CE.lst CA.nil).t G W)) (hbase : attributeBase a "past" X.env (eval a X.env) = eval a X.env := by rfl) :
    PE X (.Compare (.Attribute a "past" fpos) [.Eq] [b] pos) ((CE.rowNil false i).t G W) := PE.under F (pe_cmpR (k_eq o) (j_part (q := false) o rfl ha hbase) hb (nomark _))
theorem t_rowNil (o : Ok X G W) (F : RowFacts G) (ha : PE X a ((CE.var i).t G W)) (hb : PE X b ((CE.lst CA.nil).t G W)) (hbase : attributeBase a "past" X.env (eval a X.env) = eval a X.env := by rfl) :
    PT X (.Compare (.Attribute a "past" fpos) [.Eq] [b] pos) ((CT.of (CE.rowNil false i)).t G W) := by
  have h := pt_cmpR (pos := pos) (k_eq o) (j_part (pos := fpos) (q := false) o rfl ha hbase) hb (nomark _)
  exact ⟨fun pins s σ H Q I q => h.run pins s σ H Q I (q F)⟩
theorem s_rowApp {q : Bool} {f : Str} {hst : Still ca} (o : Ok X G W) (F : RowFacts G) (hf : f = fldN q) (ha : PE X a ((CE.var i).t G W)) (he : PE X e (ca.t G W))
    (hbf : attributeBase a f X.env (eval a X.env) = eval a X.env := by rfl)
    (hbase : attributeBase (.Attribute a f fpos) "append" X.env (eval (.Attribute a f fpos) X.env) = eval (.Attribute a f fpos) X.env := by rfl)
    (hfew : ((backTo p (starEach (e :: []) X.env)).all (fun x => !x.1) && (backToKw p (keywordEach [] X.env)).all (fun x => x.1.isSome)
      && decide ((e :: []).length + ([] : List Keyword).length + (if ([] : List Keyword).isEmpty then 0 else 1) < 30)) = true := by rfl)
    (hline : (apos.endLine == p.line) = true := by rfl) (hs : starEach (e :: []) X.env = (false, eval e X.env) :: starEach [] X.env := by rfl) (hplain : (backTo p (starEach [] X.env)).any (·.1) = false := by rfl)
    (hsw : swapsWith (.Call (.Attribute (.Attribute a f fpos) "append" apos) [e] [] p) none pos.line X.env = pure false := by rfl) :
    PS X (.Expr (.Call (.Attribute (.Attribute a f fpos) "append" apos) [e] [] p) pos) ((CS.rowApp q i ca hst).t G W) := by
  have h := ownS (t := fun K => tDrop (tBM K "list" rAppend (tPart G i q) (tCons (ca.t G W) tNil))) o.hK (ps_expr (pe_bm PySem.F.plainAttrs_list PySem.F.slot_list_append PySem.F.type_list_append mt_append (j_part o hf ha hbf) (pa_cons he pa_nil hs) hbase hfew hline hs hplain) hsw)
  exact ⟨fun pins s σ H D I q => h.run pins s σ H D I (q F)⟩
theorem s_rowPop {q : Bool} {f : Str} (o : Ok X G W) (F : RowFacts G) (hf : f = fldN q) (ha : PE X a ((CE.var i).t G W))
    (hbf : attributeBase a f X.env (eval a X.env) = eval a X.env := by rfl)
    (hbase : attributeBase (.Attribute a f fpos) "pop" X.env (eval (.Attribute a f fpos) X.env) = eval (.Attribute a f fpos) X.env := by rfl) (hline : (apos.endLine == p.line) = true := by rfl)
    (hsw : swapsWith (.Call (.Attribute (.Attribute a f fpos) "pop" apos) [] [] p) none pos.line X.env = pure false := by rfl) :
    PS X (.Expr (.Call (.Attribute (.Attribute a f fpos) "pop" apos) [] [] p) pos) ((CS.rowPop q i).t G W) := by
  have h := ownS (t := fun K => tDrop (tBM0 K "list" rPop (tPart G i q))) o.hK (ps_expr (pe_bm0 PySem.F.plainAttrs_list PySem.F.slot_list_pop PySem.F.type_list_pop mt_pop (j_part o hf ha hbf) hbase hline) hsw)
  exact ⟨fun pins s σ H D I q => h.run pins s σ H D I (q F)⟩
theorem j_lcRow {elt : Expr} {ifs : List Expr} {scope : Scope} {own : List (Str × Nat)} {g : CGc} {c : CT} {x : CE} {tpos epos : Pos} {elts : List Expr} {kk : Nat} (o : Ok X G W) (F : RowFacts G) (hm : X.mg "enumerate" = none) (ha : PE X a ((CE.var i).t G W)) (ok : BlkOk X.N X.env.scope scope own)
    (hg : ∀ (s : Shared) (H : Hp) (C : Addr) (cl : List (Str × Addr)) (fp : List Addr), Ok (X.blk s H scope (compEnvC scope cl C X.env) fp) G W0 → PG (X.blk s H scope (compEnvC scope cl C X.env) fp) (.Tuple elts kk tpos) (g.g.t G))
    (ht : ∀ (s : Shared) (H : Hp) (C : Addr) (cl : List (Str × Addr)) (fp : List Addr), Ok (X.blk s H scope (compEnvC scope cl C X.env) fp) G W0 → PTs (X.blk s H scope (compEnvC scope cl C X.env) fp) ifs (c.t G W0))
    (he : ∀ (s : Shared) (H : Hp) (C : Addr) (cl : List (Str × Addr)) (fp : List Addr), Ok (X.blk s H scope (compEnvC scope cl C X.env) fp) G W0 → PE (X.blk s H scope (compEnvC scope cl C X.env) fp) elt (x.t G W0)) (hown : own.map (·.2) = g.own := by rfl)
    (hgl : Gl X "enumerate" := by rfl) (hbase : attributeBase a "line" X.env (eval a X.env) = eval a X.env := by rfl) (hse : starEach [.Attribute a "line" fpos] X.env = [(false, eval (.Attribute a "line" fpos) X.env)] := by rfl)
    (hs : ∀ x, foldedSetIterable (.Call (.Name "enumerate" p) [.Attribute a "line" fpos] [] epos) X.env x = pure x := by intro _; rfl) :
    PE X (.ListComp elt [⟨.Tuple elts kk tpos, .Call (.Name "enumerate" p) [.Attribute a "line" fpos] [] epos, ifs, 0⟩] scope pos) ((CL.lcRow i g c x).t G W) := by
  have hi : PI X (.Tuple elts kk tpos) (.Call (.Name "enumerate" p) [.Attribute a "line" fpos] [] epos) (iEnum G.K (tCons (tPart G i true) tNil)) := ownI (t := fun K => iEnum K (tCons (tPart G i true) tNil)) o.hK (pi_enum hgl hm (pa_cons (j_part (q := true) o rfl ha hbase) pa_nil hse) hse)
  have h := pe_lc (pos := pos) o.calm o.nd hi ok (fun s H C cl fp => hg s H C cl fp (o.inBlk s H _ _ fp)) (fun s H C cl fp => ht s H C cl fp (o.inBlk s H _ _ fp)) (fun s H C cl fp => he s H C cl fp (o.inBlk s H _ _ fp)) hs
  rw [hown] at h
  exact PE.under F h
theorem j_meth {φ : OD → List D → RM} {pl : Sem Bool} (C : MCallee X.prog X.w X.K X.mg X.base G.row m k (spOfM G n φ)) (o : Ok X G W) (F : RowFacts G) (hr : Room k X.A) (h1 : PE X a ((CE.var i).t G W)) (ha : PA X (e :: es) (A.t G W))
    (hst : starEach (e :: es) X.env = (false, eval e X.env) :: starEach es X.env := by rfl) (hpl : (backTo pos (starEach es X.env)).any (·.1) = false := by rfl)
    (ht : eval (.Call (.Attribute a m apos) (e :: es) [] pos) X.env = (do let ov ← eval a X.env; standAt apos.atName; let (f, first) ← holding [ov] (getMethod ov m pl); callWith pos f first (backTo pos (starEach (e :: es) X.env)) (backToKw pos (keywordEach [] X.env))) := by rfl) :
    PE X (.Call (.Attribute a m apos) (e :: es) [] pos) ((CE.meth n φ i m A).t G W) := by
  obtain ⟨f, fd, ps, Fn, hm, hb⟩ := C.ex
  exact pe_methE (pl := pl) h1 (by rw [o.hK]; exact F.cl) hm Fn hr hb (fun σ => passAt o.tk σ) ha hst hpl ht
theorem j_meth0 {φ : OD → List D → RM} {pl : Sem Bool} (C : MCallee X.prog X.w X.K X.mg X.base G.row m k (spOfM G n φ)) (o : Ok X G W) (F : RowFacts G) (hr : Room k X.A) (h1 : PE X a ((CE.var i).t G W))
    (ht : eval (.Call (.Attribute a m apos) [] [] pos) X.env = (do let ov ← eval a X.env; standAt apos.atName; let (f, first) ← holding [ov] (getMethod ov m pl); callWith pos f first (backTo pos (starEach [] X.env)) (backToKw pos (keywordEach [] X.env))) := by rfl) :
    PE X (.Call (.Attribute a m apos) [] [] pos) ((CE.meth n φ i m CA.nil).t G W) := by
  obtain ⟨f, fd, ps, Fn, hm, hb⟩ := C.ex
  exact pe_methE0 (pl := pl) h1 (by rw [o.hK]; exact F.cl) hm Fn hr hb (fun σ => passAt o.tk σ) ht
theorem j_lenRow {φ : OD → List D → RM} (C : MCallee X.prog X.w X.K X.mg X.base G.row "__len__" k (spOfM G 0 φ)) (o : Ok X G W) (hr : Room (k + 1) X.A) (hn : X.mg "len" = none) (h1 : PE X a ((CE.var i).t G W))
    (hg : Gl X "len" := by rfl) (he : starEach [a] X.env = (false, eval a X.env) :: starEach [] X.env := by rfl) (hpl : (backTo pos (starEach [] X.env)).any (·.1) = false := by rfl) :
    PE X (.Call (.Name "len" p) [a] [] pos) ((CE.lenRow φ i).t G W) := by
  obtain ⟨f, fd, ps, Fn, hm, hb⟩ := C.ex
  exact pe_callB (call_lenE hm Fn hr hb) hg hn (by decide +kernel) (pa_cons h1 pa_nil he) (by decide) (by decide) he hpl
theorem s_newRow {x : Str} {xp : Pos} (C : NCallee X.prog X.w X.K X.mg X.base G.row k (spInit G)) (o : Ok X G W) (F : RowFacts G) (hr : Room (k + 1) X.A) (he : PE X e (ca.t G W)) (hi : X.N[i]? = some x := by rfl) (hx : Loc X.env.scope x := by first | exact Or.inl rfl | exact Or.inr rfl)
    (hg : Gl X "Row" := by rfl) (hs : starEach [e] X.env = (false, eval e X.env) :: starEach [] X.env := by rfl) (hpl : (backTo p (starEach [] X.env)).any (·.1) = false := by rfl) {np : Pos}
    (hsw : swapsWith (.Call (.Name "Row" np) [e] [] p) (some (.Name x xp)) pos.line X.env = pure false := by rfl) (hf : X.fn x = true ∨ X.env.scope.names.lookup x = some .local := by first | exact .inl rfl | exact .inr rfl | assumption) :
    PS X (.Assign [.Name x xp] (.Call (.Name "Row" np) [e] [] p) pos) ((CS.newRow i ca).t G W) := by
  obtain ⟨f, fd, ps, Fn, hm, hb, hmg⟩ := C.ex
  have h := ps_set (pos := pos) o.nd hi hx (pe_makeE (pos := p) (p := np) hm Fn hr hg hmg hb (fun σ => passAt o.tk σ) (pa_cons he pa_nil hs) (by decide) hs hpl) hsw hf
  exact ⟨fun pins s σ H D I q => h.run pins s σ H D I (q F)⟩
end
end FD
set_option Elab.async false
set_option linter.all false
set_option maxRecDepth 100000
set_option maxHeartbeats 4000000
noncomputable section
namespace FD
open PySem L2 TL

/-! ### powers of ten -/
def tp (k : Int) : Int := ((10 ^ k.toNat : Nat) : Int)
theorem tp_pos (k : Int) : 0 < tp k := by
  unfold tp
  have : 0 < 10 ^ k.toNat := Nat.pow_pos (by decide)
  omega
theorem tp_nat (k : Nat) : tp (k : Int) = ((10 ^ k : Nat) : Int) := by unfold tp; rw [Int.toNat_natCast]
theorem tp_zero : tp 0 = 1 := rfl
theorem tp_one : tp 1 = 10 := rfl
theorem tp_neg {k : Int} (h : k ≤ 0) : tp k = 1 := by
  unfold tp
  rw [Int.toNat_of_nonpos h]; rfl
theorem tp_add {a b : Int} (ha : 0 ≤ a) (hb : 0 ≤ b) : tp (a + b) = tp a * tp b := by
  unfold tp
  rw [Int.toNat_add ha hb, Nat.pow_add]
  push_cast
  rfl
theorem tp_succ {a : Int} (ha : 0 ≤ a) : tp (a + 1) = tp a * 10 := by rw [tp_add ha (by decide)]; rfl
theorem tp_mono {a b : Int} (h : a ≤ b) : tp a ≤ tp b := by
  unfold tp
  have := Nat.pow_le_pow_right (n := 10) (by decide) (Int.toNat_le_toNat h)
  omega
theorem tp_lt {a b : Int} (ha : 0 ≤ a) (h : a < b) : tp a < tp b := by
  have h1 := tp_mono (show a + 1 ≤ b by omega)
  rw [tp_succ ha] at h1
  have := tp_pos a
  omega
theorem tp_inj {a b : Int} (ha : 0 ≤ a) (hb : 0 ≤ b) (h : tp a = tp b) : a = b := by
  rcases Int.lt_trichotomy a b with q | q | q
  · have := tp_lt ha q; omega
  · exact q
  · have := tp_lt hb q; omega
theorem tp_big {k : Int} (h : k ≤ 1100) : (tp k).natAbs < BIG := by
  unfold tp
  rw [Int.natAbs_natCast]
  unfold BIG
  exact Nat.pow_lt_pow_right (by decide) (by omega)

/-! ### how many digits -/
def dl (n : Nat) : Nat := (numL n).length
theorem dl_lt {n : Nat} (h : n < 10) : dl n = 1 := by unfold dl; rw [numL_lt h]; rfl
theorem dl_step {n : Nat} (h : 10 ≤ n) : dl n = dl (n / 10) + 1 := by unfold dl; rw [numL_step h]; simp
theorem dl_pos (n : Nat) : 1 ≤ dl n := by
  by_cases h : n < 10
  · rw [dl_lt h]; exact Nat.le_refl _
  · rw [dl_step (by omega)]; omega
theorem dl_bounds (n : Nat) : n < 10 ^ dl n ∧ (1 ≤ n → 10 ^ (dl n - 1) ≤ n) := by
  induction n using Nat.strongRecOn with
  | _ n ih =>
    by_cases h : n < 10
    · rw [dl_lt h]
      exact ⟨h, fun h => h⟩
    · obtain ⟨h1, h2⟩ := ih (n / 10) (by omega)
      have h2 := h2 (by omega)
      have hp := dl_pos (n / 10)
      rw [dl_step (by omega)]
      refine ⟨?_, fun _ => ?_⟩
      · rw [Nat.pow_succ]; omega
      · have e : dl (n / 10) + 1 - 1 = (dl (n / 10) - 1) + 1 := by omega
        rw [e, Nat.pow_succ]; omega
theorem dl_unique {n k : Nat} (hk : 1 ≤ k) (h1 : 10 ^ (k - 1) ≤ n) (h2 : n < 10 ^ k) : dl n = k := by
  obtain ⟨b1, b2⟩ := dl_bounds n
  have hn : 1 ≤ n := Nat.le_trans (Nat.pow_pos (by decide)) h1
  have b2 := b2 hn
  have hp := dl_pos n
  have u1 : k - 1 < dl n := (Nat.pow_lt_pow_iff_right (a := 10) (by decide)).mp (Nat.lt_of_le_of_lt h1 b1)
  have u2 : dl n - 1 < k := (Nat.pow_lt_pow_iff_right (a := 10) (by decide)).mp (Nat.lt_of_le_of_lt b2 h2)
  omega
theorem numL_take : ∀ (j n : Nat), j < dl n → (numL n).take (dl n - j) = numL (n / 10 ^ j)
  | 0, n, _ => by
    rw [Nat.pow_zero, Nat.div_one, Nat.sub_zero]
    exact List.take_length
  | j + 1, n, h => by
    have h10 : 10 ≤ n := by
      rcases Nat.lt_or_ge n 10 with q | q
      · rw [dl_lt q] at h; omega
      · exact q
    rw [dl_step h10] at h ⊢
    rw [numL_step h10, List.take_append_of_le_length (by show _ ≤ dl (n / 10); omega)]
    have e : dl (n / 10) + 1 - (j + 1) = dl (n / 10) - j := by omega
    rw [e, numL_take j (n / 10) (by omega), Nat.div_div_eq_div_mul, Nat.pow_succ, Nat.mul_comm 10]

def sz (n : Int) : Int := (dl n.toNat : Nat)
theorem sz_pos (n : Int) : 1 ≤ sz n := by unfold sz; have := dl_pos n.toNat; omega
theorem sz_lo {n : Int} (h : 1 ≤ n) : tp (sz n - 1) ≤ n := by
  obtain ⟨_, b2⟩ := dl_bounds n.toNat
  have b2 := b2 (by omega)
  unfold tp sz
  have e : (((dl n.toNat : Nat) : Int) - 1).toNat = dl n.toNat - 1 := by omega
  rw [e]
  omega
theorem sz_hi {n : Int} (h : 0 ≤ n) : n < tp (sz n) := by
  obtain ⟨b1, _⟩ := dl_bounds n.toNat
  unfold tp sz
  rw [Int.toNat_natCast]
  omega
theorem sz_unique {n k : Int} (hk : 1 ≤ k) (h1 : tp (k - 1) ≤ n) (h2 : n < tp k) : sz n = k := by
  have hn : 0 < n := Int.lt_of_lt_of_le (tp_pos _) h1
  unfold tp at h1 h2
  have e : (k - 1).toNat = k.toNat - 1 := by omega
  rw [e] at h1
  have := dl_unique (n := n.toNat) (k := k.toNat) (by omega) (by omega) (by omega)
  unfold sz
  omega
theorem sz_le {n k : Int} (hk : 1 ≤ k) (h0 : 0 ≤ n) (h : n < tp k) : sz n ≤ k := by
  rcases Int.lt_or_le k (sz n) with q | q
  · by_cases h1 : 1 ≤ n
    · have a := sz_lo h1
      have b := tp_mono (show k ≤ sz n - 1 by omega)
      omega
    · have : n = 0 := by omega
      subst this
      have : sz 0 = 1 := rfl
      omega
  · exact q
theorem sz_ge {n k : Int} (h : tp k ≤ n) : k + 1 ≤ sz n := by
  have hn : 0 < n := Int.lt_of_lt_of_le (tp_pos _) h
  rcases Int.lt_or_le (sz n) (k + 1) with q | q
  · have a := sz_hi (show 0 ≤ n by omega)
    have b := tp_mono (show sz n ≤ k by omega)
    omega
  · exact q
theorem sz_mono {a b : Int} (h0 : 0 ≤ a) (h : a ≤ b) : sz a ≤ sz b := sz_le (sz_pos b) h0 (Int.lt_of_le_of_lt h (sz_hi (by omega)))
theorem sz_shift {n j : Int} (hn : 1 ≤ n) (hj : 0 ≤ j) : sz (n * tp j) = sz n + j := by
  have a := sz_lo hn
  have b := sz_hi (show 0 ≤ n by omega)
  have p := sz_pos n
  refine sz_unique (by omega) ?_ ?_
  · rw [show sz n + j - 1 = (sz n - 1) + j by omega, tp_add (by omega) hj]
    exact Int.mul_le_mul_of_nonneg_right a (Int.le_of_lt (tp_pos j))
  · rw [tp_add (by omega) hj]
    exact Int.mul_lt_mul_of_pos_right b (tp_pos j)

/-! ### texts of numbers -/
theorem tl_txt (n : Nat) : (txtOf (n : Int)).cps.toList = numL n := tl_num n
theorem txt_len (n : Nat) : (txtOf (n : Int)).length = dl n := by
  rw [show (txtOf (n : Int)).length = (tl (txtOf (n : Int))).length from len_tl _, show tl (txtOf (n : Int)) = numL n from tl_num n]; rfl
theorem str_ext {x y : Str} (h : x.cps.toList = y.cps.toList) : x = y := by
  obtain ⟨a⟩ := x
  obtain ⟨b⟩ := y
  congr 1
  exact Array.ext' h
theorem txt_inj {m n : Nat} (h : txtOf (m : Int) = txtOf (n : Int)) : m = n := by
  have e : (txtOf (m : Int)).cps.toList = (txtOf (n : Int)).cps.toList := by rw [h]
  rw [tl_txt, tl_txt] at e
  exact numL_inj e
/-- the first k digits of a text -/
theorem cut_txt {n k : Nat} (hk : 1 ≤ k) : cutS (txtOf (n : Int)) none (some (k : Int)) = txtOf ((if dl n > k then n / 10 ^ (dl n - k) else n : Nat) : Int) := by
  apply str_ext
  rw [tl_txt]
  show ((((txtOf (n : Int)).cps.toList.drop 0).take (HT.sIx (txtOf (n : Int)).length (txtOf (n : Int)).length (some (k : Int)) - 0))) = _
  rw [tl_txt, txt_len, HT.sIx_nat, List.drop_zero, Nat.sub_zero]
  split
  · rename_i h
    have hd := dl_pos n
    rw [Nat.min_eq_left (by omega)]
    have := numL_take (dl n - k) n (by omega)
    rw [show dl n - (dl n - k) = k by omega] at this
    exact this
  · rename_i h
    rw [Nat.min_eq_right (by omega)]
    exact List.take_length
def fst (n k : Int) : Int := if sz n > k then n / tp (sz n - k) else n
theorem fst_nat {n k : Nat} : fst (n : Int) (k : Int) = ((if dl n > k then n / 10 ^ (dl n - k) else n : Nat) : Int) := by
  unfold fst sz tp
  rw [Int.toNat_natCast]
  by_cases h : dl n > k
  · rw [if_pos h, if_pos (by omega)]
    have e : (((dl n : Nat) : Int) - (k : Int)).toNat = dl n - k := by omega
    rw [e]
    push_cast
    rfl
  · rw [if_neg h, if_neg (by omega)]
/-- a number begins so -/
def beg (n b : Int) : Bool := decide (sz b ≤ sz n) && decide (fst n (sz b) = b)
theorem beg_fst {n b : Int} (hb : 1 ≤ b) (hn : 1 ≤ n) : (fst n (sz b) = b) ↔ beg n b = true := by
  unfold beg
  simp only [Bool.and_eq_true, decide_eq_true_eq]
  refine ⟨fun h => ⟨?_, h⟩, fun h => h.2⟩
  rcases Int.lt_or_le (sz n) (sz b) with q | q
  · unfold fst at h
    rw [if_neg (by omega)] at h
    subst h; omega
  · exact q
/-- .. as a stretch: moved j places -/
theorem beg_iff {n b : Int} (hb : 1 ≤ b) (hn : 1 ≤ n) : beg n b = true ↔ ∃ j, 0 ≤ j ∧ b * tp j ≤ n ∧ n < (b + 1) * tp j := by
  rw [← beg_fst hb hn]
  constructor
  · intro h
    unfold fst at h
    split at h
    · rename_i q
      refine ⟨sz n - sz b, by omega, ?_, ?_⟩
      · have := Int.ediv_mul_le n (Int.ne_of_gt (tp_pos (sz n - sz b)))
        rw [h] at this
        exact this
      · have := Int.lt_ediv_add_one_mul_self n (tp_pos (sz n - sz b))
        rw [h] at this
        exact this
    · subst h
      exact ⟨0, by omega, by rw [tp_zero]; omega, by rw [tp_zero]; omega⟩
  · rintro ⟨j, hj, h1, h2⟩
    have hs : sz n = sz b + j := by
      have a := sz_lo hb
      have c := sz_hi (show 0 ≤ b by omega)
      have p := sz_pos b
      refine sz_unique (by omega) ?_ ?_
      · rw [show sz b + j - 1 = (sz b - 1) + j by omega, tp_add (by omega) hj]
        exact Int.le_trans (Int.mul_le_mul_of_nonneg_right a (Int.le_of_lt (tp_pos j))) h1
      · rw [tp_add (by omega) hj]
        exact Int.lt_of_lt_of_le h2 (Int.mul_le_mul_of_nonneg_right (by omega) (Int.le_of_lt (tp_pos j)))
    unfold fst
    split
    · rename_i q
      rw [show sz n - sz b = j by omega]
      refine Int.le_antisymm ?_ ?_
      · have := (Int.ediv_lt_iff_lt_mul (tp_pos j)).mpr h2
        omega
      · exact (Int.le_ediv_iff_mul_le (tp_pos j)).mpr h1
    · have : j = 0 := by omega
      subst this
      rw [tp_zero] at h1 h2
      omega
end FD
set_option Elab.async false
set_option linter.all false
set_option maxRecDepth 100000
set_option maxHeartbeats 4000000
noncomputable section
namespace FD
open PySem L2 TL

/-! ### how each combinator evaluates -/
section
variable {a b c e : CE} {A : CA} {t u : CT} {l : CL} {env : Env} {i j : Nat} {n : Nat}
@[simp] theorem var_ev : (CE.var i).ev env = R.lift (Env.im env i) env := Eq.trans rfl rfl
@[simp] theorem int_ev {k : Int} : (CE.int k).ev env = .ok (.int k) env := Eq.trans rfl rfl
@[simp] theorem bl_ev {k : Bool} : (CE.bl k).ev env = .ok (.bool k) env := Eq.trans rfl rfl
@[simp] theorem non_ev : CE.non.ev env = .ok .none env := Eq.trans rfl rfl
@[simp] theorem str_ev {k : Str} : (CE.str k).ev env = .ok (.str k) env := Eq.trans rfl rfl
theorem bin_ev {r f h} : (CE.bin r f h a b).ev env = (a.ev env).bind fun x e1 => (b.ev e1).bind fun y e2 => R.lift (f x y) e2 := rfl
@[simp] theorem add_ev : (CE.add a b).ev env = (a.ev env).bind fun x e1 => (b.ev e1).bind fun y e2 => R.lift (fAdd x y) e2 := Eq.trans rfl rfl
@[simp] theorem sub_ev : (CE.sub a b).ev env = (a.ev env).bind fun x e1 => (b.ev e1).bind fun y e2 => R.lift (fSub x y) e2 := Eq.trans rfl rfl
@[simp] theorem mul_ev : (CE.mul a b).ev env = (a.ev env).bind fun x e1 => (b.ev e1).bind fun y e2 => R.lift (fMul x y) e2 := Eq.trans rfl rfl
@[simp] theorem div_ev : (CE.div a b).ev env = (a.ev env).bind fun x e1 => (b.ev e1).bind fun y e2 => R.lift (fDiv x y) e2 := Eq.trans rfl rfl
@[simp] theorem mod_ev : (CE.mod a b).ev env = (a.ev env).bind fun x e1 => (b.ev e1).bind fun y e2 => R.lift (fMod x y) e2 := Eq.trans rfl rfl
@[simp] theorem pow_ev : (CE.pow a b).ev env = (a.ev env).bind fun x e1 => (b.ev e1).bind fun y e2 => R.lift (fPow x y) e2 := Eq.trans rfl rfl
@[simp] theorem lt_ev : (CE.lt a b).ev env = (a.ev env).bind fun x e1 => (b.ev e1).bind fun y e2 => R.lift (fCmp (fun i j => decide (i < j)) x y) e2 := Eq.trans rfl rfl
@[simp] theorem le_ev : (CE.le a b).ev env = (a.ev env).bind fun x e1 => (b.ev e1).bind fun y e2 => R.lift (fCmp (fun i j => decide (i ≤ j)) x y) e2 := Eq.trans rfl rfl
@[simp] theorem gt_ev : (CE.gt a b).ev env = (a.ev env).bind fun x e1 => (b.ev e1).bind fun y e2 => R.lift (fCmp (fun i j => decide (j < i)) x y) e2 := Eq.trans rfl rfl
@[simp] theorem ge_ev : (CE.ge a b).ev env = (a.ev env).bind fun x e1 => (b.ev e1).bind fun y e2 => R.lift (fCmp (fun i j => decide (j ≤ i)) x y) e2 := Eq.trans rfl rfl
@[simp] theorem eq_ev : (CE.eq a b).ev env = (a.ev env).bind fun x e1 => (b.ev e1).bind fun y e2 => R.lift (fEq false x y) e2 := Eq.trans rfl rfl
@[simp] theorem ne_ev : (CE.ne a b).ev env = (a.ev env).bind fun x e1 => (b.ev e1).bind fun y e2 => R.lift (fEq true x y) e2 := Eq.trans rfl rfl
@[simp] theorem isB_ev : (CE.isB a b).ev env = (a.ev env).bind fun x e1 => (b.ev e1).bind fun y e2 => R.lift (fIs false x y) e2 := Eq.trans rfl rfl
@[simp] theorem notB_ev : (CE.notB a b).ev env = (a.ev env).bind fun x e1 => (b.ev e1).bind fun y e2 => R.lift (fIs true x y) e2 := Eq.trans rfl rfl
@[simp] theorem isN_ev : (CE.isN a b).ev env = (a.ev env).bind fun x e1 => (b.ev e1).bind fun y e2 => R.lift (fIsN false x y) e2 := Eq.trans rfl rfl
@[simp] theorem notN_ev : (CE.notN a b).ev env = (a.ev env).bind fun x e1 => (b.ev e1).bind fun y e2 => R.lift (fIsN true x y) e2 := Eq.trans rfl rfl
@[simp] theorem addS_ev : (CE.addS a b).ev env = (a.ev env).bind fun x e1 => (b.ev e1).bind fun y e2 => R.lift (fAddS x y) e2 := Eq.trans rfl rfl
@[simp] theorem cat_ev : (CE.cat a b).ev env = (a.ev env).bind fun x e1 => (b.ev e1).bind fun y e2 => R.lift (fCat x y) e2 := Eq.trans rfl rfl
@[simp] theorem rep_ev : (CE.rep a b).ev env = (a.ev env).bind fun x e1 => (b.ev e1).bind fun y e2 => R.lift (fRep x y) e2 := Eq.trans rfl rfl
@[simp] theorem ix_ev : (CE.ix a b).ev env = (a.ev env).bind fun x e1 => (b.ev e1).bind fun y e2 => R.lift (fIx x y) e2 := Eq.trans rfl rfl
@[simp] theorem isIn_ev : (CE.isIn a b).ev env = (a.ev env).bind fun x e1 => (b.ev e1).bind fun y e2 => R.lift (fIn false x y) e2 := Eq.trans rfl rfl
@[simp] theorem notIn_ev : (CE.notIn a b).ev env = (a.ev env).bind fun x e1 => (b.ev e1).bind fun y e2 => R.lift (fIn true x y) e2 := Eq.trans rfl rfl
@[simp] theorem inS_ev : (CE.inS a b).ev env = (a.ev env).bind fun x e1 => (b.ev e1).bind fun y e2 => R.lift (fInS x y) e2 := Eq.trans rfl rfl
@[simp] theorem neg_ev : (CE.neg a).ev env = (a.ev env).bind fun x e1 => R.lift (fNeg x) e1 := Eq.trans rfl rfl
theorem andV_ev : (CE.andV a b).ev env = (a.ev env).bind fun x e1 => match x with
    | .bool true => b.ev e1
    | .bool false => .ok (.bool false) e1
    | _ => .bad := Eq.trans rfl rfl
theorem orV_ev : (CE.orV a b).ev env = (a.ev env).bind fun x e1 => match x with
    | .bool false => b.ev e1
    | .bool true => .ok (.bool true) e1
    | _ => .bad := Eq.trans rfl rfl
@[simp] theorem notV_ev : (CE.notV a).ev env = (a.ev env).bind fun x e1 => match x with
    | .bool b => .ok (.bool (!b)) e1
    | _ => .bad := Eq.trans rfl rfl
@[simp] theorem ite_ev : (CE.ite t a b).ev env = (t.ev env).bind fun x e1 => if x = true then a.ev e1 else b.ev e1 := Eq.trans rfl rfl
theorem leLe_ev : (CE.leLe a b c).ev env = (a.ev env).bind fun x e1 => (b.ev e1).bind fun y e2 => (R.lift (fCmp (fun i j => decide (i ≤ j)) x y) e2).bind fun q e3 => match q with
    | .bool true => (c.ev e3).bind fun z e4 => R.lift (fCmp (fun i j => decide (i ≤ j)) y z) e4
    | .bool false => .ok (.bool false) e3
    | _ => .bad := Eq.trans rfl rfl
@[simp] theorem leLt_ev : (CE.leLt a b c).ev env = (a.ev env).bind fun x e1 => (b.ev e1).bind fun y e2 => (R.lift (fCmp (fun i j => decide (i ≤ j)) x y) e2).bind fun q e3 => match q with
    | .bool true => (c.ev e3).bind fun z e4 => R.lift (fCmp (fun i j => decide (i < j)) y z) e4
    | .bool false => .ok (.bool false) e3
    | _ => .bad := Eq.trans rfl rfl
@[simp] theorem nil_ev : CA.nil.ev env = .ok [] env := Eq.trans rfl rfl
@[simp] theorem cons_ev : (CA.cons a A).ev env = (a.ev env).bind fun x e1 => (A.ev e1).bind fun xs e2 => .ok (x :: xs) e2 := Eq.trans rfl rfl
@[simp] theorem tup_ev : (CE.tup A).ev env = (A.ev env).bind fun xs e1 => if lineOk xs.length then .ok (.tuple xs) e1 else .bad := Eq.trans rfl rfl
@[simp] theorem lst_ev : (CE.lst A).ev env = (A.ev env).bind fun xs e1 => if lineOk xs.length then .ok (.list xs) e1 else .bad := Eq.trans rfl rfl
@[simp] theorem disp_ev : (CL.disp A).ev env = (A.ev env).bind fun xs e1 => if lineOk xs.length then .ok xs e1 else .bad := Eq.trans rfl rfl
@[simp] theorem ofL_ev : (CE.ofL l).ev env = (l.ev env).bind fun xs e1 => .ok (.list xs) e1 := Eq.trans rfl rfl
@[simp] theorem call_ev {φ : List D → RF} : (CE.call n φ A).ev env = (A.ev env).bind fun xs e1 => if xs.length = n then (φ xs).to e1 else .bad := Eq.trans rfl rfl
@[simp] theorem callM_ev {φ : OD → List D → RM} : (CE.callM n φ i A).ev env = (R.lift (Env.ow env i) env).bind fun _ e0 => (A.ev e0).bind fun xs e1 => (R.lift (Env.ow e1 i) e1).bind fun o e2 => if xs.length = n ∧ o.kind ≠ 0 then (φ o xs).to o.kind i e2 else .bad := Eq.trans rfl rfl
@[simp] theorem len_ev : (CE.len A).ev env = (A.ev env).bind fun xs e1 => R.lift (fLen xs) e1 := Eq.trans rfl rfl
@[simp] theorem strI_ev : (CE.strI A).ev env = (A.ev env).bind fun xs e1 => R.lift (fStrI xs) e1 := Eq.trans rfl rfl
@[simp] theorem intS_ev : (CE.intS A).ev env = (A.ev env).bind fun xs e1 => R.lift (fIntS xs) e1 := Eq.trans rfl rfl
@[simp] theorem min2_ev : (CE.min2 A).ev env = (A.ev env).bind fun xs e1 => R.lift (fMin2 xs) e1 := Eq.trans rfl rfl
@[simp] theorem max2_ev : (CE.max2 A).ev env = (A.ev env).bind fun xs e1 => R.lift (fMax2 xs) e1 := Eq.trans rfl rfl
@[simp] theorem abs_ev : (CE.abs A).ev env = (A.ev env).bind fun xs e1 => R.lift (fAbs xs) e1 := Eq.trans rfl rfl
@[simp] theorem sum_ev : (CE.sum A).ev env = (A.ev env).bind fun xs e1 => R.lift (fInts (fun ns => some (.int ns.sum)) xs) e1 := Eq.trans rfl rfl
@[simp] theorem maxL_ev : (CE.maxL A).ev env = (A.ev env).bind fun xs e1 => R.lift (fInts (fun ns => if ns = [] then none else some (.int (maxI ns))) xs) e1 := Eq.trans rfl rfl
@[simp] theorem minL_ev : (CE.minL A).ev env = (A.ev env).bind fun xs e1 => R.lift (fInts (fun ns => if ns = [] then none else some (.int (minI ns))) xs) e1 := Eq.trans rfl rfl
@[simp] theorem any_ev : (CE.any A).ev env = (A.ev env).bind fun xs e1 => R.lift (fBools (fun bs => .bool (bs.any id)) xs) e1 := Eq.trans rfl rfl
@[simp] theorem all_ev : (CE.all A).ev env = (A.ev env).bind fun xs e1 => R.lift (fBools (fun bs => .bool (bs.all id)) xs) e1 := Eq.trans rfl rfl
@[simp] theorem isTy_ev {T : String} : (CE.isTy T a).ev env = (a.ev env).bind fun x e1 => R.lift ((tyName x).bind fun n => (kitB n T).map .bool) e1 := Eq.trans rfl rfl
@[simp] theorem listRg2_ev : (CL.listRg2 a b).ev env = (a.ev env).bind fun x e1 => (b.ev e1).bind fun y e2 => match x, y with
    | .int n, .int m => if rngListOk n m then .ok (rangeD n 1 (m - n).toNat) e2 else .bad
    | _, _ => .bad := Eq.trans rfl rfl
@[simp] theorem copy_ev : (CL.copy a).ev env = (a.ev env).bind fun x e1 => match x with
    | .list ds => .ok ds e1
    | _ => .bad := Eq.trans rfl rfl
@[simp] theorem sorted_ev : (CL.sorted a).ev env = (a.ev env).bind fun x e1 => match x with
    | .list ds => R.lift ((intsD ds).map fun ns => (sortI ns).map .int) e1
    | _ => .bad := Eq.trans rfl rfl
@[simp] theorem repL_ev : (CL.rep a b).ev env = (a.ev env).bind fun x e1 => (b.ev e1).bind fun y e2 => R.lift (fRepL x y) e2 := Eq.trans rfl rfl
@[simp] theorem rev_ev : (CL.rev a).ev env = (a.ev env).bind fun x e1 => match x with
    | .list ds => .ok ds.reverse e1
    | _ => .bad := Eq.trans rfl rfl
@[simp] theorem cnone_ev : CO.none.ev env = .ok none env := Eq.trans rfl rfl
@[simp] theorem csome_ev : (CO.some a).ev env = (a.ev env).bind fun x e1 => match x with
    | .int i => .ok (some i) e1
    | _ => .bad := Eq.trans rfl rfl
@[simp] theorem slice_ev {lo hi : CO} : (CL.slice a lo hi).ev env = (a.ev env).bind fun x e1 => (lo.ev e1).bind fun l e2 => (hi.ev e2).bind fun u e3 => match x with
    | .list ds => .ok (cutD ds l u) e3
    | _ => .bad := Eq.trans rfl rfl
@[simp] theorem sliceS_ev {lo hi : CO} : (CE.sliceS a lo hi).ev env = (a.ev env).bind fun x e1 => (lo.ev e1).bind fun l e2 => (hi.ev e2).bind fun u e3 => match x with
    | .str z => if lineOk z.length then .ok (.str (cutS z l u)) e3 else .bad
    | _ => .bad := Eq.trans rfl rfl
@[simp] theorem lc_ev {src : CI} {g : CGc} : (CL.lc src g t e).ev env = (src.ev env).bind fun ds e1 => if lk (decide (ds.length ≤ 100000)) then R.lift (lcF g.g.ev t.ev e.ev (wipeE (stripE e1) g.own) ds) e1 else .bad := Eq.trans rfl rfl
@[simp] theorem of_ev : (CT.of a).ev env = (a.ev env).bind fun x e1 => match x with
    | .bool b => .ok b e1
    | _ => .bad := Eq.trans rfl rfl
@[simp] theorem tand_ev : (CT.and t u).ev env = (t.ev env).bind fun x e1 => if x = true then u.ev e1 else .ok false e1 := Eq.trans rfl rfl
@[simp] theorem tor_ev : (CT.or t u).ev env = (t.ev env).bind fun x e1 => if x = true then .ok true e1 else u.ev e1 := Eq.trans rfl rfl
@[simp] theorem tnot_ev : (CT.not t).ev env = (t.ev env).bind fun x e1 => .ok (!x) e1 := Eq.trans rfl rfl
@[simp] theorem tyes_ev : CT.yes.ev env = .ok true env := Eq.trans rfl rfl
@[simp] theorem rng1_ev : (CI.rng1 a).ev env = (a.ev env).bind fun x e1 => match x with
    | .int n => if rngOk n then .ok (rangeD 0 1 n.toNat) e1 else .bad
    | _ => .bad := Eq.trans rfl rfl
@[simp] theorem rng2_ev : (CI.rng2 a b).ev env = (a.ev env).bind fun x e1 => (b.ev e1).bind fun y e2 => match x, y with
    | .int n, .int m => if rngOk n && rngOk m then .ok (rangeD n 1 (m - n).toNat) e2 else .bad
    | _, _ => .bad := Eq.trans rfl rfl
@[simp] theorem rng3_ev : (CI.rng3 a b c).ev env = (a.ev env).bind fun x e1 => (b.ev e1).bind fun y e2 => (c.ev e2).bind fun z e3 => match x, y, z with
    | .int n, .int m, .int k => if rngOk n && rngOk m && decide (k = -1) then .ok (rangeD n (-1) (n - m).toNat) e3 else .bad
    | _, _, _ => .bad := Eq.trans rfl rfl
@[simp] theorem ilist_ev : (CI.list a).ev env = (a.ev env).bind fun x e1 => match x with
    | .list ds => .ok ds e1
    | _ => .bad := Eq.trans rfl rfl
@[simp] theorem itup_ev : (CI.tup a).ev env = (a.ev env).bind fun x e1 => match x with
    | .tuple ds => .ok ds e1
    | _ => .bad := Eq.trans rfl rfl
@[simp] theorem ienum_ev : (CI.enum a).ev env = (a.ev env).bind fun x e1 => match x with
    | .list ds => .ok (enumD ds) e1
    | _ => .bad := Eq.trans rfl rfl
@[simp] theorem izip_ev : (CI.zip a b).ev env = (a.ev env).bind fun x e1 => (b.ev e1).bind fun y e2 => match x, y with
    | .list ds, .list es => .ok (zipD ds es) e2
    | _, _ => .bad := Eq.trans rfl rfl
@[simp] theorem istr_ev : (CI.str a).ev env = (a.ev env).bind fun x e1 => match x with
    | .str z => .ok (strD z) e1
    | _ => .bad := Eq.trans rfl rfl
@[simp] theorem ownIx_ev : (CE.ownIx i a).ev env = (R.lift (Env.ow env i) env).bind fun _ e0 => (a.ev e0).bind fun x e1 => (R.lift (Env.ow e1 i) e1).bind fun o e2 => match o, x with
    | .lst ds, .int k => R.lift (atI ds k) e2
    | _, _ => .bad := Eq.trans rfl rfl
@[simp] theorem ownNe_ev : (CE.ownNe i a).ev env = (R.lift (Env.ow env i) env).bind fun _ e0 => (a.ev e0).bind fun x e1 => (R.lift (Env.ow e1 i) e1).bind fun o e2 => match o with
    | .lst ds => R.lift (fEq true (.list ds) x) e2
    | _ => .bad := Eq.trans rfl rfl
@[simp] theorem index_ev : (CE.index a b).ev env = (a.ev env).bind fun x e1 => match x with
    | .list ds => (b.ev e1).bind fun y e2 => if flatD y && ds.all flatD then R.lift ((indexD y ds).map fun j => .int (j : Nat)) e2 else .bad
    | _ => .bad := Eq.trans rfl rfl
@[simp] theorem countI_ev : (CE.countI a b).ev env = (a.ev env).bind fun x e1 => match x with
    | .list ds => (b.ev e1).bind fun y e2 => match y with
      | .int k => R.lift ((intsD ds).map fun ns => .int (ns.count k : Nat)) e2
      | _ => .bad
    | _ => .bad := Eq.trans rfl rfl
variable {p q : CS}
@[simp] theorem snil_ev : CS.nil.ev env = .nx env := Eq.trans rfl rfl
@[simp] theorem seq_ev : (CS.seq p q).ev env = (p.ev env).bind q.ev := Eq.trans rfl rfl
@[simp] theorem asg_ev : (CS.asg i a).ev env = (a.ev env).toF fun d e1 => if canSet e1 i = true then .nx (e1.set i (some (.im d))) else .bad := Eq.trans rfl rfl
@[simp] theorem asgOw_ev : (CS.asgOw i l).ev env = (l.ev env).toF fun ds e1 => if canSet e1 i = true then .nx (e1.set i (some (.ow (.lst ds)))) else .bad := Eq.trans rfl rfl
@[simp] theorem asgT_ev {g : CG} : (CS.asgT g a).ev env = (a.ev env).toF fun d e1 => match g.ev d e1 with
    | some e2 => .nx e2
    | none => .bad := Eq.trans rfl rfl
@[simp] theorem par_ev : (CS.par i j a b).ev env = (a.ev env).toF fun d e1 => (b.ev e1).toF fun d' e2 => if canSet e2 i = true ∧ canSet (e2.set i (some (.im d))) j = true then .nx ((e2.set i (some (.im d))).set j (some (.im d'))) else .bad := Eq.trans rfl rfl
@[simp] theorem augAdd_ev : (CS.augAdd i a).ev env = (R.lift (Env.im env i) env).toF fun x e0 => (a.ev e0).toF fun y e1 => match x, y with
    | .int p, .int q => if true = true then (if canSet e1 i = true then .nx (e1.set i (some (.im (.int (p + q))))) else .bad) else .bad
    | _, _ => .bad := Eq.trans rfl rfl
@[simp] theorem augSub_ev : (CS.augSub i a).ev env = (R.lift (Env.im env i) env).toF fun x e0 => (a.ev e0).toF fun y e1 => match x, y with
    | .int p, .int q => if true = true then (if canSet e1 i = true then .nx (e1.set i (some (.im (.int (p - q))))) else .bad) else .bad
    | _, _ => .bad := Eq.trans rfl rfl
@[simp] theorem augMul_ev : (CS.augMul i a).ev env = (R.lift (Env.im env i) env).toF fun x e0 => (a.ev e0).toF fun y e1 => match x, y with
    | .int p, .int q => if (sm p && sm q) = true then (if canSet e1 i = true then .nx (e1.set i (some (.im (.int (p * q))))) else .bad) else .bad
    | _, _ => .bad := Eq.trans rfl rfl
@[simp] theorem append_ev : (CS.append i a).ev env = (R.lift (Env.owL env i) env).toF fun _ e0 => (a.ev e0).toF fun x e1 => (R.lift (Env.owL e1 i) e1).toF fun ds e2 =>
    if lk (decide (ds.length < 100000)) then .nx (e2.set i (some (.ow (.lst (ds ++ [x]))))) else .bad := Eq.trans rfl rfl
@[simp] theorem freeze_ev : (CS.freeze i p).ev env = match Env.owL env i with
    | some ds => p.ev (env.set i (some (.im (.list ds))))
    | none => .bad := Eq.trans rfl rfl
@[simp] theorem expr_ev : (CS.expr a).ev env = (a.ev env).toF fun _ e1 => .nx e1 := Eq.trans rfl rfl
@[simp] theorem ret_ev : (CS.ret a).ev env = (a.ev env).toF fun d e1 => .rt d e1 := Eq.trans rfl rfl
@[simp] theorem site_ev : (CS.ite t p q).ev env = (t.ev env).toF fun x e1 => if x = true then p.ev e1 else q.ev e1 := Eq.trans rfl rfl
@[simp] theorem raise_ev {k : Nat} : (CS.raise k).ev env = .err k env := Eq.trans rfl rfl
@[simp] theorem whl_ev : (CS.whl n t p).ev env = whF t.ev p.ev n env := Eq.trans rfl rfl
@[simp] theorem for_ev {src : CI} {g : CG} : (CS.for src g p).ev env = (src.ev env).toF fun ds e1 => forF g.ev p.ev ds e1 := Eq.trans rfl rfl
@[simp] theorem gname_ev {d : D} : (CG.name i).ev d env = if canSet env i = true then some (env.set i (some (.im d))) else none := Eq.trans rfl rfl
@[simp] theorem gtup_ev {d : D} {is : List Nat} : (CG.tup is).ev d env = match d with
    | .tuple ds => evNames is ds env
    | _ => none := Eq.trans rfl rfl
end
@[simp] theorem fAdd_i {i j : Int} : fAdd (.int i) (.int j) = some (.int (i + j)) := Eq.trans rfl rfl
@[simp] theorem fSub_i {i j : Int} : fSub (.int i) (.int j) = some (.int (i - j)) := Eq.trans rfl rfl
@[simp] theorem fCmp_i {p : Int → Int → Bool} {i j : Int} : fCmp p (.int i) (.int j) = some (.bool (p i j)) := Eq.trans rfl rfl
theorem fMul_i {i j : Int} (h : sm i = true) (h' : sm j = true) : fMul (.int i) (.int j) = some (.int (i * j)) := by simp [fMul, h, h']
theorem fDiv_i {i j : Int} (h : 0 < j) (h' : sm j = true) : fDiv (.int i) (.int j) = some (.int (i / j)) := by simp [fDiv, h, h']
theorem fMod_i {i j : Int} (h : 0 < j) : fMod (.int i) (.int j) = some (.int (i % j)) := by simp [fMod, h]
@[simp] theorem fIs_b {n a b : Bool} : fIs n (.bool a) (.bool b) = some (.bool (if n then !decide (a = b) else decide (a = b))) := Eq.trans rfl rfl
@[simp] theorem fEq_ii {n : Bool} {i j : Int} : fEq n (.int i) (.int j) = some (.bool (if n then !decide (i = j) else decide (i = j))) := by
  unfold fEq
  have h1 : SeqAt.shaped (PyData.int i) = true := Eq.trans rfl rfl
  have h2 : SeqAt.shaped (PyData.int j) = true := rfl
  rw [h1, h2]
  simp only [Bool.and_self, if_true, PyData.eqv]
  rw [show (i == j) = decide (i = j) from rfl]
@[simp] theorem fEq_bb {n : Bool} {i j : Bool} : fEq n (.bool i) (.bool j) = some (.bool (if n then !decide (i = j) else decide (i = j))) := by
  cases n <;> cases i <;> cases j <;> rfl
theorem eqvAll_ints : ∀ xs ys : List Int, PyData.eqvAll (xs.map .int) (ys.map .int) = decide (xs = ys)
  | [], [] => rfl
  | [], _ :: _ => rfl
  | _ :: _, [] => rfl
  | x :: xs, y :: ys => by
    simp only [List.map_cons, PyData.eqvAll, PyData.eqv, eqvAll_ints xs ys]
    by_cases h : x = y <;> by_cases h' : xs = ys <;> simp [h, h']
theorem fEq_ll {n : Bool} {xs ys : List Int} : fEq n (.list (xs.map .int)) (.list (ys.map .int)) = some (.bool (if n then !decide (xs = ys) else decide (xs = ys))) := by
  unfold fEq
  rw [shaped_ints, shaped_ints]
  simp only [Bool.and_self, if_true, PyData.eqv, eqvAll_ints]
@[simp] theorem im_0 {d : D} {r : Env} : Env.im (some (.im d) :: r) 0 = some d := Eq.trans rfl rfl
@[simp] theorem im_s {s : Option Sl} {r : Env} {i : Nat} : Env.im (s :: r) (i + 1) = Env.im r i := by simp [Env.im]
@[simp] theorem ow_0 {d : OD} {r : Env} : Env.ow (some (.ow d) :: r) 0 = some d := Eq.trans rfl rfl
@[simp] theorem ow_s {s : Option Sl} {r : Env} {i : Nat} : Env.ow (s :: r) (i + 1) = Env.ow r i := by simp [Env.ow]
@[simp] theorem owL_0 {d : List D} {r : Env} : Env.owL (some (.ow (.lst d)) :: r) 0 = some d := Eq.trans rfl rfl
@[simp] theorem owL_s {s : Option Sl} {r : Env} {i : Nat} : Env.owL (s :: r) (i + 1) = Env.owL r i := by simp [Env.owL]
@[simp] theorem cs_n {r : Env} : canSet (none :: r) 0 = true := by simp [canSet]
@[simp] theorem cs_i {d : D} {r : Env} : canSet (some (.im d) :: r) 0 = true := by simp [canSet]
@[simp] theorem cs_l {d : List D} {r : Env} : canSet (some (.ow (.lst d)) :: r) 0 = true := by simp [canSet, OD.kind]
@[simp] theorem cs_s {s : Option Sl} {r : Env} {i : Nat} : canSet (s :: r) (i + 1) = canSet r i := by simp [canSet]
@[simp] theorem rf_ok {d : D} {env : Env} : (RF.ok d).to env = .ok d env := Eq.trans rfl rfl
@[simp] theorem rf_err {k : Nat} {env : Env} : (RF.err k).to env = .err k env := Eq.trans rfl rfl
@[simp] theorem rf_bad {env : Env} : RF.bad.to env = .bad := Eq.trans rfl rfl
@[simp] theorem rm_ok {d : D} {o : OD} {k i : Nat} {env : Env} : (RM.ok d o).to k i env = if o.kind = k then .ok d (env.set i (some (.ow o))) else .bad := Eq.trans rfl rfl
@[simp] theorem od_k {s : DrawSt} : (OD.draws s).kind = 1 := Eq.trans rfl rfl
@[simp] theorem od_r {l p : List Int} : (OD.row l p).kind = 2 := Eq.trans rfl rfl
theorem sm_of {i : Int} (h : i.natAbs < BIG) : sm i = true := lk_of h
theorem sm_tp {i k : Int} (hk : k ≤ 1100) (h0 : -tp k ≤ i) (h1 : i ≤ tp k) : sm i = true := by
  have := tp_big hk
  have hp := tp_pos k
  exact sm_of (by omega)
theorem runF_rt {b : CS} {n : Nat} {ds : List D} {d : D} {e : Env} (h : b.ev (args ds n) = .rt d e) : runF b n ds = .ok d := by unfold runF; rw [h]
theorem runF_err {b : CS} {n : Nat} {ds : List D} {k : Nat} {e : Env} (h : b.ev (args ds n) = .err k e) : runF b n ds = .err k := by unfold runF; rw [h]
theorem runF_nx {b : CS} {n : Nat} {ds : List D} {e : Env} (h : b.ev (args ds n) = .nx e) : runF b n ds = .ok .none := by unfold runF; rw [h]
theorem forF_nil {g : D → Env → Option Env} {b : Env → F} {env : Env} : forF g b [] env = .nx env := rfl
theorem forF_cons {g : D → Env → Option Env} {b : Env → F} {env : Env} {d : D} {ds : List D} : forF g b (d :: ds) env = match g d env with
    | none => .bad
    | some e1 => (b e1).bind (forF g b ds) := rfl
theorem rangeD_zero {lo c : Int} : rangeD lo c 0 = [] := rfl
theorem rangeD_succ {lo c : Int} {n : Nat} : rangeD lo c (n + 1) = .int lo :: rangeD (lo + c) c n := by
  unfold rangeD
  rw [List.range_succ_eq_map, List.map_cons, List.map_map]
  congr 1
  · simp
  · apply List.map_congr_left
    intro k _
    show PyData.int (lo + ((k + 1 : Nat) : Int) * c) = PyData.int (lo + c + (k : Int) * c)
    congr 1
    push_cast
    rw [Int.add_mul]
    omega
/-! ### choices with a value each way -/
@[simp] theorem R.ite_ok {α : Type} {c : Prop} [Decidable c] {a b : α} {e : Env} : (if c then R.ok a e else R.ok b e) = R.ok (if c then a else b) e := by split <;> rfl
@[simp] theorem ite_int {c : Prop} [Decidable c] {a b : Int} : (if c then PyData.int a else PyData.int b) = PyData.int (if c then a else b) := by split <;> rfl
@[simp] theorem ite_bool {c : Prop} [Decidable c] {a b : Bool} : (if c then PyData.bool a else PyData.bool b) = PyData.bool (if c then a else b) := by split <;> rfl
def leF (x y : D) (r : R D) (e : Env) : R D := match x, y with
  | .int i, .int j => if i ≤ j then r.bind fun z e4 => R.lift (fCmp (fun i j => decide (i ≤ j)) (.int j) z) e4 else .ok (.bool false) e
  | _, _ => .bad
@[simp] theorem leF_ok {i j k : Int} {e : Env} : leF (.int i) (.int j) (.ok (.int k) e) e = .ok (.bool (decide (i ≤ j) && decide (j ≤ k))) e := by
  unfold leF
  by_cases h : i ≤ j <;> simp [h]
@[simp] theorem leLe_ev2 {a b c : CE} {env : Env} : (CE.leLe a b c).ev env = (a.ev env).bind fun x e1 => (b.ev e1).bind fun y e2 => leF x y (c.ev e2) e2 := by
  rw [leLe_ev]
  congr 1
  funext x e1
  congr 1
  funext y e2
  cases x <;> cases y <;> try rfl
  rename_i i j
  by_cases h : i ≤ j <;> simp [leF, h]
def andF (x : D) (r : R D) (e : Env) : R D := match x with
  | .bool p => if p = true then r else .ok (.bool false) e
  | _ => .bad
@[simp] theorem andF_ok {p q : Bool} {e : Env} : andF (.bool p) (.ok (.bool q) e) e = .ok (.bool (p && q)) e := by cases p <;> rfl
@[simp] theorem andV_ev2 {a b : CE} {env : Env} : (CE.andV a b).ev env = (a.ev env).bind fun x e1 => andF x (b.ev e1) e1 := by
  rw [andV_ev]
  congr 1
  funext x e1
  cases x <;> try rfl
  rename_i p
  cases p <;> rfl
def orF (x : D) (r : R D) (e : Env) : R D := match x with
  | .bool p => if p = true then .ok (.bool true) e else r
  | _ => .bad
@[simp] theorem orF_ok {p q : Bool} {e : Env} : orF (.bool p) (.ok (.bool q) e) e = .ok (.bool (p || q)) e := by cases p <;> rfl
@[simp] theorem orV_ev2 {a b : CE} {env : Env} : (CE.orV a b).ev env = (a.ev env).bind fun x e1 => orF x (b.ev e1) e1 := by
  rw [orV_ev]
  congr 1
  funext x e1
  cases x <;> try rfl
  rename_i p
  cases p <;> rfl
@[simp] theorem andF_f {r : R D} {e : Env} : andF (.bool false) r e = .ok (.bool false) e := Eq.trans rfl rfl
@[simp] theorem andF_t {r : R D} {e : Env} : andF (.bool true) r e = r := Eq.trans rfl rfl
@[simp] theorem orF_f {r : R D} {e : Env} : orF (.bool false) r e = r := Eq.trans rfl rfl
@[simp] theorem orF_t {r : R D} {e : Env} : orF (.bool true) r e = .ok (.bool true) e := Eq.trans rfl rfl
theorem leF_no {i j : Int} {r : R D} {e : Env} (h : ¬ i ≤ j) : leF (.int i) (.int j) r e = .ok (.bool false) e := by unfold leF; simp [h]
end FD
set_option Elab.async false
set_option linter.all false
set_option maxRecDepth 100000
set_option maxHeartbeats 4000000
noncomputable section
namespace FD
open PySem L2 TL

/-! ### loops -/
theorem forF_inv {α : Type} {f : α → D} {g : D → Env → Option Env} {b : Env → F} (P : Nat → Env → Prop) : ∀ (xs : List α) (k : Nat) (env : Env), P k env →
    (∀ i x, xs[i]? = some x → ∀ e, P (k + i) e → ∃ e1, g (f x) e = some e1 ∧ ∃ e2, b e1 = .nx e2 ∧ P (k + i + 1) e2) → ∃ e, forF g b (xs.map f) env = .nx e ∧ P (k + xs.length) e
  | [], k, env, h, _ => ⟨env, rfl, h⟩
  | x :: xs, k, env, h, st => by
    obtain ⟨e1, h1, e2, h2, h3⟩ := st 0 x rfl env h
    obtain ⟨e, h4, h5⟩ := forF_inv P xs (k + 1) e2 h3 fun i y hy e he => by
      have := st (i + 1) y (by simpa using hy) e (by rw [show k + (i + 1) = k + 1 + i by omega]; exact he)
      rw [show k + (i + 1) = k + 1 + i by omega] at this
      exact this
    refine ⟨e, ?_, by rw [List.length_cons, show k + (xs.length + 1) = k + 1 + xs.length by omega]; exact h5⟩
    rw [List.map_cons, forF_cons, h1]
    dsimp only
    rw [h2]
    exact h4
/-- .. that may end with an answer -/
theorem forF_inv2 {α : Type} {f : α → D} {g : D → Env → Option Env} {b : Env → F} (P : Nat → Env → Prop) (Q : F → Prop) : ∀ (xs : List α) (k : Nat) (env : Env), P k env →
    (∀ i x, xs[i]? = some x → ∀ e, P (k + i) e → ∃ e1, g (f x) e = some e1 ∧ ((∃ e2, b e1 = .nx e2 ∧ P (k + i + 1) e2) ∨ ((∃ d e2, b e1 = .rt d e2) ∧ Q (b e1)))) → (∃ e, forF g b (xs.map f) env = .nx e ∧ P (k + xs.length) e) ∨ ((∃ d e, forF g b (xs.map f) env = .rt d e) ∧ Q (forF g b (xs.map f) env))
  | [], k, env, h, _ => .inl ⟨env, rfl, h⟩
  | x :: xs, k, env, h, st => by
    obtain ⟨e1, h1, ⟨e2, h2, h3⟩ | ⟨⟨d, e2, h2⟩, h3⟩⟩ := st 0 x rfl env h
    · have ih := forF_inv2 P Q xs (k + 1) e2 h3 fun i y hy e he => by
        have := st (i + 1) y (by simpa using hy) e (by rw [show k + (i + 1) = k + 1 + i by omega]; exact he)
        rw [show k + (i + 1) = k + 1 + i by omega] at this
        exact this
      have e : forF g b ((x :: xs).map f) env = forF g b (xs.map f) e2 := by
        rw [List.map_cons, forF_cons, h1]
        dsimp only
        rw [h2]
        rfl
      rw [e, List.length_cons, show k + (xs.length + 1) = k + 1 + xs.length by omega]
      exact ih
    · have e : forF g b ((x :: xs).map f) env = .rt d e2 := by
        rw [List.map_cons, forF_cons, h1]
        dsimp only
        rw [h2]
        rfl
      rw [h2] at h3
      rw [e]
      exact .inr ⟨⟨_, _, rfl⟩, h3⟩
theorem whF_inv {c : Env → R Bool} {b : Env → F} (P : Nat → Env → Prop) (Q : Env → Prop) (st : ∀ m e, P m e → (∃ e', c e = .ok false e' ∧ Q e') ∨ (∃ e1 e2 m', c e = .ok true e1 ∧ b e1 = .nx e2 ∧ m' < m ∧ P m' e2)) :
    ∀ (n m : Nat) (env : Env), P m env → m < n → ∃ e, whF c b n env = .nx e ∧ Q e
  | 0, m, env, _, h => absurd h (Nat.not_lt_zero _)
  | n + 1, m, env, h, hm => by
    rcases st m env h with ⟨e', h1, h2⟩ | ⟨e1, e2, m', h1, h2, h3, h4⟩
    · refine ⟨e', ?_, h2⟩
      unfold whF
      rw [h1]
      simp
    · obtain ⟨e, q1, q2⟩ := whF_inv P Q st n m' e2 h4 (by omega)
      refine ⟨e, ?_, q2⟩
      unfold whF
      rw [h1]
      simp only [R.toF_ok, if_true]
      rw [h2]
      exact q1
theorem lcF_of {α : Type} {f : α → D} {g : D → Env → Option Env} {c : Env → R Bool} {e : Env → R D} {env : Env} {p : α → Bool} {q : α → D} : ∀ {xs : List α},
    (∀ x ∈ xs, ∃ e1, g (f x) env = some e1 ∧ ∃ e2, c e1 = .ok (p x) e2 ∧ (p x = true → ∃ e3, e e2 = .ok (q x) e3)) → lcF g c e env (xs.map f) = some ((xs.filter p).map q)
  | [], _ => rfl
  | x :: xs, h => by
    obtain ⟨e1, h1, e2, h2, h3⟩ := h x (by simp)
    have ih := lcF_of (xs := xs) fun y hy => h y (by simp [hy])
    rw [List.map_cons]
    unfold lcF
    rw [h1]
    dsimp only
    rw [h2]
    cases q2 : p x with
    | true =>
      obtain ⟨e3, h4⟩ := h3 q2
      dsimp only
      rw [h4]
      dsimp only
      rw [ih, List.filter_cons_of_pos (by rw [q2])]
      rfl
    | false =>
      dsimp only
      rw [ih, List.filter_cons_of_neg (by simp [q2])]

/-! ### ranges -/
def rg (lo hi : Int) : List Int := (List.range (hi - lo).toNat).map fun (k : Nat) => lo + (k : Int)
theorem rangeD_rg (lo hi : Int) : rangeD lo 1 (hi - lo).toNat = (rg lo hi).map .int := by
  unfold rangeD rg
  rw [List.map_map]
  apply List.map_congr_left
  intro k _
  show PyData.int (lo + (k : Int) * 1) = PyData.int (lo + k)
  rw [Int.mul_one]
theorem rangeD_0 (hi : Int) : rangeD 0 1 hi.toNat = (rg 0 hi).map .int := by rw [← rangeD_rg, Int.sub_zero]
theorem mem_rg {lo hi x : Int} : x ∈ rg lo hi ↔ lo ≤ x ∧ x < hi := by
  unfold rg
  rw [List.mem_map]
  constructor
  · rintro ⟨k, hk, rfl⟩
    have := List.mem_range.mp hk
    omega
  · rintro ⟨h1, h2⟩
    exact ⟨(x - lo).toNat, List.mem_range.mpr (by omega), by omega⟩
theorem rg_length (lo hi : Int) : (rg lo hi).length = (hi - lo).toNat := by simp [rg]
theorem rg_get {lo hi x : Int} {i : Nat} (h : (rg lo hi)[i]? = some x) : x = lo + i ∧ lo + i < hi := by
  unfold rg at h
  rw [List.getElem?_map] at h
  by_cases hi' : i < (hi - lo).toNat
  · rw [List.getElem?_range hi'] at h
    simp at h
    omega
  · rw [List.getElem?_eq_none (by simpa using hi')] at h
    cases h
theorem rg_sorted (lo hi : Int) : (rg lo hi).Pairwise (· < ·) := by
  unfold rg
  rw [List.pairwise_map]
  exact List.Pairwise.imp (fun h => by omega) List.pairwise_lt_range
/-- lists that rise are told by their members -/
theorem rise_ext : ∀ {xs ys : List Int}, xs.Pairwise (· < ·) → ys.Pairwise (· < ·) → (∀ z, z ∈ xs ↔ z ∈ ys) → xs = ys
  | [], [], _, _, _ => rfl
  | [], y :: ys, _, _, h => by have := (h y).mpr (by simp); simp at this
  | x :: xs, [], _, _, h => by have := (h x).mp (by simp); simp at this
  | x :: xs, y :: ys, p, q, h => by
    obtain ⟨p1, p2⟩ := List.pairwise_cons.mp p
    obtain ⟨q1, q2⟩ := List.pairwise_cons.mp q
    have exy : x = y := by
      have a := (h x).mp (by simp)
      have b := (h y).mpr (by simp)
      rcases List.mem_cons.mp a with a | a
      · exact a
      · rcases List.mem_cons.mp b with b | b
        · exact b.symm
        · have := p1 _ b; have := q1 _ a; omega
    subst exy
    congr 1
    refine rise_ext p2 q2 fun z => ⟨fun hz => ?_, fun hz => ?_⟩
    · rcases List.mem_cons.mp ((h z).mp (by simp [hz])) with e | e
      · have := p1 _ hz; omega
      · exact e
    · rcases List.mem_cons.mp ((h z).mpr (by simp [hz])) with e | e
      · have := q1 _ hz; omega
      · exact e
theorem rise_filter {xs : List Int} {p : Int → Bool} (h : xs.Pairwise (· < ·)) : (xs.filter p).Pairwise (· < ·) := List.Pairwise.filter p h
@[simp] theorem wipe_nil {env : Env} : wipeE env [] = env := Eq.trans rfl rfl
@[simp] theorem wipe_cons {env : Env} {v : Nat} {vs : List Nat} : wipeE env (v :: vs) = (wipeE env vs).set v none := Eq.trans rfl rfl
@[simp] theorem strip_nil : stripE [] = [] := Eq.trans rfl rfl
@[simp] theorem strip_n {r : Env} : stripE (none :: r) = none :: stripE r := Eq.trans rfl rfl
@[simp] theorem strip_i {d : D} {r : Env} : stripE (some (.im d) :: r) = some (.im d) :: stripE r := Eq.trans rfl rfl
@[simp] theorem strip_o {d : OD} {r : Env} : stripE (some (.ow d) :: r) = none :: stripE r := Eq.trans rfl rfl
theorem lineOk_of {n : Nat} (h : n ≤ 100000) : lineOk n = true := lk_of h
theorem rngOk_is {i : Int} (h : -(2 ^ 62) ≤ i) (h' : i < 2 ^ 62) : rngOk i = true := by unfold rngOk; rw [lk_of h, lk_of h']; rfl
theorem fEq_ss {n : Bool} {x y : Str} (hx : PyData.strOk x = true) (hy : PyData.strOk y = true) : fEq n (.str x) (.str y) = some (.bool (if n then !decide (x = y) else decide (x = y))) := by
  unfold fEq
  have h1 : SeqAt.shaped (PyData.str x) = true := by simp [SeqAt.shaped, PyData.canLay0, PyData.depth, hx]
  have h2 : SeqAt.shaped (PyData.str y) = true := by simp [SeqAt.shaped, PyData.canLay0, PyData.depth, hy]
  rw [h1, h2]
  simp only [Bool.and_self, if_true, PyData.eqv]
  rfl
theorem strOk_of {x : Str} (h : ∀ c ∈ x.cps.toList, c < 1114112) : PyData.strOk x = true := by
  unfold PyData.strOk
  rw [← Array.all_toList, List.all_eq_true]
  exact fun c hc => decide_eq_true (h c hc)
theorem txt_ok (n : Nat) : PyData.strOk (txtOf (n : Int)) = true := strOk_of fun c hc => by
  rw [tl_txt] at hc
  have := numL_digits n c hc
  omega
@[simp] theorem ty_ii {i : Int} : (tyName (.int i)).bind (fun n => (kitB n "int").map PyData.bool) = some (.bool true) := Eq.trans rfl rfl
@[simp] theorem ty_ib {i : Int} : (tyName (.int i)).bind (fun n => (kitB n "bool").map PyData.bool) = some (.bool false) := Eq.trans rfl rfl
@[simp] theorem ty_bb {i : Bool} : (tyName (.bool i)).bind (fun n => (kitB n "bool").map PyData.bool) = some (.bool true) := Eq.trans rfl rfl
@[simp] theorem ty_bi {i : Bool} : (tyName (.bool i)).bind (fun n => (kitB n "int").map PyData.bool) = some (.bool true) := Eq.trans rfl rfl
@[simp] theorem args1 {a : D} {n : Nat} : args [a] n = some (.im a) :: List.replicate (n - 1) none := Eq.trans rfl rfl
@[simp] theorem args2 {a b : D} {n : Nat} : args [a, b] n = some (.im a) :: some (.im b) :: List.replicate (n - 2) none := Eq.trans rfl rfl
@[simp] theorem args3 {a b c : D} {n : Nat} : args [a, b, c] n = some (.im a) :: some (.im b) :: some (.im c) :: List.replicate (n - 3) none := Eq.trans rfl rfl

/-! ### errors.py -/
theorem s_is_int {v lo hi : Int} : f_is_int [.int v, .int lo, .int hi] = .ok (.bool (decide (lo ≤ v) && decide (v ≤ hi))) := by
  unfold f_is_int
  by_cases h : lo ≤ v
  · refine runF_rt (e := args [.int v, .int lo, .int hi] 3) ?_
    simp [b_is_int, h]
  · refine runF_rt (e := args [.int v, .int lo, .int hi] 3) ?_
    simp [b_is_int, h]
theorem s_ten {k : Int} (h0 : -1000 ≤ k) (h : k ≤ 1000) : f_ten_to [.int k] = .ok (.int (tp k)) := by
  unfold f_ten_to
  have key : ∃ e, forF (CG.name 2).ev (CS.augMul 1 (CE.int 10)).ev ((rg 0 k).map .int) [some (.im (.int k)), some (.im (.int 1)), none] = .nx e ∧ ∃ o, e = [some (.im (.int k)), some (.im (.int (tp (rg 0 k).length))), o] ∧ canSet e 2 = true := by
    obtain ⟨e, h1, h2⟩ := forF_inv (f := PyData.int) (g := (CG.name 2).ev) (b := (CS.augMul 1 (CE.int 10)).ev) (fun i e => ∃ o, e = [some (.im (.int k)), some (.im (.int (tp (i : Nat)))), o] ∧ canSet e 2 = true) (rg 0 k) 0 [some (.im (.int k)), some (.im (.int 1)), none] ⟨none, rfl, by simp⟩ (by
      rintro i x hx e ⟨o, rfl, ho⟩
      obtain ⟨_, hlt⟩ := rg_get hx
      simp only [Nat.zero_add] at *
      refine ⟨_, by simp only [gname_ev, ho, if_true]; rfl, ?_⟩
      have h1 := tp_big (k := (i : Int)) (by omega)
      refine ⟨[some (.im (.int k)), some (.im (.int (tp (i + 1 : Nat)))), some (.im (.int x))], ?_, _, rfl, by simp⟩
      have e1 : sm (tp (i : Nat)) = true := sm_of h1
      have e2 : sm 10 = true := sm_of (by decide)
      simp [e1, e2]
      rw [tp_succ (by omega)])
    refine ⟨e, h1, ?_⟩
    simpa using h2
  obtain ⟨e, h1, o, h2, h3⟩ := key
  refine runF_rt (e := e) ?_
  have hk : rngOk k = true := rngOk_is (by omega) (by omega)
  simp [b_ten_to, hk, rangeD_0, h1]
  rw [h2]
  simp
  rw [rg_length]
  by_cases hn : 0 ≤ k
  · congr 1; omega
  · rw [tp_neg (show k ≤ 0 by omega), tp_neg (by omega)]
theorem tp60 : tp 60 = 1000000000000000000000000000000000000000000000000000000000000 := by decide
theorem s_is_number {v : Int} : f_is_number [.int v] = .ok (.bool (decide (1 ≤ v) && decide (v ≤ tp 60 - 1))) := by
  unfold f_is_number
  refine runF_rt (e := args [.int v] 1) ?_
  simp [b_is_number, s_is_int, s_ten]
theorem s_is_beginning {v : Int} : f_is_beginning [.int v] = .ok (.bool (decide (1 ≤ v) && decide (v ≤ 9999))) := by
  unfold f_is_beginning
  refine runF_rt (e := args [.int v] 1) ?_
  simp [b_is_beginning, s_is_int]
/-- a number that is possible -/
def isN (v : Int) : Prop := 1 ≤ v ∧ v < tp 60
def isB (v : Int) : Prop := 1 ≤ v ∧ v ≤ 9999
theorem s_check_number {v : Int} (h : isN v) : f_check_number [.int v] = .ok .none := by
  unfold f_check_number
  refine runF_nx (e := args [.int v] 1) ?_
  simp [b_check_number, s_is_number, h.1, show v ≤ tp 60 - 1 by have := h.2; omega]
theorem s_check_beginning {v : Int} (h : isB v) : f_check_beginning [.int v] = .ok .none := by
  unfold f_check_beginning
  refine runF_nx (e := args [.int v] 1) ?_
  simp [b_check_beginning, s_is_beginning, h.1, h.2]
theorem s_check_count {v lo hi : Int} (h : lo ≤ v) (h' : v ≤ hi) : f_check_count [.int v, .int lo, .int hi] = .ok .none := by
  unfold f_check_count
  refine runF_nx (e := args [.int v, .int lo, .int hi] 3) ?_
  simp [b_check_count, s_is_int, h, h']
theorem s_check_base {v : Int} (h : 2 ≤ v) (h' : v ≤ 99) : f_check_base [.int v] = .ok .none := by
  unfold f_check_base
  refine runF_nx (e := args [.int v] 1) ?_
  simp [b_check_base, s_is_int, h, h']
theorem s_check_step {v : Int} (h : 1 ≤ v) (h' : v ≤ 1000000) : f_check_step [.int v] = .ok .none := by
  unfold f_check_step
  refine runF_nx (e := args [.int v] 1) ?_
  simp [b_check_step, s_is_int, h, h']
/-! ### digits.py -/
/-- a whole number whose text is at hand -/
def isT (v : Int) : Prop := 0 ≤ v ∧ v < tp 630
theorem isT_N {v : Int} (h : isN v) : isT v := ⟨by have := h.1; omega, Int.lt_trans h.2 (tp_lt (by decide) (by decide))⟩
theorem isT_B {v : Int} (h : isB v) : isT v := ⟨by have := h.1; omega, Int.lt_of_le_of_lt h.2 (Int.lt_of_lt_of_le (show (9999 : Int) < tp 60 by decide) (tp_mono (by decide)))⟩
theorem isN_B {v : Int} (h : isB v) : isN v := ⟨h.1, Int.lt_of_le_of_lt h.2 (by decide)⟩
theorem bigs_of {v : Int} (h : isT v) : v.natAbs < BIGS := by
  obtain ⟨a, b⟩ := h
  unfold BIGS
  unfold tp at b
  have e : (630 : Int).toNat = 630 := rfl
  rw [e] at b
  omega
theorem sz_T {v : Int} (h : isT v) : sz v ≤ 630 := sz_le (by decide) h.1 h.2
theorem fStrI_is {v : Int} (h : isT v) : fStrI [.int v] = some (.str (txtOf v)) := by
  show (if lk (decide (v.natAbs < BIGS)) = true then some (PyData.str (txtOf v)) else none) = _
  rw [if_pos (lk_of (bigs_of h))]
theorem txt_sz {v : Int} (h : 0 ≤ v) : ((txtOf v).length : Int) = sz v := by
  obtain ⟨n, rfl⟩ := Int.eq_ofNat_of_zero_le h
  rw [txt_len]
  unfold sz
  rw [Int.toNat_natCast]
theorem s_size_of {v : Int} (h : isT v) : f_size_of [.int v] = .ok (.int (sz v)) := by
  unfold f_size_of
  refine runF_rt (e := args [.int v] 1) ?_
  have e := txt_sz h.1
  have l := sz_T h
  have := lineOk_of (n := (txtOf v).length) (by omega)
  simp [b_size_of, fStrI_is h, fLen, this, e]
theorem intOf_txt {n : Nat} (h : dl n ≤ 640) : fIntS [.str (txtOf (n : Int))] = some (.int n) := by
  show (if lk (decide ((txtOf (n : Int)).length ≤ 640)) = true then (intText? (txtOf (n : Int))).map PyData.int else none) = _
  rw [txt_len, if_pos (lk_of h)]
  have : intText? (txtOf (n : Int)) = some (n : Int) := int_num (by show dl n ≤ 4300; omega)
  rw [this]
  rfl
theorem fst_T {v k : Int} (h : 0 ≤ v) (hk : 1 ≤ k) : cutS (txtOf v) none (some k) = txtOf (fst v k) := by
  obtain ⟨n, rfl⟩ := Int.eq_ofNat_of_zero_le h
  obtain ⟨m, rfl⟩ := Int.eq_ofNat_of_zero_le (show 0 ≤ k by omega)
  rw [cut_txt (by omega), fst_nat]
theorem fst_le {v k : Int} (h : 0 ≤ v) : 0 ≤ fst v k ∧ fst v k ≤ v := by
  unfold fst
  split
  · exact ⟨Int.ediv_nonneg h (Int.le_of_lt (tp_pos _)), Int.ediv_le_self _ h⟩
  · omega
theorem s_first_of {v k : Int} (h : isT v) (hk : 1 ≤ k) : f_first_of [.int v, .int k] = .ok (.int (fst v k)) := by
  unfold f_first_of
  refine runF_rt (e := args [.int v, .int k] 2) ?_
  have e := txt_sz h.1
  have l := sz_T h
  have h1 := lineOk_of (n := (txtOf v).length) (by omega)
  have h2 : fIntS [.str (txtOf (fst v k))] = some (.int (fst v k)) := by
    have b := fst_le (k := k) h.1
    obtain ⟨n, hn⟩ := Int.eq_ofNat_of_zero_le b.1
    rw [hn] at b ⊢
    refine intOf_txt ?_
    have c := sz_mono b.1 b.2
    unfold sz at c l
    rw [Int.toNat_natCast] at c
    omega
  simp [b_first_of, fStrI_is h, h1, fst_T h.1 hk, h2]
theorem txt_inj' {a b : Int} (ha : 0 ≤ a) (hb : 0 ≤ b) : (txtOf a = txtOf b) ↔ a = b := by
  obtain ⟨n, rfl⟩ := Int.eq_ofNat_of_zero_le ha
  obtain ⟨m, rfl⟩ := Int.eq_ofNat_of_zero_le hb
  constructor
  · intro h; rw [txt_inj h]
  · intro h; rw [h]
theorem txt_ok' {a : Int} (ha : 0 ≤ a) : PyData.strOk (txtOf a) = true := by
  obtain ⟨n, rfl⟩ := Int.eq_ofNat_of_zero_le ha
  exact txt_ok n
theorem s_begins_of {v b : Int} (h : isT v) (hv : 1 ≤ v) (h' : isT b) (hb : 1 ≤ b) : f_begins_of [.int v, .int b] = .ok (.bool (beg v b)) := by
  unfold f_begins_of
  refine runF_rt (e := args [.int v, .int b] 2) ?_
  have e := txt_sz h.1
  have l := sz_T h
  have h1 := lineOk_of (n := (txtOf v).length) (by omega)
  have h3 := fst_le (k := sz b) h.1
  have h2 : fEq false (.str (txtOf (fst v (sz b)))) (.str (txtOf b)) = some (.bool (beg v b)) := by
    rw [fEq_ss (txt_ok' h3.1) (txt_ok' h'.1)]
    congr 2
    rw [if_neg (by decide)]
    rw [decide_eq_decide.mpr (txt_inj' h3.1 h'.1)]
    have := beg_fst hb hv
    cases q : beg v b with
    | true => rw [q] at this; exact decide_eq_true (this.mpr rfl)
    | false => rw [q] at this; exact decide_eq_false fun z => by have := this.mp z; cases this
  simp [b_begins_of, fStrI_is h, fStrI_is h', s_size_of h', h1, fst_T h.1 (sz_pos b), h2]
end FD
set_option Elab.async false
set_option linter.all false
set_option maxRecDepth 100000
set_option maxHeartbeats 4000000
noncomputable section
namespace FD
open PySem L2 TL
/-! ### the laws' helpers (printed by gen.py help) -/
def f_law_draw : OD → List D → RM := runM b_draw 6

def b_law_pick : CS :=
    (CS.ret (CE.ix (CE.var 1) (CE.callM 1 f_law_draw 0 (CA.cons (CE.len (CA.cons (CE.var 1) CA.nil)) CA.nil))))
def f_law_pick : OD → List D → RM := runM b_law_pick 2

def b_law_true : CS :=
    (CS.ret (CE.andV (CE.isTy "bool" (CE.var 0)) (CE.eq (CE.var 0) (CE.var 1))))
def f_law_true : List D → RF := runF b_law_true 2

def b_law_ten : CS :=
    (CS.seq (CS.asg 1 (CE.int 1))
    (CS.seq (CS.for (CI.rng1 (CE.var 0)) (CG.name 2) (CS.asg 1 (CE.mul (CE.var 1) (CE.int 10))))
    (CS.ret (CE.var 1))))
def f_law_ten : List D → RF := runF b_law_ten 3

def b_law_size : CS :=
    (CS.seq (CS.par 1 2 (CE.int 0) (CE.var 0))
    (CS.seq (CS.whl 2000 (CT.of (CE.gt (CE.var 2) (CE.int 0))) (CS.par 1 2 (CE.add (CE.var 1) (CE.int 1)) (CE.div (CE.var 2) (CE.int 10))))
    (CS.ret (CE.var 1))))
def f_law_size : List D → RF := runF b_law_size 3

def b_law_first : CS :=
    (CS.seq (CS.asg 2 (CE.call 1 f_law_size (CA.cons (CE.var 0) CA.nil)))
    (CS.ret (CE.ite (CT.of (CE.gt (CE.var 2) (CE.var 1))) (CE.div (CE.var 0) (CE.call 1 f_law_ten (CA.cons (CE.sub (CE.var 2) (CE.var 1)) CA.nil))) (CE.var 0))))
def f_law_first : List D → RF := runF b_law_first 3

def b_law_begins : CS :=
    (CS.seq (CS.asg 2 (CE.call 1 f_law_size (CA.cons (CE.var 1) CA.nil)))
    (CS.ret (CE.andV (CE.ge (CE.call 1 f_law_size (CA.cons (CE.var 0) CA.nil)) (CE.var 2)) (CE.eq (CE.call 2 f_law_first (CA.cons (CE.var 0) (CA.cons (CE.var 2) CA.nil))) (CE.var 1)))))
def f_law_begins : List D → RF := runF b_law_begins 3

def b_law_beginning : CS :=
    (CS.ret (CE.callM 1 f_law_pick 0 (CA.cons (CE.lst (CA.cons (CE.add (CE.int 1) (CE.callM 1 f_law_draw 0 (CA.cons (CE.int 9) CA.nil))) (CA.cons (CE.add (CE.int 1) (CE.callM 1 f_law_draw 0 (CA.cons (CE.int 99) CA.nil))) (CA.cons (CE.add (CE.int 1) (CE.callM 1 f_law_draw 0 (CA.cons (CE.int 999) CA.nil))) (CA.cons (CE.add (CE.int 1) (CE.callM 1 f_law_draw 0 (CA.cons (CE.int 9999) CA.nil))) CA.nil))))) CA.nil)))
def f_law_beginning : OD → List D → RM := runM b_law_beginning 1

def b_law_number : CS :=
    (CS.ret (CE.add (CE.int 1) (CE.callM 1 f_law_draw 0 (CA.cons (CE.callM 1 f_law_pick 0 (CA.cons (CE.lst (CA.cons (CE.int 9) (CA.cons (CE.int 99) (CA.cons (CE.int 2000) (CA.cons (CE.int 1000000) (CA.cons (CE.call 1 f_law_ten (CA.cons (CE.int 20) CA.nil)) (CA.cons (CE.sub (CE.call 1 f_law_ten (CA.cons (CE.int 60) CA.nil)) (CE.int 1)) CA.nil))))))) CA.nil)) CA.nil))))
def f_law_number : OD → List D → RM := runM b_law_number 1


/-! ### what they do -/
theorem s_lten {k : Int} (h0 : -1000 ≤ k) (h : k ≤ 1000) : f_law_ten [.int k] = .ok (.int (tp k)) := by
  unfold f_law_ten
  have key : ∃ e, forF (CG.name 2).ev (CS.asg 1 (CE.mul (CE.var 1) (CE.int 10))).ev ((rg 0 k).map .int) [some (.im (.int k)), some (.im (.int 1)), none] = .nx e ∧ ∃ o, e = [some (.im (.int k)), some (.im (.int (tp (rg 0 k).length))), o] ∧ canSet e 2 = true := by
    obtain ⟨e, h1, h2⟩ := forF_inv (f := PyData.int) (g := (CG.name 2).ev) (b := (CS.asg 1 (CE.mul (CE.var 1) (CE.int 10))).ev) (fun i e => ∃ o, e = [some (.im (.int k)), some (.im (.int (tp (i : Nat)))), o] ∧ canSet e 2 = true) (rg 0 k) 0 [some (.im (.int k)), some (.im (.int 1)), none] ⟨none, rfl, by simp⟩ (by
      rintro i x hx e ⟨o, rfl, ho⟩
      obtain ⟨_, hlt⟩ := rg_get hx
      simp only [Nat.zero_add] at *
      refine ⟨_, by simp only [gname_ev, ho, if_true]; rfl, ?_⟩
      have h1 := tp_big (k := (i : Int)) (by omega)
      refine ⟨[some (.im (.int k)), some (.im (.int (tp (i + 1 : Nat)))), some (.im (.int x))], ?_, _, rfl, by simp⟩
      have e1 : sm (tp (i : Nat)) = true := sm_of h1
      have e2 : sm 10 = true := sm_of (by decide)
      simp [fMul_i e1 e2]
      rw [tp_succ (by omega)])
    refine ⟨e, h1, ?_⟩
    simpa using h2
  obtain ⟨e, h1, o, h2, h3⟩ := key
  refine runF_rt (e := e) ?_
  have hk : rngOk k = true := rngOk_is (by omega) (by omega)
  simp [b_law_ten, hk, rangeD_0, h1]
  rw [h2]
  simp
  rw [rg_length]
  by_cases hn : 0 ≤ k
  · congr 1; omega
  · rw [tp_neg (show k ≤ 0 by omega), tp_neg (by omega)]
theorem sz_step {n : Int} (h : 10 ≤ n) : sz n = sz (n / 10) + 1 := by
  unfold sz
  rw [dl_step (by omega)]
  have : n.toNat / 10 = (n / 10).toNat := by omega
  rw [this]
  omega
theorem sz_lt {n : Int} (h : n < 10) : sz n = 1 := by
  unfold sz
  rw [dl_lt (by omega)]
  rfl
theorem s_lsize {n : Int} (h : 1 ≤ n) (h' : sz n ≤ 1900) : f_law_size [.int n] = .ok (.int (sz n)) := by
  unfold f_law_size
  have key := whF_inv (c := (CT.of (CE.gt (CE.var 2) (CE.int 0))).ev) (b := (CS.par 1 2 (CE.add (CE.var 1) (CE.int 1)) (CE.div (CE.var 2) (CE.int 10))).ev)
    (fun m e => ∃ f l : Int, 0 ≤ l ∧ e = [some (.im (.int n)), some (.im (.int f)), some (.im (.int l))] ∧ ((1 ≤ l ∧ f + sz l = sz n ∧ (m : Int) = sz l) ∨ (l = 0 ∧ f = sz n ∧ m = 0)))
    (fun e => ∃ l : Int, e = [some (.im (.int n)), some (.im (.int (sz n))), some (.im (.int l))]) (by
      rintro m e ⟨f, l, hl, rfl, ⟨h1, h2, h3⟩ | ⟨h1, h2, h3⟩⟩
      · right
        have hd : fDiv (.int l) (.int 10) = some (.int (l / 10)) := fDiv_i (by decide) (sm_of (by decide))
        have hs := sz_pos l
        refine ⟨[some (.im (.int n)), some (.im (.int f)), some (.im (.int l))], [some (.im (.int n)), some (.im (.int (f + 1))), some (.im (.int (l / 10)))], m - 1, by simp; omega, ?_, by omega, f + 1, l / 10, by omega, rfl, ?_⟩
        · simp [hd]
        · by_cases q : 10 ≤ l
          · left
            have := sz_step q
            refine ⟨by omega, by omega, by omega⟩
          · right
            have := sz_lt (show l < 10 by omega)
            refine ⟨by omega, by omega, by omega⟩
      · left
        subst h1 h2 h3
        exact ⟨[some (.im (.int n)), some (.im (.int (sz n))), some (.im (.int 0))], by simp, 0, rfl⟩) 2000 (sz n).toNat [some (.im (.int n)), some (.im (.int 0)), some (.im (.int n))] ⟨0, n, by omega, rfl, .inl ⟨h, by omega, by have := sz_pos n; omega⟩⟩ (by omega)
  obtain ⟨e, h1, l, rfl⟩ := key
  refine runF_rt (e := [some (.im (.int n)), some (.im (.int (sz n))), some (.im (.int l))]) ?_
  simp [b_law_size]
  rw [h1]
  simp
theorem sm_sz {n : Int} {k : Int} (hk : k ≤ 1100) (h0 : 0 ≤ n) (h : sz n ≤ k) : sm n = true := by
  have := sz_hi h0
  exact sm_tp hk (by have := tp_pos k; omega) (by have := tp_mono h; omega)
theorem s_lfirst {n k : Int} (h : 1 ≤ n) (h' : sz n ≤ 900) (hk : 0 ≤ k) : f_law_first [.int n, .int k] = .ok (.int (fst n k)) := by
  unfold f_law_first
  refine runF_rt (e := [some (.im (.int n)), some (.im (.int k)), some (.im (.int (sz n)))]) ?_
  by_cases q : sz n > k
  · have h1 := s_lten (k := sz n - k) (by omega) (by omega)
    have h2 : fDiv (.int n) (.int (tp (sz n - k))) = some (.int (n / tp (sz n - k))) := fDiv_i (tp_pos _) (sm_tp (k := sz n - k) (by omega) (by have := tp_pos (sz n - k); omega) (by omega))
    have h3 : fst n k = n / tp (sz n - k) := by unfold fst; rw [if_pos q]
    simp [b_law_first, s_lsize h (by omega), q, h1, h2, h3]
  · have h3 : fst n k = n := by unfold fst; rw [if_neg q]
    simp [b_law_first, s_lsize h (by omega), q, h3]
theorem s_lbegins {n b : Int} (h : 1 ≤ n) (h' : sz n ≤ 900) (hb : 1 ≤ b) (hb' : sz b ≤ 900) : f_law_begins [.int n, .int b] = .ok (.bool (beg n b)) := by
  unfold f_law_begins
  refine runF_rt (e := [some (.im (.int n)), some (.im (.int b)), some (.im (.int (sz b)))]) ?_
  have p := sz_pos b
  by_cases q : sz b ≤ sz n
  · simp [b_law_begins, s_lsize h (by omega), s_lsize hb (by omega), q, s_lfirst h h' (show 0 ≤ sz b by omega), beg]
  · simp [b_law_begins, s_lsize h (by omega), s_lsize hb (by omega), q, beg]
theorem s_ltrue {a b : Bool} : f_law_true [.bool a, .bool b] = .ok (.bool (decide (a = b))) := by
  unfold f_law_true
  refine runF_rt (e := args [.bool a, .bool b] 2) ?_
  simp [b_law_true]

/-! ### draws -/
theorem runM_rt {b : CS} {n : Nat} {o o' : OD} {ds : List D} {d : D} {e : Env} (h : b.ev (some (Sl.ow o) :: args ds (n - 1)) = .rt d e) (h' : Env.ow e 0 = some o') : runM b n o ds = .ok d o' := by unfold runM; rw [h]; dsimp only; rw [h']
theorem s_draw {s : DrawSt} {lim : Int} (h : goodD s) (h0 : 0 < lim) (h1 : sm lim = true) : f_law_draw (.draws s) [.int lim] = .ok (.int (dr s lim).1) (.draws (dr s lim).2) := by
  unfold f_law_draw
  have hk : drOk s lim = true := drOk_of h h0 (of_lk h1)
  refine runM_rt (e := [some (.ow (.draws (dr s lim).2)), some (.im (.int lim)), none, none, none, none]) ?_ rfl
  show (if drOk s lim = true then _ else _) = _
  rw [if_pos hk]
/-- what a draw answers, as a fact -/
theorem g_draw {s : DrawSt} {lim : Int} (h : goodD s) (h0 : 0 < lim) (h1 : sm lim = true) : ∃ (v : Int) (s' : DrawSt), f_law_draw (.draws s) [.int lim] = .ok (.int v) (.draws s') ∧ 0 ≤ v ∧ v < lim ∧ goodD s' :=
  ⟨_, _, s_draw h h0 h1, (dr_range h0).1, (dr_range h0).2, dr_good h⟩
theorem fIx_ints {xs : List Int} {v : Int} (h0 : 0 ≤ v) (h1 : v < xs.length) : ∃ x, x ∈ xs ∧ fIx (.list (xs.map .int)) (.int v) = some (.int x) ∧ xs[v.toNat]? = some x := by
  obtain ⟨k, rfl⟩ := Int.eq_ofNat_of_zero_le h0
  have hk : k < xs.length := by omega
  refine ⟨xs[k], List.getElem_mem hk, ?_, by simp [hk]⟩
  show atI (xs.map PyData.int) (k : Int) = _
  unfold atI ixN
  rw [if_pos (by omega), List.length_map, if_pos (by omega)]
  simp [hk]
theorem fIx_list {xs : List D} {v : Int} (h0 : 0 ≤ v) (h1 : v < xs.length) : ∃ x, x ∈ xs ∧ fIx (.list xs) (.int v) = some x ∧ xs[v.toNat]? = some x := by
  obtain ⟨k, rfl⟩ := Int.eq_ofNat_of_zero_le h0
  have hk : k < xs.length := by omega
  refine ⟨xs[k], List.getElem_mem hk, ?_, by simp [hk]⟩
  show atI xs (k : Int) = _
  unfold atI ixN
  rw [if_pos (by omega), if_pos (by omega)]
  simp [hk]
theorem g_pick {s : DrawSt} {xs : List D} (h : goodD s) (hx : xs ≠ []) (hl : xs.length ≤ 100000) : ∃ (v : D) (s' : DrawSt), f_law_pick (.draws s) [.list xs] = .ok v (.draws s') ∧ v ∈ xs ∧ goodD s' := by
  have hp : 0 < xs.length := List.length_pos_iff.mpr hx
  obtain ⟨i, s', h1, h2, h3, h4⟩ := g_draw (lim := xs.length) h (by omega) (sm_of (by
    have := tp_big (k := 6) (by decide)
    have e : tp 6 = 1000000 := rfl
    rw [e] at this
    omega))
  obtain ⟨x, m1, m2, _⟩ := fIx_list (xs := xs) h2 (by omega)
  refine ⟨x, s', ?_, m1, h4⟩
  unfold f_law_pick
  refine runM_rt (e := [some (.ow (.draws s')), some (.im (.list xs))]) ?_ rfl
  simp [b_law_pick, fLen, h1, m2]
theorem g_beginning {s : DrawSt} (h : goodD s) : ∃ (v : Int) (s' : DrawSt), f_law_beginning (.draws s) [] = .ok (.int v) (.draws s') ∧ isB v ∧ goodD s' := by
  obtain ⟨v1, s1, a1, b1, c1, g1⟩ := g_draw (lim := 9) h (by decide) (sm_of (by decide))
  obtain ⟨v2, s2, a2, b2, c2, g2⟩ := g_draw (lim := 99) g1 (by decide) (sm_of (by decide))
  obtain ⟨v3, s3, a3, b3, c3, g3⟩ := g_draw (lim := 999) g2 (by decide) (sm_of (by decide))
  obtain ⟨v4, s4, a4, b4, c4, g4⟩ := g_draw (lim := 9999) g3 (by decide) (sm_of (by decide))
  obtain ⟨v, s', a5, b5, g5⟩ := g_pick (xs := [.int (1 + v1), .int (1 + v2), .int (1 + v3), .int (1 + v4)]) g4 (by simp) (by simp)
  have : ∃ i, v = .int i ∧ isB i := by
    unfold isB
    simp at b5
    rcases b5 with rfl | rfl | rfl | rfl
    · exact ⟨_, rfl, by omega, by omega⟩
    · exact ⟨_, rfl, by omega, by omega⟩
    · exact ⟨_, rfl, by omega, by omega⟩
    · exact ⟨_, rfl, by omega, by omega⟩
  obtain ⟨i, rfl, hi⟩ := this
  refine ⟨i, s', ?_, hi, g5⟩
  unfold f_law_beginning
  refine runM_rt (e := [some (.ow (.draws s'))]) ?_ rfl
  simp [b_law_beginning, args, a1, a2, a3, a4, a5, lineOk]
theorem g_number {s : DrawSt} (h : goodD s) : ∃ (v : Int) (s' : DrawSt), f_law_number (.draws s) [] = .ok (.int v) (.draws s') ∧ isN v ∧ goodD s' := by
  have t1 := s_lten (k := 20) (by decide) (by decide)
  have t2 := s_lten (k := 60) (by decide) (by decide)
  obtain ⟨v, s', a5, b5, g5⟩ := g_pick (xs := [.int 9, .int 99, .int 2000, .int 1000000, .int (tp 20), .int (tp 60 - 1)]) h (by simp) (by simp)
  have : ∃ i, v = .int i ∧ 0 < i ∧ i < tp 60 := by
    simp at b5
    rcases b5 with rfl | rfl | rfl | rfl | rfl | rfl
    all_goals exact ⟨_, rfl, by decide, by decide⟩
  obtain ⟨i, rfl, hi, hi'⟩ := this
  obtain ⟨w, s2, a6, b6, c6, g6⟩ := g_draw (lim := i) g5 hi (sm_tp (k := 60) (by decide) (by have := tp_pos 60; omega) (by omega))
  refine ⟨1 + w, s2, ?_, ⟨by omega, by omega⟩, g6⟩
  unfold f_law_number
  refine runM_rt (e := [some (.ow (.draws s2))]) ?_ rfl
  simp [b_law_number, args, t1, t2, a5, a6, lineOk]
end FD
set_option Elab.async false
set_option linter.all false
set_option maxRecDepth 100000
set_option maxHeartbeats 4000000
noncomputable section
namespace FD
open PySem L2 TL
theorem beg_T {v b : Int} (h : isT v) (hv : 1 ≤ v) (hb : isB b) : f_begins_of [.int v, .int b] = .ok (.bool (beg v b)) := s_begins_of h hv (isT_B hb) hb.1
theorem s_digit_count {v : Int} (h : isN v) : f_digit_count [.int v] = .ok (.int (sz v)) := by
  unfold f_digit_count
  refine runF_rt (e := args [.int v] 1) ?_
  simp [b_digit_count, s_check_number h, s_size_of (isT_N h)]
theorem s_first_digits {v k : Int} (h : isN v) (hk : 1 ≤ k) (hk' : k ≤ 4) : f_first_digits [.int v, .int k] = .ok (.int (fst v k)) := by
  unfold f_first_digits
  refine runF_rt (e := args [.int v, .int k] 2) ?_
  simp [b_first_digits, s_check_number h, s_check_count hk hk', s_first_of (isT_N h) hk]
theorem s_begins {v b : Int} (h : isN v) (hb : isB b) : f_begins [.int v, .int b] = .ok (.bool (beg v b)) := by
  unfold f_begins
  refine runF_rt (e := args [.int v, .int b] 2) ?_
  simp [b_begins, s_check_number h, s_check_beginning hb, beg_T (isT_N h) h.1 hb]
theorem s_is_within {v b : Int} (h : isB v) (hb : isB b) : f_is_within [.int v, .int b] = .ok (.bool (beg v b)) := by
  unfold f_is_within
  refine runF_rt (e := args [.int v, .int b] 2) ?_
  simp [b_is_within, s_check_beginning h, s_check_beginning hb, beg_T (isT_B h) h.1 hb]
theorem s_are_apart {v b : Int} (h : isB v) (hb : isB b) : f_are_apart [.int v, .int b] = .ok (.bool (!beg v b && !beg b v)) := by
  unfold f_are_apart
  refine runF_rt (e := args [.int v, .int b] 2) ?_
  cases q : beg v b <;> simp [b_are_apart, s_check_beginning h, s_check_beginning hb, beg_T (isT_B h) h.1 hb, beg_T (isT_B hb) hb.1 h, q]
theorem sz_B {b : Int} (h : isB b) : sz b ≤ 4 := sz_le (by decide) (by have := h.1; omega) (Int.lt_of_le_of_lt h.2 (by decide))
theorem sz_N {b : Int} (h : isN b) : sz b ≤ 60 := sz_le (by decide) (by have := h.1; omega) h.2
/-- the longer beginnings -/
def longerL (b k : Int) : List Int := if k < sz b then [] else rg (b * tp (k - sz b)) ((b + 1) * tp (k - sz b))
theorem tp_le4 {k : Int} (h : k ≤ 4) : tp k ≤ 10000 := tp_mono (b := 4) h
theorem s_longer {b k : Int} (hb : isB b) (hk : 1 ≤ k) (hk' : k ≤ 4) : f_longer [.int b, .int k] = .ok (.list ((longerL b k).map .int)) := by
  unfold f_longer
  refine runF_rt (e := [some (.im (.int b)), some (.im (.int k)), some (.im (.int (k - sz b)))]) ?_
  have p := sz_pos b
  by_cases q : k < sz b
  · have e : longerL b k = [] := by unfold longerL; rw [if_pos q]
    have q' : k - sz b < 0 := by omega
    simp [b_longer, s_check_beginning hb, s_check_count hk hk', s_size_of (isT_B hb), q', e, lineOk]
  · have e : longerL b k = rg (b * tp (k - sz b)) ((b + 1) * tp (k - sz b)) := by unfold longerL; rw [if_neg q]
    have q' : ¬ k - sz b < 0 := by omega
    have t1 := s_ten (k := k - sz b) (by omega) (by omega)
    have hp := tp_pos (k - sz b)
    have hl := tp_le4 (k := k - sz b) (by omega)
    have m1 : sm b = true := sm_tp (k := 4) (by decide) (by have := hb.1; have := tp_pos 4; omega) (by have := hb.2; exact Int.le_trans this (by decide))
    have m2 : sm (b + 1) = true := sm_tp (k := 4) (by decide) (by have := hb.1; have := tp_pos 4; omega) (by have := hb.2; exact Int.le_trans (show b + 1 ≤ 10000 by omega) (by decide))
    have m3 : sm (tp (k - sz b)) = true := sm_of (tp_big (by omega))
    have b1 : 0 ≤ b * tp (k - sz b) := Int.mul_nonneg (by have := hb.1; omega) (by omega)
    have b2 : b * tp (k - sz b) ≤ 9999 * 10000 := Int.mul_le_mul hb.2 hl (by omega) (by decide)
    have b3 : (b + 1) * tp (k - sz b) = b * tp (k - sz b) + tp (k - sz b) := by rw [Int.add_mul, Int.one_mul]
    have ok : rngListOk (b * tp (k - sz b)) ((b + 1) * tp (k - sz b)) = true := by
      unfold rngListOk
      rw [rngOk_is (by omega) (by omega), rngOk_is (by omega) (by omega)]
      simp only [Bool.true_and, lk_eq, decide_eq_true_eq]
      omega
    simp [b_longer, s_check_beginning hb, s_check_count hk hk', s_size_of (isT_B hb), q', e, lineOk, t1, fMul_i m1 m3, fMul_i m2 m3, ok, rangeD_rg]
theorem longerL_mem {b k z : Int} (hb : isB b) (hk : 1 ≤ k) (hk' : k ≤ 4) : z ∈ longerL b k ↔ (sz z = k ∧ 1 ≤ z ∧ beg z b = true) := by
  have p := sz_pos b
  have hb1 := hb.1
  unfold longerL
  split
  · rename_i q
    simp only [List.not_mem_nil, false_iff]
    rintro ⟨h1, h2, h3⟩
    unfold beg at h3
    simp at h3
    omega
  · rename_i q
    rw [mem_rg]
    have hs := sz_shift (n := b) (j := k - sz b) hb1 (by omega)
    have hp := tp_pos (k - sz b)
    constructor
    · rintro ⟨h1, h2⟩
      have hz : 1 ≤ z := by
        have : 1 * 1 ≤ b * tp (k - sz b) := Int.mul_le_mul hb1 hp (by decide) (by omega)
        omega
      refine ⟨sz_unique hk ?_ ?_, hz, (beg_iff hb1 hz).mpr ⟨k - sz b, by omega, h1, h2⟩⟩
      · refine Int.le_trans ?_ h1
        rw [show k - 1 = (sz b - 1) + (k - sz b) by omega, tp_add (by omega) (by omega)]
        exact Int.mul_le_mul_of_nonneg_right (sz_lo hb1) (Int.le_of_lt hp)
      · refine Int.lt_of_lt_of_le h2 ?_
        rw [show k = sz b + (k - sz b) by omega, tp_add (by omega) (by omega), show sz b + (k - sz b) - sz b = k - sz b by omega]
        exact Int.mul_le_mul_of_nonneg_right (by have := sz_hi (show 0 ≤ b by omega); omega) (Int.le_of_lt hp)
    · rintro ⟨h1, h2, h3⟩
      obtain ⟨j, hj, a, c⟩ := (beg_iff hb1 h2).mp h3
      have : sz z = sz b + j := by
        refine sz_unique (by omega) ?_ ?_
        · rw [show sz b + j - 1 = (sz b - 1) + j by omega, tp_add (by omega) hj]
          exact Int.le_trans (Int.mul_le_mul_of_nonneg_right (sz_lo hb1) (Int.le_of_lt (tp_pos j))) a
        · rw [tp_add (by omega) hj]
          exact Int.lt_of_lt_of_le c (Int.mul_le_mul_of_nonneg_right (by have := sz_hi (show 0 ≤ b by omega); omega) (Int.le_of_lt (tp_pos j)))
      have e : j = k - sz b := by omega
      subst e
      exact ⟨a, c⟩
theorem longerL_rise {b k : Int} : (longerL b k).Pairwise (· < ·) := by
  unfold longerL
  split
  · exact List.Pairwise.nil
  · exact rg_sorted _ _
theorem longerL_B {b k z : Int} (hb : isB b) (hk : 1 ≤ k) (hk' : k ≤ 4) (h : z ∈ longerL b k) : isB z := by
  obtain ⟨h1, h2, h3⟩ := (longerL_mem hb hk hk').mp h
  refine ⟨h2, ?_⟩
  have := sz_hi (show 0 ≤ z by omega)
  rw [h1] at this
  have := tp_le4 hk'
  omega
theorem longerL_len {b k : Int} (h : sz b ≤ k) : ((longerL b k).length : Int) = tp (k - sz b) := by
  unfold longerL
  rw [if_neg (by omega), rg_length, Int.add_mul, Int.one_mul]
  have := tp_pos (k - sz b)
  omega
end FD
set_option Elab.async false
set_option linter.all false
set_option maxRecDepth 100000
set_option maxHeartbeats 4000000
noncomputable section
namespace FD
open PySem L2 TL
/-! ### what a run is to be -/
def IsRt (d : D) (x : F) : Prop := ∃ e, x = .rt d e
def IsNx (P : Env → Prop) (x : F) : Prop := ∃ e, x = .nx e ∧ P e
def IsErr (k : Nat) (x : F) : Prop := ∃ e, x = .err k e
@[simp] theorem isRt_rt {d d' : D} {e : Env} : IsRt d (.rt d' e) ↔ d' = d := by
  unfold IsRt
  constructor
  · rintro ⟨e, h⟩; cases h; rfl
  · rintro rfl; exact ⟨_, rfl⟩
@[simp] theorem isNx_nx {P : Env → Prop} {e : Env} : IsNx P (.nx e) ↔ P e := by
  unfold IsNx
  constructor
  · rintro ⟨e, h, q⟩; cases h; exact q
  · intro h; exact ⟨_, rfl, h⟩
@[simp] theorem isErr_err {k : Nat} {k' : Nat} {e : Env} : IsErr k (.err k' e) ↔ k' = k := by
  unfold IsErr
  constructor
  · rintro ⟨e, h⟩; cases h; rfl
  · rintro rfl; exact ⟨_, rfl⟩
theorem runF_of {b : CS} {n : Nat} {ds : List D} {d : D} (h : IsRt d (b.ev (args ds n))) : runF b n ds = .ok d := by
  obtain ⟨e, h⟩ := h
  exact runF_rt h
theorem runF_errOf {b : CS} {n : Nat} {ds : List D} {k : Nat} (h : IsErr k (b.ev (args ds n))) : runF b n ds = .err k := by
  obtain ⟨e, h⟩ := h
  exact runF_err h
theorem forF_th {α : Type} {Q : F → Prop} {f : α → D} {g : D → Env → Option Env} {b : Env → F} {xs : List α} {env : Env} {k : Env → F} (P : Nat → Env → Prop) (h0 : P 0 env)
    (st : ∀ i x, xs[i]? = some x → ∀ e, P i e → ∃ e1, g (f x) e = some e1 ∧ IsNx (P (i + 1)) (b e1)) (hk : ∀ e, P xs.length e → Q (k e)) : Q ((forF g b (xs.map f) env).bind k) := by
  obtain ⟨e, h1, h2⟩ := forF_inv P xs 0 env h0 fun i x hx e he => by
    obtain ⟨e1, a, e2, c, d⟩ := st i x hx e (by simpa using he)
    exact ⟨e1, a, e2, c, by simpa using d⟩
  rw [h1]
  exact hk e (by simpa using h2)
theorem whF_th {Q : F → Prop} {c : Env → R Bool} {b : Env → F} {n : Nat} {env : Env} {k : Env → F} (P : Nat → Env → Prop) (m : Nat) (h0 : P m env) (hm : m < n)
    (st : ∀ m e, P m e → (c e = .ok false e ∧ Q (k e)) ∨ (c e = .ok true e ∧ IsNx (fun e2 => ∃ m', m' < m ∧ P m' e2) (b e))) : Q ((whF c b n env).bind k) := by
  obtain ⟨e, h1, h2⟩ := whF_inv P (fun e => Q (k e)) (fun m e he => by
    rcases st m e he with ⟨h1, h2⟩ | ⟨h1, e2, h2, m', h3, h4⟩
    · exact .inl ⟨e, h1, h2⟩
    · exact .inr ⟨e, e2, m', h1, h2, h3, h4⟩) n m env h0 hm
  rw [h1]
  exact h2
@[simp] theorem cgn_own {i : Nat} : (CGc.name i).own = [i] := Eq.trans rfl rfl
@[simp] theorem cgn_ev {i : Nat} {d : D} {env : Env} : (CGc.name i).g.ev d env = if canSet env i = true then some (env.set i (some (.im d))) else none := Eq.trans rfl rfl
@[simp] theorem cgt_own {is : List Nat} : (CGc.tup is).own = is := Eq.trans rfl rfl
@[simp] theorem cgt_ev {is : List Nat} {d : D} {env : Env} : (CGc.tup is).g.ev d env = match d with
    | .tuple ds => evNames is ds env
    | _ => none := Eq.trans rfl rfl
@[simp] theorem evn_nil {env : Env} : evNames [] [] env = some env := Eq.trans rfl rfl
@[simp] theorem evn_cons {i : Nat} {r : List Nat} {d : D} {ds : List D} {env : Env} : evNames (i :: r) (d :: ds) env = if canSet env i = true then evNames r ds (env.set i (some (.im d))) else none := Eq.trans rfl rfl
theorem fEq_l0 {n : Bool} {xs : List Int} : fEq n (.list (xs.map .int)) (.list []) = some (.bool (if n then !decide (xs = []) else decide (xs = []))) := fEq_ll (ys := [])
theorem fEq_0l {n : Bool} {xs : List Int} : fEq n (.list []) (.list (xs.map .int)) = some (.bool (if n then !decide ([] = xs) else decide ([] = xs))) := fEq_ll (xs := [])
@[simp] theorem fEq_00 {n : Bool} : fEq n (.list []) (.list []) = some (.bool (if n then false else true)) := fEq_ll (xs := []) (ys := [])
end FD
set_option Elab.async false
set_option linter.all false
set_option maxRecDepth 100000
set_option maxHeartbeats 4000000
noncomputable section
namespace FD
open PySem L2 TL

/-! ### stretches -/
theorem sm_B {b : Int} (h : isB b) : sm b = true ∧ sm (b + 1) = true := by
  have e : tp 4 = 10000 := rfl
  have := h.1
  have := h.2
  exact ⟨sm_tp (k := 4) (by decide) (by rw [e]; omega) (by rw [e]; omega), sm_tp (k := 4) (by decide) (by rw [e]; omega) (by rw [e]; omega)⟩
theorem sm_tpk {k : Int} (h : k ≤ 1100) : sm (tp k) = true := sm_of (tp_big h)
/-- first and last of so many digits -/
def sA (b c : Int) : Int := b * tp (c - sz b)
def sE (b c : Int) : Int := (b + 1) * tp (c - sz b) - 1
theorem s_stretch_of {b c : Int} (hb : isB b) (h0 : -900 ≤ c) (h : c ≤ 900) : f_stretch_of [.int b, .int c] = .ok (.tuple [.int (sA b c), .int (sE b c)]) := by
  refine runF_of ?_
  have p := sz_pos b
  have q := sz_B hb
  have t := s_ten (k := c - sz b) (by omega) (by omega)
  obtain ⟨m1, m2⟩ := sm_B hb
  have m3 := sm_tpk (k := c - sz b) (by omega)
  simp [b_stretch_of, s_size_of (isT_B hb), t, fMul_i m1 m3, fMul_i m2 m3, lineOk, sA, sE]
theorem sE_A (b c : Int) : sE b c = sA b c + tp (c - sz b) - 1 := by unfold sE sA; rw [Int.add_mul, Int.one_mul]
theorem inS_iff {b c z : Int} (hb : 1 ≤ b) (hc : sz b ≤ c) : (sA b c ≤ z ∧ z ≤ sE b c) ↔ (1 ≤ z ∧ sz z = c ∧ beg z b = true) := by
  have p := sz_pos b
  unfold sA sE
  have hp := tp_pos (c - sz b)
  constructor
  · rintro ⟨h1, h2⟩
    have hz : 1 ≤ z := by
      have : 1 * 1 ≤ b * tp (c - sz b) := Int.mul_le_mul hb hp (by decide) (by omega)
      omega
    refine ⟨hz, sz_unique (by omega) ?_ ?_, (beg_iff hb hz).mpr ⟨c - sz b, by omega, h1, by omega⟩⟩
    · refine Int.le_trans ?_ h1
      rw [show c - 1 = (sz b - 1) + (c - sz b) by omega, tp_add (by omega) (by omega)]
      exact Int.mul_le_mul_of_nonneg_right (sz_lo hb) (Int.le_of_lt hp)
    · have h2 : z < (b + 1) * tp (c - sz b) := by omega
      refine Int.lt_of_lt_of_le h2 ?_
      rw [show c = sz b + (c - sz b) by omega, tp_add (by omega) (by omega), show sz b + (c - sz b) - sz b = c - sz b by omega]
      exact Int.mul_le_mul_of_nonneg_right (by have := sz_hi (show 0 ≤ b by omega); omega) (Int.le_of_lt hp)
  · rintro ⟨h2, h1, h3⟩
    obtain ⟨j, hj, a, d⟩ := (beg_iff hb h2).mp h3
    have : sz z = sz b + j := by
      refine sz_unique (by omega) ?_ ?_
      · rw [show sz b + j - 1 = (sz b - 1) + j by omega, tp_add (by omega) hj]
        exact Int.le_trans (Int.mul_le_mul_of_nonneg_right (sz_lo hb) (Int.le_of_lt (tp_pos j))) a
      · rw [tp_add (by omega) hj]
        exact Int.lt_of_lt_of_le d (Int.mul_le_mul_of_nonneg_right (by have := sz_hi (show 0 ≤ b by omega); omega) (Int.le_of_lt (tp_pos j)))
    have e : j = c - sz b := by omega
    subst e
    exact ⟨a, by omega⟩
theorem beg_sz {b z : Int} (h : beg z b = true) : sz b ≤ sz z := by
  unfold beg at h
  rw [Bool.and_eq_true] at h
  exact of_decide_eq_true h.1
theorem sA_next {b c : Int} (hc : sz b ≤ c) : sA b (c + 1) = sA b c * 10 := by
  unfold sA
  rw [show c + 1 - sz b = c - sz b + 1 by omega, tp_succ (by omega), Int.mul_assoc]
theorem sE_next {b c : Int} (hb : 1 ≤ b) (hc : sz b ≤ c) : sE b c < sA b (c + 1) := by
  rw [sE_A, sA_next hc]
  have : 1 * tp (c - sz b) ≤ b * tp (c - sz b) := Int.mul_le_mul_of_nonneg_right hb (Int.le_of_lt (tp_pos _))
  unfold sA
  have := tp_pos (c - sz b)
  omega
theorem sA_le {b c : Int} : sA b c ≤ sE b c := by
  rw [sE_A]
  have := tp_pos (c - sz b)
  omega
theorem sA_first {b : Int} : sA b (sz b) = b := by unfold sA; rw [Int.sub_self, tp_zero, Int.mul_one]
theorem sA_pos {b c : Int} (hb : 1 ≤ b) : 1 ≤ sA b c := by
  unfold sA
  have : 1 * 1 ≤ b * tp (c - sz b) := Int.mul_le_mul hb (tp_pos _) (by decide) (by omega)
  omega
theorem sE_lt {b c : Int} (hb : 1 ≤ b) (hc : sz b ≤ c) : sE b c < tp c := by
  have h := (inS_iff (z := sE b c) hb hc).mp ⟨sA_le, Int.le_refl _⟩
  have := sz_hi (show 0 ≤ sE b c by omega)
  rw [h.2.1] at this
  exact this

/-! ### how many so far -/
theorem rg_split {a b c : Int} (h1 : a ≤ b) (h2 : b ≤ c) : rg a c = rg a b ++ rg b c := by
  refine rise_ext (rg_sorted _ _) ?_ fun z => ?_
  · rw [List.pairwise_append]
    exact ⟨rg_sorted _ _, rg_sorted _ _, fun x hx y hy => by have := mem_rg.mp hx; have := mem_rg.mp hy; omega⟩
  · rw [List.mem_append, mem_rg, mem_rg, mem_rg]
    omega
/-- how many from a to below c are so -/
def cnt (p : Int → Bool) (a c : Int) : Int := (((rg a c).filter p).length : Nat)
theorem cnt_split {p : Int → Bool} {a b c : Int} (h1 : a ≤ b) (h2 : b ≤ c) : cnt p a c = cnt p a b + cnt p b c := by
  unfold cnt
  rw [rg_split h1 h2, List.filter_append, List.length_append]
  omega
theorem cnt_all {p : Int → Bool} {a c : Int} (h : a ≤ c) (hp : ∀ z, a ≤ z → z < c → p z = true) : cnt p a c = c - a := by
  unfold cnt
  rw [List.filter_eq_self.mpr (fun z hz => hp z (mem_rg.mp hz).1 (mem_rg.mp hz).2), rg_length]
  omega
theorem cnt_no {p : Int → Bool} {a c : Int} (hp : ∀ z, a ≤ z → z < c → p z = false) : cnt p a c = 0 := by
  unfold cnt
  rw [List.filter_eq_nil_iff.mpr (fun z hz => by rw [hp z (mem_rg.mp hz).1 (mem_rg.mp hz).2]; decide)]
  rfl
theorem cnt_nonneg {p : Int → Bool} {a c : Int} : 0 ≤ cnt p a c := by unfold cnt; omega
theorem cnt_congr {p q : Int → Bool} {a c : Int} (h : ∀ z, a ≤ z → z < c → p z = q z) : cnt p a c = cnt q a c := by
  unfold cnt
  rw [List.filter_congr fun z hz => h z (mem_rg.mp hz).1 (mem_rg.mp hz).2]
theorem cnt_nil {p : Int → Bool} {a c : Int} (h : c ≤ a) : cnt p a c = 0 := cnt_no fun z _ _ => by omega
/-- numbers from 1 to n that begin so -/
def C (b n : Int) : Int := cnt (fun z => beg z b) 1 (n + 1)
theorem C_add {b n m : Int} (h0 : 0 ≤ n) (h : n ≤ m) : C b m = C b n + cnt (fun z => beg z b) (n + 1) (m + 1) := cnt_split (by omega) (by omega)
theorem C_mono {b n m : Int} (h0 : 0 ≤ n) (h : n ≤ m) : C b n ≤ C b m := by rw [C_add h0 h]; have := cnt_nonneg (p := fun z => beg z b) (a := n + 1) (c := m + 1); omega
theorem C_in {b c m : Int} (hb : 1 ≤ b) (hc : sz b ≤ c) (h1 : sA b c ≤ m) (h2 : m ≤ sE b c) : C b m = C b (sA b c - 1) + (m - sA b c + 1) := by
  have := sA_pos (b := b) (c := c) hb
  rw [C_add (n := sA b c - 1) (by omega) (by omega), cnt_all (by omega) fun z a e => ((inS_iff hb hc).mp ⟨by omega, by omega⟩).2.2]
  omega
theorem gap {b c z : Int} (hb : 1 ≤ b) (hc : sz b ≤ c) (h1 : sE b c < z) (h2 : z < sA b (c + 1)) : beg z b = false := by
  cases q : beg z b with
  | false => rfl
  | true =>
    have hz : 1 ≤ z := by have := sA_pos (b := b) (c := c) hb; have := sA_le (b := b) (c := c); omega
    have hs := beg_sz q
    obtain ⟨a, e⟩ := (inS_iff hb hs).mpr ⟨hz, rfl, q⟩
    exfalso
    rcases Int.lt_or_le c (sz z) with k | k
    · have : sA b (c + 1) ≤ sA b (sz z) := by
        unfold sA
        exact Int.mul_le_mul_of_nonneg_left (tp_mono (by omega)) (by omega)
      omega
    · have : sE b (sz z) ≤ sE b c := by
        unfold sE
        have : (b + 1) * tp (sz z - sz b) ≤ (b + 1) * tp (c - sz b) := Int.mul_le_mul_of_nonneg_left (tp_mono (by omega)) (by omega)
        omega
      omega
theorem C_gap {b c m : Int} (hb : 1 ≤ b) (hc : sz b ≤ c) (h1 : sE b c ≤ m) (h2 : m < sA b (c + 1)) : C b m = C b (sE b c) := by
  have := sA_pos (b := b) (c := c) hb
  have := sA_le (b := b) (c := c)
  rw [C_add (n := sE b c) (by omega) h1, cnt_no fun z a e => gap hb hc (by omega) (by omega)]
  omega
theorem beg_ge {b z : Int} (hb : 1 ≤ b) (hz : 1 ≤ z) (h : beg z b = true) : b ≤ z := by
  obtain ⟨j, hj, a, _⟩ := (beg_iff hb hz).mp h
  have : b * 1 ≤ b * tp j := Int.mul_le_mul_of_nonneg_left (tp_pos j) (by omega)
  omega
theorem C_low {b m : Int} (hb : 1 ≤ b) (h : m < b) : C b m = 0 := cnt_no fun z a e => by
  cases q : beg z b with
  | false => rfl
  | true => have := beg_ge hb a q; omega
theorem C_sA0 {b : Int} (hb : 1 ≤ b) : C b (sA b (sz b) - 1) = 0 := by rw [sA_first]; exact C_low hb (by omega)
theorem C_sA {b c : Int} (hb : 1 ≤ b) (hc : sz b ≤ c) : C b (sA b (c + 1) - 1) = C b (sA b c - 1) + tp (c - sz b) := by
  have := sE_next hb hc
  rw [C_gap hb hc (by omega) (by omega), C_in hb hc sA_le (Int.le_refl _), sE_A]
  omega
theorem s_up_to_of {b n : Int} (hb : isB b) (hn : 1 ≤ n) (hs : sz n ≤ 630) : f_up_to_of [.int b, .int n] = .ok (.int (C b n)) := by
  refine runF_of ?_
  have hb1 := hb.1
  have p := sz_pos b
  have pn := sz_pos n
  have q := sz_B hb
  have hT : isT n := ⟨by omega, Int.lt_of_lt_of_le (sz_hi (by omega)) (tp_mono hs)⟩
  have r1 : rngOk (sz b) = true := rngOk_is (by omega) (by omega)
  have r2 : rngOk (sz n + 1) = true := rngOk_is (by omega) (by omega)
  simp [b_up_to_of, s_size_of (isT_B hb), s_size_of hT, r1, r2, rangeD_rg]
  refine forF_th (Q := IsRt _) (fun i e => ∃ o3 o4 o5, e = [some (.im (.int b)), some (.im (.int n)), some (.im (.int (C b (min n (sA b (sz b + i) - 1))))), o3, o4, o5] ∧ canSet e 3 = true ∧ canSet e 4 = true ∧ canSet e 5 = true) ⟨none, none, none, ?_, by simp, by simp, by simp⟩ ?_ ?_
  · have : C b (min n (sA b (sz b + ((0 : Nat) : Int)) - 1)) = 0 := by
      refine C_low hb1 ?_
      rw [show sz b + ((0 : Nat) : Int) = sz b by omega, sA_first]
      omega
    rw [this]
  · rintro i c hc e ⟨o3, o4, o5, rfl, c3, c4, c5⟩
    obtain ⟨rfl, hlt⟩ := rg_get hc
    simp only [cs_s] at c3 c4 c5
    have hS := s_stretch_of (c := sz b + (i : Int)) hb (by omega) (by omega)
    refine ⟨_, by simp only [gname_ev, cs_s, c3, if_true]; rfl, [some (.im (.int b)), some (.im (.int n)), some (.im (.int (C b (min n (sA b (sz b + ((i + 1 : Nat) : Int)) - 1))))), some (.im (.int (sz b + i))), some (.im (.int (sA b (sz b + i)))), some (.im (.int (sE b (sz b + i))))], ?_, _, _, _, rfl, by simp, by simp, by simp⟩
    have hnx := sE_next (c := sz b + (i : Int)) hb1 (by omega)
    have hle := sA_le (b := b) (c := sz b + (i : Int))
    by_cases hn' : sA b (sz b + (i : Int)) ≤ n
    · have e1 : C b (min n (sA b (sz b + ((i + 1 : Nat) : Int)) - 1)) = C b (min n (sA b (sz b + (i : Int)) - 1)) + ((if n < sE b (sz b + (i : Int)) then n else sE b (sz b + (i : Int))) - sA b (sz b + (i : Int)) + 1) := by
        rw [show min n (sA b (sz b + (i : Int)) - 1) = sA b (sz b + (i : Int)) - 1 by omega]
        rw [show sz b + ((i + 1 : Nat) : Int) = sz b + (i : Int) + 1 by omega]
        split
        · rename_i hlt2
          rw [show min n (sA b (sz b + (i : Int) + 1) - 1) = n by omega]
          exact C_in hb1 (by omega) hn' (by omega)
        · rename_i hlt2
          rw [C_gap (c := sz b + (i : Int)) hb1 (by omega) (by omega) (by omega), C_in hb1 (by omega) hle (Int.le_refl _)]
      rw [e1]
      simp [c3, c4, c5, hS, hn', fMin2]
    · have e1 : C b (min n (sA b (sz b + ((i + 1 : Nat) : Int)) - 1)) = C b (min n (sA b (sz b + (i : Int)) - 1)) := by
        rw [show sz b + ((i + 1 : Nat) : Int) = sz b + (i : Int) + 1 by omega]
        congr 1
        omega
      rw [e1]
      simp [c3, c4, c5, hS, hn', fMin2]
  · rintro e ⟨o3, o4, o5, rfl, -⟩
    simp
    rw [rg_length]
    by_cases hq : sz b ≤ sz n + 1
    · have e1 : sz b + (((sz n + 1 - sz b).toNat : Nat) : Int) = sz n + 1 := by omega
      rw [e1]
      have : tp (sz n) ≤ sA b (sz n + 1) := by
        unfold sA
        rw [show tp (sz n) = tp (sz b - 1) * tp (sz n + 1 - sz b) by rw [← tp_add (by omega) (by omega)]; congr 1; omega]
        exact Int.mul_le_mul_of_nonneg_right (sz_lo hb1) (Int.le_of_lt (tp_pos _))
      have := sz_hi (show 0 ≤ n by omega)
      rw [show min n (sA b (sz n + 1) - 1) = n by omega]
    · have hnb : n < b := by
        have h1 := sz_hi (show 0 ≤ n by omega)
        have h2 := sz_lo hb1
        have h3 := tp_mono (show sz n ≤ sz b - 1 by omega)
        omega
      rw [C_low hb1 hnb, C_low hb1 (by omega)]
end FD
set_option Elab.async false
set_option linter.all false
set_option maxRecDepth 100000
set_option maxHeartbeats 4000000
noncomputable section
namespace FD
open PySem L2 TL
def stripS (o : Option Sl) : Option Sl := match o with
  | some (.ow _) => none
  | s => s
@[simp] theorem strip_c {o : Option Sl} {r : Env} : stripE (o :: r) = stripS o :: stripE r := Eq.trans rfl rfl
@[simp] theorem stripS_n : stripS none = none := Eq.trans rfl rfl
@[simp] theorem stripS_i {d : D} : stripS (some (.im d)) = some (.im d) := Eq.trans rfl rfl
@[simp] theorem stripS_o {d : OD} : stripS (some (.ow d)) = none := Eq.trans rfl rfl
def IsRtP (P : D → Prop) (x : F) : Prop := ∃ d e, x = .rt d e ∧ P d
@[simp] theorem isRtP_rt {P : D → Prop} {d : D} {e : Env} : IsRtP P (.rt d e) ↔ P d := by
  unfold IsRtP
  constructor
  · rintro ⟨d', e', h, q⟩; cases h; exact q
  · intro h; exact ⟨_, _, rfl, h⟩
theorem runF_ofP {P : D → Prop} {b : CS} {n : Nat} {ds : List D} (h : IsRtP P (b.ev (args ds n))) : ∃ d, runF b n ds = .ok d ∧ P d := by
  obtain ⟨d, e, h, q⟩ := h
  exact ⟨d, runF_rt h, q⟩

@[simp] theorem fMax2_i {i j : Int} : fMax2 [.int i, .int j] = some (.int (max i j)) := by
  show some (PyData.int (if j > i then j else i)) = _
  congr 2
  split <;> omega
@[simp] theorem fMin2_i {i j : Int} : fMin2 [.int i, .int j] = some (.int (min i j)) := by
  show some (PyData.int (if j < i then j else i)) = _
  congr 2
  split <;> omega
/-! ### the least multiple from a on -/
def low (n a : Int) : Int := (a + n - 1) / n * n
theorem low_dvd {n a : Int} : n ∣ low n a := ⟨(a + n - 1) / n, by unfold low; rw [Int.mul_comm]⟩
theorem low_ge {n a : Int} (hn : 1 ≤ n) : a ≤ low n a := by
  unfold low
  have := Int.lt_ediv_add_one_mul_self (a + n - 1) (show 0 < n by omega)
  rw [Int.add_mul, Int.one_mul] at this
  omega
theorem low_le {n a : Int} (hn : 1 ≤ n) : low n a ≤ a + n - 1 := Int.ediv_mul_le _ (by omega)
theorem low_min {n a z : Int} (hn : 1 ≤ n) (h : n ∣ z) (hz : a ≤ z) : low n a ≤ z := by
  obtain ⟨k, rfl⟩ := h
  unfold low
  rw [Int.mul_comm n k]
  refine Int.mul_le_mul_of_nonneg_right ?_ (by omega)
  refine Int.le_of_lt_add_one ((Int.ediv_lt_iff_lt_mul (by omega)).mpr ?_)
  rw [Int.add_mul, Int.one_mul]
  rw [Int.mul_comm n k] at hz
  omega
/-- a number to go by -/
def isS (n : Int) : Prop := 1 ≤ n ∧ n ≤ 1000000
theorem sm_S {n : Int} (h : isS n) : sm n = true := by
  have e : tp 6 = 1000000 := rfl
  have := h.1
  have := h.2
  exact sm_tp (k := 6) (by decide) (by rw [e]; omega) (by rw [e]; omega)
theorem s_first_of_stretch {n a e : Int} (hn : isS n) (ha : 0 ≤ a) (ha' : a < tp 900) : f_first_of_stretch [.int n, .int a, .int e] = .ok (if low n a ≤ e then .int (low n a) else .none) := by
  refine runF_of ?_
  have hn1 := hn.1
  have hn2 := hn.2
  have d := fDiv_i (i := a + n - 1) (show 0 < n by omega) (sm_S hn)
  have hq0 : 0 ≤ (a + n - 1) / n := Int.ediv_nonneg (by omega) (by omega)
  have hq1 : (a + n - 1) / n ≤ a + n - 1 := Int.ediv_le_self _ (by omega)
  have ht : tp 900 + 1000000 ≤ tp 901 := by
    have e : tp 901 = tp 900 * 10 := tp_succ (a := 900) (by decide)
    have := tp_mono (show 6 ≤ 900 by decide)
    have e6 : tp 6 = 1000000 := rfl
    omega
  have m := sm_tp (k := 901) (i := (a + n - 1) / n) (by decide) (by have := tp_pos 901; omega) (by omega)
  by_cases q : low n a ≤ e
  · have q' := q
    unfold low at q'
    simp [b_first_of_stretch, d, fMul_i m (sm_S hn), q, q']
    unfold low; rfl
  · have q' := q
    unfold low at q'
    simp [b_first_of_stretch, d, fMul_i m (sm_S hn), q, q']
theorem sA_tp {b c : Int} (hb : isB b) (h1 : sz b ≤ c) (h : c ≤ 800) : 0 ≤ sA b c ∧ sA b c < tp 900 ∧ sE b c < tp 900 := by
  have h1' := sA_pos (b := b) (c := c) hb.1
  have h2 := sE_lt hb.1 h1
  have h3 := tp_mono (show c ≤ 900 by omega)
  have h4 := sA_le (b := b) (c := c)
  omega
theorem g_first_multiple {n b : Int} (hn : isS n) (hb : isB b) : ∃ m, f_first_multiple [.int n, .int b] = .ok (.int m) ∧ 1 ≤ m ∧ sz m ≤ 10 ∧ n ∣ m ∧ beg m b = true ∧ ∀ z, 1 ≤ z → n ∣ z → beg z b = true → m ≤ z := by
  obtain ⟨P, hP⟩ : ∃ P : D → Prop, P = fun d => ∃ m, d = .int m ∧ 1 ≤ m ∧ sz m ≤ 10 ∧ n ∣ m ∧ beg m b = true ∧ ∀ z, 1 ≤ z → n ∣ z → beg z b = true → m ≤ z := ⟨_, rfl⟩
  have hb1 := hb.1
  have hn1 := hn.1
  have hn2 := hn.2
  have p := sz_pos b
  have q := sz_B hb
  suffices h : IsRtP P (b_first_multiple.ev (args [.int n, .int b] 5)) by
    obtain ⟨d, h1, h2⟩ := runF_ofP h
    rw [hP] at h2
    obtain ⟨m, rfl, h2⟩ := h2
    exact ⟨m, h1, h2⟩
  have hS0 := s_stretch_of (c := sz b) hb (by omega) (by omega)
  simp [b_first_multiple, s_check_step hn1 hn2, s_check_beginning hb, s_size_of (isT_B hb), hS0]
  refine whF_th (Q := IsRtP P) (fun m e => ∃ c, sz b ≤ c ∧ c ≤ sz b + 6 ∧ e = [some (.im (.int n)), some (.im (.int b)), some (.im (.int c)), some (.im (.int (sA b c))), some (.im (.int (sE b c)))] ∧ (m : Int) = sz b + 7 - c ∧ ∀ z, 1 ≤ z → n ∣ z → beg z b = true → c ≤ sz z) 7 ⟨sz b, by omega, by omega, rfl, by omega, fun z _ _ h => beg_sz h⟩ (by decide) ?_
  rintro m e ⟨c, h1, h2, rfl, hm, hz⟩
  obtain ⟨a1, a2, a3⟩ := sA_tp hb h1 (by omega)
  have hF := s_first_of_stretch (e := sE b c) hn a1 a2
  have hS := s_stretch_of (c := c + 1) hb (by omega) (by omega)
  by_cases hl : low n (sA b c) ≤ sE b c
  · left
    refine ⟨?_, ?_⟩
    · simp [hF, hl, fIsN, isNone]
    · simp [hF, hl]
      rw [hP]
      have hm := (inS_iff (z := low n (sA b c)) hb1 h1).mp ⟨low_ge hn1, hl⟩
      refine ⟨_, rfl, hm.1, by omega, low_dvd, hm.2.2, fun z z1 z2 z3 => ?_⟩
      have hc := hz z z1 z2 z3
      rcases Int.lt_or_le c (sz z) with k | k
      · have := sz_ge (n := z) (k := c) (by have := sz_lo z1; have := tp_mono (show c ≤ sz z - 1 by omega); omega)
        have e1 := sE_lt hb1 h1
        have e2 := sz_lo z1
        have e3 := tp_mono (show c ≤ sz z - 1 by omega)
        omega
      · have e : sz z = c := by omega
        exact low_min hn1 z2 ((inS_iff hb1 h1).mpr ⟨z1, e, z3⟩).1
  · right
    have hc6 : c < sz b + 6 := by
      rcases Int.lt_or_le c (sz b + 6) with k | k
      · exact k
      · exfalso
        have e := low_le (n := n) (a := sA b c) hn1
        have e2 : tp 6 ≤ tp (c - sz b) := tp_mono (by omega)
        have e6 : tp 6 = 1000000 := rfl
        rw [sE_A] at hl
        omega
    refine ⟨by simp [hF, hl, fIsN, isNone], [some (.im (.int n)), some (.im (.int b)), some (.im (.int (c + 1))), some (.im (.int (sA b (c + 1)))), some (.im (.int (sE b (c + 1))))], by simp [hS], (m - 1), by omega, c + 1, by omega, by omega, rfl, by omega, fun z z1 z2 z3 => ?_⟩
    have hc := hz z z1 z2 z3
    rcases Int.lt_or_le c (sz z) with k | k
    · omega
    · exfalso
      have e : sz z = c := by omega
      have := (inS_iff hb1 h1).mpr ⟨z1, e, z3⟩
      have := low_min hn1 z2 this.1
      omega
/-- multiples of so many digits that begin so -/
theorem s_count_multiples {n b c : Int} (hn : isS n) (hb : isB b) (h1 : 1 ≤ c) (h2 : c ≤ 60) : f_count_multiples [.int n, .int b, .int c] = .ok (.int (if c < sz b then 0 else sE b c / n - (sA b c - 1) / n)) := by
  refine runF_of ?_
  have hn1 := hn.1
  have p := sz_pos b
  have q := sz_B hb
  by_cases hc : c < sz b
  · simp [b_count_multiples, s_check_step hn1 hn.2, s_check_beginning hb, s_check_count h1 h2, s_size_of (isT_B hb), hc]
  · have hS := s_stretch_of (c := c) hb (by omega) (by omega)
    have d1 := fDiv_i (i := sE b c) (show 0 < n by omega) (sm_S hn)
    have d2 := fDiv_i (i := sA b c - 1) (show 0 < n by omega) (sm_S hn)
    simp [b_count_multiples, s_check_step hn1 hn.2, s_check_beginning hb, s_check_count h1 h2, s_size_of (isT_B hb), hc, hS, d1, d2]
def mulPl (n b k : Int) : List Int := (rg 1 (k + 1)).filter fun f => beg (n * f) b
theorem s_multiple_places {n b k : Int} (hn : isS n) (hb : isB b) (h1 : 1 ≤ k) (h2 : k ≤ 1000) : f_multiple_places [.int n, .int b, .int k] = .ok (.list ((mulPl n b k).map .int)) := by
  refine runF_of ?_
  have hn1 := hn.1
  have hn2 := hn.2
  have r1 : rngOk 1 = true := rngOk_is (by decide) (by decide)
  have r2 : rngOk (k + 1) = true := rngOk_is (by omega) (by omega)
  have hl : (rg 1 (k + 1)).length ≤ 100000 := by rw [rg_length]; omega
  simp [b_multiple_places, s_check_step hn1 hn.2, s_check_beginning hb, s_check_count h1 h2, r1, r2]
  have e : rangeD 1 1 (k + 1 - 1).toNat = (rg 1 (k + 1)).map PyData.int := rangeD_rg _ _
  rw [show k.toNat = (k + 1 - 1).toNat by omega, e]
  rw [lcF_of (p := fun f => beg (n * f) b) (q := PyData.int)]
  · simp [hl]; rfl
  · intro f hf
    obtain ⟨f1, f2⟩ := mem_rg.mp hf
    have e10 : tp 10 = 10000000000 := rfl
    have hm : n * f ≤ 1000000 * 1000 := Int.mul_le_mul hn2 (by omega) (by omega) (by decide)
    have h1' : 1 * 1 ≤ n * f := Int.mul_le_mul hn1 f1 (by decide) (by omega)
    have hT : isT (n * f) := ⟨by omega, Int.lt_of_lt_of_le (show n * f < tp 10 by rw [e10]; omega) (tp_mono (by decide))⟩
    have m1 := sm_S hn
    have m2 : sm f = true := sm_S ⟨f1, by omega⟩
    refine ⟨_, by simp; rfl, ?_⟩
    simp [fMul_i m1 m2, beg_T hT (by omega) hb]
end FD
set_option Elab.async false
set_option linter.all false
set_option maxRecDepth 100000
set_option maxHeartbeats 4000000
noncomputable section
namespace FD
open PySem L2 TL
theorem forF_th2 {α : Type} {Q : F → Prop} {f : α → D} {g : D → Env → Option Env} {b : Env → F} {xs : List α} {env : Env} {k : Env → F} (P : Nat → Env → Prop) (h0 : P 0 env)
    (st : ∀ i x, xs[i]? = some x → ∀ e, P i e → ∃ e1, g (f x) e = some e1 ∧ (IsNx (P (i + 1)) (b e1) ∨ ((∃ d e2, b e1 = .rt d e2) ∧ Q (b e1)))) (hk : ∀ e, P xs.length e → Q (k e)) : Q ((forF g b (xs.map f) env).bind k) := by
  rcases forF_inv2 P Q xs 0 env h0 (fun i x hx e he => by
    obtain ⟨e1, a, ⟨e2, c, d⟩ | h⟩ := st i x hx e (by simpa using he)
    · exact ⟨e1, a, .inl ⟨e2, c, by simpa using d⟩⟩
    · exact ⟨e1, a, .inr h⟩) with ⟨e, h1, h2⟩ | ⟨⟨d, e, h1⟩, h2⟩
  · rw [h1]
    exact hk e (by simpa using h2)
  · rw [h1] at h2 ⊢
    exact h2
theorem sz_B9 {b : Int} (h : isB b) : 1 ≤ sz b ∧ sz b ≤ 4 := ⟨sz_pos b, sz_B h⟩
theorem C_0 {b : Int} (hb : 1 ≤ b) : C b 0 = 0 := C_low hb (by omega)
theorem s_count_up_to {b n : Int} (hb : isB b) (hn : isN n) : f_count_up_to [.int b, .int n] = .ok (.int (C b n)) := by
  refine runF_of ?_
  simp [b_count_up_to, s_check_beginning hb, s_check_number hn, s_up_to_of hb hn.1 (by have := sz_N hn; omega)]
theorem s_count_between {b a n : Int} (hb : isB b) (ha : isN a) (hn : isN n) : f_count_between [.int b, .int a, .int n] = .ok (.int (if n < a then 0 else C b n - C b (a - 1))) := by
  refine runF_of ?_
  have h0 := C_0 hb.1
  have h1 := s_up_to_of hb hn.1 (by have := sz_N hn; omega)
  by_cases q : n < a
  · simp [b_count_between, s_check_beginning hb, s_check_number ha, s_check_number hn, q]
  · by_cases q1 : 1 < a
    · have ha1 : isN (a - 1) := ⟨by omega, by have := ha.2; omega⟩
      have h2 := s_up_to_of hb ha1.1 (by have := sz_N ha1; omega)
      simp [b_count_between, s_check_beginning hb, s_check_number ha, s_check_number hn, q, q1, h1, h2]
    · have : a = 1 := by have := ha.1; omega
      subst this
      simp [b_count_between, s_check_beginning hb, s_check_number ha, s_check_number hn, q, h1, h0]
theorem s_rank_of {b n : Int} (hb : isB b) (hn : isN n) : f_rank_of [.int b, .int n] = if beg n b = true then .ok (.int (C b n - 1)) else .err 4 := by
  have h1 := s_up_to_of hb hn.1 (by have := sz_N hn; omega)
  split
  · rename_i q
    refine runF_of ?_
    simp [b_rank_of, s_check_beginning hb, s_check_number hn, beg_T (isT_N hn) hn.1 hb, q, h1]
  · rename_i q
    refine runF_errOf ?_
    simp [b_rank_of, s_check_beginning hb, s_check_number hn, beg_T (isT_N hn) hn.1 hb, q, h1]
theorem s_stretch {b c : Int} (hb : isB b) (h1 : 1 ≤ c) (h2 : c ≤ 60) : f_stretch [.int b, .int c] = if sz b ≤ c then .ok (.tuple [.int (sA b c), .int (sE b c)]) else .err 4 := by
  split
  · rename_i q
    refine runF_of ?_
    simp [b_stretch, s_check_beginning hb, s_check_count h1 h2, s_size_of (isT_B hb), q, s_stretch_of (c := c) hb (by omega) (by omega), show ¬ c < sz b by omega]
  · rename_i q
    refine runF_errOf ?_
    simp [b_stretch, s_check_beginning hb, s_check_count h1 h2, s_size_of (isT_B hb), q, show c < sz b by omega]
theorem sA_mono {b c d : Int} (hb : 1 ≤ b) (h : c ≤ d) : sA b c ≤ sA b d := by
  unfold sA
  exact Int.mul_le_mul_of_nonneg_left (tp_mono (by omega)) (by omega)
theorem sE_mono {b c d : Int} (hb : 1 ≤ b) (h : c ≤ d) : sE b c ≤ sE b d := by
  unfold sE
  have : (b + 1) * tp (c - sz b) ≤ (b + 1) * tp (d - sz b) := Int.mul_le_mul_of_nonneg_left (tp_mono (by omega)) (by omega)
  omega
theorem tp_le_sA {b c : Int} (hb : 1 ≤ b) (hc : sz b ≤ c) : tp (c - 1) ≤ sA b c := by
  unfold sA
  have := sz_pos b
  rw [show c - 1 = (sz b - 1) + (c - sz b) by omega, tp_add (by omega) (by omega)]
  exact Int.mul_le_mul_of_nonneg_right (sz_lo hb) (Int.le_of_lt (tp_pos _))
theorem beg_in {b z : Int} (hb : 1 ≤ b) (hz : 1 ≤ z) (h : beg z b = true) : sA b (sz z) ≤ z ∧ z ≤ sE b (sz z) := (inS_iff hb (beg_sz h)).mpr ⟨hz, rfl, h⟩
theorem beg_ofIn {b c z : Int} (hb : 1 ≤ b) (hc : sz b ≤ c) (h1 : sA b c ≤ z) (h2 : z ≤ sE b c) : beg z b = true := ((inS_iff hb hc).mp ⟨h1, h2⟩).2.2
/-- the least from n on that begins so -/
def leastV (b n : Int) : Int := if beg n b = true then n else if n ≤ sA b (max (sz n) (sz b)) then sA b (max (sz n) (sz b)) else sA b (max (sz n) (sz b) + 1)
theorem leastV_is {b n : Int} (hb : 1 ≤ b) (hn : 1 ≤ n) : n ≤ leastV b n ∧ beg (leastV b n) b = true ∧ sz (leastV b n) ≤ max (sz n) (sz b) + 1 ∧ ∀ z, n ≤ z → beg z b = true → leastV b n ≤ z := by
  unfold leastV
  have pn := sz_pos n
  have pb := sz_pos b
  split
  · rename_i h
    exact ⟨Int.le_refl _, h, by omega, fun z h1 h2 => h1⟩
  · rename_i h
    split
    · rename_i q
      have hm := (inS_iff (c := max (sz n) (sz b)) hb (by omega)).mp ⟨Int.le_refl _, sA_le⟩
      refine ⟨q, hm.2.2, by omega, fun z h1 h2 => ?_⟩
      have k := beg_in hb (by omega) h2
      have := sA_mono (b := b) (c := max (sz n) (sz b)) (d := sz z) hb (by have := beg_sz h2; have := sz_mono (show 0 ≤ n by omega) h1; omega)
      omega
    · rename_i q
      have hc : max (sz n) (sz b) = sz n := by
        rcases Int.lt_or_le (sz n) (sz b) with k | k
        · exfalso
          rw [show max (sz n) (sz b) = sz b by omega, sA_first] at q
          have a1 := sz_hi (show 0 ≤ n by omega)
          have a2 := sz_lo hb
          have a3 := tp_mono (show sz n ≤ sz b - 1 by omega)
          omega
        · omega
      have hcb : sz b ≤ sz n := by omega
      rw [hc] at q ⊢
      have hm := (inS_iff (c := sz n + 1) hb (by omega)).mp ⟨Int.le_refl _, sA_le⟩
      have hE : sE b (sz n) < n := by
        rcases Int.lt_or_le (sE b (sz n)) n with k | k
        · exact k
        · exact absurd (beg_ofIn hb hcb (by omega) k) h
      have hA := tp_le_sA (b := b) (c := sz n + 1) hb (by omega)
      rw [show sz n + 1 - 1 = sz n by omega] at hA
      refine ⟨by have := sz_hi (show 0 ≤ n by omega); omega, hm.2.2, by omega, fun z h1 h2 => ?_⟩
      have k := beg_in hb (by omega) h2
      have hs := sz_mono (show 0 ≤ n by omega) h1
      rcases Int.lt_or_le (sz n) (sz z) with k2 | k2
      · have := sA_mono (b := b) (c := sz n + 1) (d := sz z) hb (by omega)
        omega
      · rw [show sz z = sz n by omega] at k
        omega
theorem s_least_from {b n : Int} (hb : isB b) (hn : isN n) : f_least_from [.int b, .int n] = .ok (.int (leastV b n)) := by
  refine runF_of ?_
  have hB := sz_B9 hb
  have hs := sz_N hn
  have pn := sz_pos n
  unfold leastV
  by_cases q : beg n b = true
  · simp [b_least_from, s_check_beginning hb, s_check_number hn, beg_T (isT_N hn) hn.1 hb, q]
  · have h1 := s_stretch_of (c := max (sz n) (sz b)) hb (by omega) (by omega)
    have h2 := s_stretch_of (c := max (sz n) (sz b) + 1) hb (by omega) (by omega)
    have h3 : fIx (.tuple [.int (sA b (max (sz n) (sz b) + 1)), .int (sE b (max (sz n) (sz b) + 1))]) (.int 0) = some (.int (sA b (max (sz n) (sz b) + 1))) := atI_0 _ _
    by_cases q1 : n ≤ sA b (max (sz n) (sz b))
    · simp [b_least_from, s_check_beginning hb, s_check_number hn, beg_T (isT_N hn) hn.1 hb, q, s_size_of (isT_N hn), s_size_of (isT_B hb), h1, h2, q1]
    · simp [b_least_from, s_check_beginning hb, s_check_number hn, beg_T (isT_N hn) hn.1 hb, q, s_size_of (isT_N hn), s_size_of (isT_B hb), h1, h2, q1, h3]
/-- ranks -/
theorem C_at {b c left : Int} (hb : 1 ≤ b) (hc : sz b ≤ c) (h0 : 0 ≤ left) (h1 : left < tp (c - sz b)) : beg (sA b c + left) b = true ∧ C b (sA b c + left) = C b (sA b c - 1) + left + 1 ∧ sz (sA b c + left) = c := by
  have e : sA b c + left ≤ sE b c := by rw [sE_A]; omega
  refine ⟨beg_ofIn hb hc (by omega) e, by rw [C_in hb hc (by omega) e]; omega, ((inS_iff hb hc).mp ⟨by omega, e⟩).2.1⟩
theorem g_number_at {b r : Int} (hb : isB b) (h0 : 0 ≤ r) (h1 : r ≤ 1000000000) : ∃ m, f_number_at [.int b, .int r] = .ok (.int m) ∧ 1 ≤ m ∧ beg m b = true ∧ C b m = r + 1 ∧ sz m ≤ 14 := by
  obtain ⟨P, hP⟩ : ∃ P : D → Prop, P = fun d => ∃ m, d = .int m ∧ 1 ≤ m ∧ beg m b = true ∧ C b m = r + 1 ∧ sz m ≤ 14 := ⟨_, rfl⟩
  have hB := sz_B9 hb
  have hb1 := hb.1
  suffices h : IsRtP P (b_number_at.ev (args [.int b, .int r] 4)) by
    obtain ⟨d, h1, h2⟩ := runF_ofP h
    rw [hP] at h2
    obtain ⟨m, rfl, h2⟩ := h2
    exact ⟨m, h1, h2⟩
  simp [b_number_at, s_check_beginning hb, s_check_count h0 h1]
  refine whF_th (Q := IsRtP P) (fun m e => ∃ l j : Int, 0 ≤ l ∧ 0 ≤ j ∧ j ≤ 10 ∧ l + C b (sA b (sz b + j) - 1) = r ∧ e = [some (.im (.int b)), some (.im (.int r)), some (.im (.int l)), some (.im (.int j))] ∧ (m : Int) = 10 - j) 10 ⟨r, 0, h0, by omega, by omega, by rw [show sz b + 0 = sz b by omega, C_sA0 hb1]; omega, rfl, rfl⟩ (by decide) ?_
  rintro m e ⟨l, j, l0, j0, j1, hl, rfl, hm⟩
  have t := s_ten (k := j) (by omega) (by omega)
  have hc := C_sA (b := b) (c := sz b + j) hb1 (by omega)
  rw [show sz b + j - sz b = j by omega, show sz b + j + 1 = sz b + (j + 1) by omega] at hc
  have hcn : 0 ≤ C b (sA b (sz b + j) - 1) := cnt_nonneg
  by_cases q : tp j ≤ l
  · right
    have hj9 : j < 10 := by
      rcases Int.lt_or_le j 10 with k | k
      · exact k
      · have := tp_mono k
        have e : tp 10 = 10000000000 := rfl
        omega
    refine ⟨by simp [t, q], [some (.im (.int b)), some (.im (.int r)), some (.im (.int (l - tp j))), some (.im (.int (j + 1)))], by simp [t], m - 1, by omega, l - tp j, j + 1, by omega, by omega, by omega, by omega, rfl, by omega⟩
  · left
    obtain ⟨u1, u2⟩ := sm_B hb
    refine ⟨by simp [t, q], ?_⟩
    simp [t, fMul_i u1 (sm_tpk (k := j) (by omega))]
    rw [hP]
    obtain ⟨a1, a2, a3⟩ := C_at (c := sz b + j) (left := l) hb1 (by omega) l0 (by rw [show sz b + j - sz b = j by omega]; omega)
    have eA : sA b (sz b + j) = b * tp j := by unfold sA; rw [show sz b + j - sz b = j by omega]
    have := sA_pos (b := b) (c := sz b + j) hb1
    rw [← eA]
    exact ⟨_, rfl, by omega, a1, by omega, by omega⟩
/-- the last one before -/
theorem s_last_before {b n : Int} (hb : isB b) (hn : isN n) : (∃ m, f_last_before [.int b, .int n] = .ok (.int m) ∧ 1 ≤ m ∧ m < n ∧ beg m b = true ∧ ∀ z, 1 ≤ z → z < n → beg z b = true → z ≤ m) ∨ (f_last_before [.int b, .int n] = .err 4 ∧ ∀ z, 1 ≤ z → z < n → beg z b = false) := by
  obtain ⟨P, hP⟩ : ∃ P : F → Prop, P = fun x => (∃ m e, x = .rt (.int m) e ∧ 1 ≤ m ∧ m < n ∧ beg m b = true ∧ ∀ z, 1 ≤ z → z < n → beg z b = true → z ≤ m) ∨ ((∃ e, x = .err 4 e) ∧ ∀ z, 1 ≤ z → z < n → beg z b = false) := ⟨_, rfl⟩
  have hB := sz_B9 hb
  have hb1 := hb.1
  have hn1 := hn.1
  have hs := sz_N hn
  have pn := sz_pos n
  suffices h : P (b_last_before.ev (args [.int b, .int n] 5)) by
    rw [hP] at h
    rcases h with ⟨m, e, h1, h2⟩ | ⟨⟨e, h1⟩, h2⟩
    · exact .inl ⟨m, runF_rt h1, h2⟩
    · exact .inr ⟨runF_err h1, h2⟩
  have r1 : rngOk (sz n) = true := rngOk_is (by omega) (by omega)
  have r2 : rngOk (sz b - 1) = true := rngOk_is (by omega) (by omega)
  have fn : fNeg (.int 1) = some (.int (-1)) := rfl
  simp [b_last_before, s_check_beginning hb, s_check_number hn, s_size_of (isT_N hn), s_size_of (isT_B hb), r1, r2, fn]
  unfold rangeD
  refine forF_th2 (Q := P) (fun i e => ∃ o2 o3 o4, e = [some (.im (.int b)), some (.im (.int n)), o2, o3, o4] ∧ canSet e 2 = true ∧ canSet e 3 = true ∧ canSet e 4 = true ∧ ∀ c, sz b ≤ c → sz n - i < c → c ≤ sz n → n ≤ sA b c) ⟨none, none, none, rfl, by simp, by simp, by simp, fun c _ h1 h2 => by omega⟩ ?_ ?_
  · rintro i x hx e ⟨o2, o3, o4, rfl, c2, c3, c4, hc⟩
    have hi : i < (sz n - (sz b - 1)).toNat := by
      have := (List.getElem?_eq_some_iff.mp hx).1
      simpa using this
    have ex : x = i := by rw [List.getElem?_range hi] at hx; cases hx; rfl
    subst ex
    simp only [cs_s] at c2 c3 c4
    refine ⟨_, by simp only [gname_ev, cs_s, c2, if_true]; rfl, ?_⟩
    have ec : sz n + (x : Int) * -1 = sz n - x := by omega
    rw [ec]
    have hS := s_stretch_of (c := sz n - (x : Int)) hb (by omega) (by omega)
    by_cases q : sA b (sz n - x) < n
    · right
      have ev : ∀ k, F.bind k CS.nil.ev = k := fun k => by cases k <;> rfl
      have hr : (∃ d e2, (CS.seq (CS.asgT (CG.tup [3, 4]) (CE.call 2 f_stretch_of (CA.cons (CE.var 0) (CA.cons (CE.var 2) CA.nil)))) (CS.ite (CT.of (CE.lt (CE.var 3) (CE.var 1))) (CS.ret (CE.min2 (CA.cons (CE.var 4) (CA.cons (CE.sub (CE.var 1) (CE.int 1)) CA.nil)))) CS.nil)).ev [some (.im (.int b)), some (.im (.int n)), some (.im (.int (sz n - x))), o3, o4] = .rt d e2 ∧ d = .int (min (sE b (sz n - x)) (n - 1))) := by
        refine ⟨_, [some (.im (.int b)), some (.im (.int n)), some (.im (.int (sz n - x))), some (.im (.int (sA b (sz n - x)))), some (.im (.int (sE b (sz n - x))))], ?_, rfl⟩
        simp [c3, c4, hS, q]
      obtain ⟨d, e2, h1, rfl⟩ := hr
      refine ⟨⟨_, e2, h1⟩, ?_⟩
      have hle := sA_le (b := b) (c := sz n - x)
      have hp := sA_pos (b := b) (c := sz n - x) hb1
      have : P (.rt (.int (min (sE b (sz n - x)) (n - 1))) e2) := by
        rw [hP]
        refine .inl ⟨_, e2, rfl, by omega, by omega, beg_ofIn hb1 (c := sz n - x) (by omega) (by omega) (by omega), fun z z1 z2 z3 => ?_⟩
        obtain ⟨k1, k2⟩ := beg_in hb1 z1 z3
        have hsz := sz_mono (show 0 ≤ z by omega) (show z ≤ n by omega)
        rcases Int.lt_or_le (sz n - x) (sz z) with k | k
        · have := hc (sz z) (beg_sz z3) k hsz
          omega
        · have := sE_mono (b := b) hb1 k
          omega
      rw [← h1] at this
      exact this
    · left
      refine ⟨[some (.im (.int b)), some (.im (.int n)), some (.im (.int (sz n - x))), some (.im (.int (sA b (sz n - x)))), some (.im (.int (sE b (sz n - x))))], by simp [c3, c4, hS, q], _, _, _, rfl, by simp, by simp, by simp, fun c h1 h2 h3 => ?_⟩
      rcases Int.lt_or_le (sz n - x) c with k | k
      · exact hc c h1 k h3
      · rw [show c = sz n - x by omega]
        omega
  · rintro e ⟨o2, o3, o4, rfl, -, -, -, hc⟩
    rw [hP]
    refine .inr ⟨⟨_, rfl⟩, fun z z1 z2 => ?_⟩
    cases q : beg z b with
    | false => rfl
    | true =>
      exfalso
      obtain ⟨k1, k2⟩ := beg_in hb1 z1 q
      have hsz := sz_mono (show 0 ≤ z by omega) (show z ≤ n by omega)
      have hbz := beg_sz q
      have := hc (sz z) hbz (by rw [List.length_range]; omega) hsz
      omega
end FD
set_option Elab.async false
set_option linter.all false
set_option maxRecDepth 100000
set_option maxHeartbeats 4000000
noncomputable section
namespace FD
open PySem L2 TL
section
variable {a b c e : CE} {A : CA} {t u : CT} {l : CL} {env : Env} {i j : Nat} {n : Nat} {p : CS}
def tryF (i j : Nat) (r : F) : F := match r with
  | .nx e => .nx e
  | .rt d e => .rt d e
  | .err k e => if lk (decide (k < 5)) && canSet e j && canSet (e.set j (some (.im (exc k)))) i then .nx ((e.set j (some (.im (exc k)))).set i none) else .bad
  | .bad => .bad
@[simp] theorem tryK_ev : (CS.tryK i j p).ev env = tryF i j (p.ev env) := Eq.trans rfl rfl
@[simp] theorem tryF_nx : tryF i j (.nx env) = .nx env := Eq.trans rfl rfl
@[simp] theorem tryF_rt {d : D} : tryF i j (.rt d env) = .rt d env := Eq.trans rfl rfl
@[simp] theorem tryF_err {k : Nat} : tryF i j (.err k env) = if lk (decide (k < 5)) && canSet env j && canSet (env.set j (some (.im (exc k)))) i then .nx ((env.set j (some (.im (exc k)))).set i none) else .bad := Eq.trans rfl rfl
def isExF (j : Nat) (x : D) (e1 : Env) : R D := match excOf x with
    | some k => if lk (decide (k < 5)) && lk (decide (j < 7)) then .ok (.bool (decide (k = j) || decide (j = 5) || decide (j = 6))) e1 else .bad
    | none => .bad
@[simp] theorem isEx_ev : (CE.isEx j a).ev env = (a.ev env).bind fun x e1 => isExF j x e1 := Eq.trans rfl rfl
@[simp] theorem isExF_ev {k : Nat} : isExF j (exc k) env = if lk (decide (k < 5)) && lk (decide (j < 7)) then .ok (.bool (decide (k = j) || decide (j = 5) || decide (j = 6))) env else .bad := Eq.trans rfl rfl
@[simp] theorem countF_ev : (CE.countF a b).ev env = (a.ev env).bind fun x e1 => match x with
    | .list ds => (b.ev e1).bind fun y e2 => if flatD y && ds.all flatD then .ok (.int (ds.countP fun z => PyData.eqv z y : Nat)) e2 else .bad
    | _ => .bad := Eq.trans rfl rfl
end
@[simp] theorem fIsN_n {n : Bool} : fIsN n .none .none = some (.bool (!n)) := by cases n <;> rfl
@[simp] theorem fIsN_i {n : Bool} {i : Int} : fIsN n (.int i) .none = some (.bool n) := by cases n <;> rfl
@[simp] theorem fIsN_x {n : Bool} {k : Nat} : fIsN n (exc k) .none = some (.bool n) := by cases n <;> rfl
@[simp] theorem fIsN_l {n : Bool} {ds : List D} : fIsN n (.list ds) .none = some (.bool n) := by cases n <;> rfl
@[simp] theorem fIsN_t {n : Bool} {ds : List D} : fIsN n (.tuple ds) .none = some (.bool n) := by cases n <;> rfl

def b_law_error : CS :=
    (CS.seq (CS.asg 1 (CE.lst (CA.cons (CE.isEx 0 (CE.var 0)) (CA.cons (CE.isEx 1 (CE.var 0)) (CA.cons (CE.isEx 2 (CE.var 0)) CA.nil)))))
    (CS.seq (CS.asg 1 (CE.cat (CE.var 1) (CE.lst (CA.cons (CE.isEx 3 (CE.var 0)) (CA.cons (CE.isEx 4 (CE.var 0)) CA.nil)))))
    (CS.seq (CS.ite (CT.or (CT.of (CE.ne (CE.countF (CE.var 1) (CE.bl true)) (CE.int 1))) (CT.or (CT.not (CT.of (CE.isEx 5 (CE.var 0)))) (CT.not (CT.of (CE.isEx 6 (CE.var 0)))))) (CS.ret (CE.str "odd")) CS.nil)
    (CS.ret (CE.ix (CE.lst (CA.cons (CE.str "number") (CA.cons (CE.str "beginning") (CA.cons (CE.str "count") (CA.cons (CE.str "text") (CA.cons (CE.str "none") CA.nil)))))) (CE.index (CE.var 1) (CE.bl true)))))))
def f_law_error : List D → RF := runF b_law_error 2
def errN (k : Nat) : Str := match k with
  | 0 => "number" | 1 => "beginning" | 2 => "count" | 3 => "text" | _ => "none"
theorem s_law_error {k : Nat} (h : k < 5) : f_law_error [exc k] = .ok (.str (errN k)) := by
  refine runF_of ?_
  have : k = 0 ∨ k = 1 ∨ k = 2 ∨ k = 3 ∨ k = 4 := by omega
  rcases this with rfl | rfl | rfl | rfl | rfl
  all_goals
    simp [b_law_error, lineOk, fCat, flatD, PyData.eqv, indexD, List.countP_cons]
    exact ⟨_, rfl⟩

theorem fEq_t2 {n : Bool} {a b c d : Int} : fEq n (.tuple [.int a, .int b]) (.tuple [.int c, .int d]) = some (.bool (if n then !(decide (a = c) && decide (b = d)) else (decide (a = c) && decide (b = d)))) := by
  unfold fEq
  rw [show SeqAt.shaped (.tuple [.int a, .int b]) = true from rfl, show SeqAt.shaped (.tuple [.int c, .int d]) = true from rfl]
  simp only [Bool.and_self, if_true, PyData.eqv, PyData.eqvAll, Bool.and_true]
  rw [show (a == c) = decide (a = c) from rfl, show (b == d) = decide (b = d) from rfl]
end FD
set_option Elab.async false
set_option linter.all false
set_option maxRecDepth 100000
set_option maxHeartbeats 4000000
noncomputable section
namespace FD
open PySem L2 PyProof.Rows PySem.Spec
def b_row_grown : CS :=
    (CS.seq (CS.ite (CT.not (CT.of (CE.call 1 f_is_number (CA.cons (CE.var 1) CA.nil)))) (CS.raise 0) CS.nil)
    (CS.seq (CS.rowApp false 0 (CE.rowLast 0) (still_last 0))
    (CS.seq (CS.rowApp true 0 (CE.var 1) (still_var 1))
    (CS.ret (CE.var 1)))))
def f_row_grown : OD → List D → RM := runM b_row_grown 2

def b_row_multiply : CS :=
    (CS.seq (CS.expr (CE.call 1 f_check_base (CA.cons (CE.var 1) CA.nil)))
    (CS.ret (CE.meth 1 f_row_grown 0 "grown" (CA.cons (CE.mul (CE.rowLast 0) (CE.var 1)) CA.nil))))
def f_row_multiply : OD → List D → RM := runM b_row_multiply 2

def b_row_add : CS :=
    (CS.seq (CS.expr (CE.call 1 f_check_number (CA.cons (CE.var 1) CA.nil)))
    (CS.ret (CE.meth 1 f_row_grown 0 "grown" (CA.cons (CE.add (CE.rowLast 0) (CE.var 1)) CA.nil))))
def f_row_add : OD → List D → RM := runM b_row_add 2

def b_row_undo : CS :=
    (CS.seq (CS.ite (CT.of (CE.rowNil false 0)) (CS.raise 4) CS.nil)
    (CS.seq (CS.rowPop false 0)
    (CS.seq (CS.rowPop true 0)
    (CS.ret (CE.rowLast 0)))))
def f_row_undo : OD → List D → RM := runM b_row_undo 1


def b_row_first_digits : CS :=
    (CS.seq (CS.expr (CE.call 3 f_check_count (CA.cons (CE.var 1) (CA.cons (CE.int 1) (CA.cons (CE.int 4) CA.nil)))))
    (CS.ret (CE.call 2 f_first_of (CA.cons (CE.rowLast 0) (CA.cons (CE.var 1) CA.nil)))))
def f_row_first_digits : OD → List D → RM := runM b_row_first_digits 2

def b_row_places : CS :=
    (CS.seq (CS.expr (CE.call 1 f_check_beginning (CA.cons (CE.var 1) CA.nil)))
    (CS.ret (CE.ofL (CL.lcRow 0 (CGc.tup [2, 3]) (CT.of (CE.call 2 f_begins_of (CA.cons (CE.var 3) (CA.cons (CE.var 1) CA.nil)))) (CE.var 2)))))
def f_row_places : OD → List D → RM := runM b_row_places 4

def b_row_number : CS :=
    (CS.ret (CE.rowLast 0))
def f_row_number : OD → List D → RM := runM b_row_number 1

def b_row_len : CS :=
    (CS.ret (CE.rowLen false 0))
def f_row_len : OD → List D → RM := runM b_row_len 1

end FD
set_option Elab.async false
set_option linter.all false
set_option maxRecDepth 100000
set_option maxHeartbeats 4000000
noncomputable section
namespace FD
open PySem L2 TL
theorem lcF_map {α : Type} {f : α → D} {g : D → Env → Option Env} {e : Env → R D} {env : Env} {xs : List α} (q : α → D)
    (h : ∀ x ∈ xs, ∃ e1, g (f x) env = some e1 ∧ ∃ e3, e e1 = .ok (q x) e3) : lcF g CT.yes.ev e env (xs.map f) = some (xs.map q) := by
  rw [lcF_of (p := fun _ => true) (q := q)]
  · rw [List.filter_eq_self.mpr fun _ _ => rfl]
  · intro x hx
    obtain ⟨e1, h1, e3, h3⟩ := h x hx
    exact ⟨e1, h1, e1, rfl, fun _ => ⟨e3, h3⟩⟩
theorem lcF_fil {α : Type} {f : α → D} {g : D → Env → Option Env} {c : Env → R Bool} {e : Env → R D} {env : Env} {xs : List α} (p : α → Bool)
    (h : ∀ x ∈ xs, ∃ e1, g (f x) env = some e1 ∧ ∃ e2, c e1 = .ok (p x) e2 ∧ (p x = true → ∃ e3, e e2 = .ok (f x) e3)) : lcF g c e env (xs.map f) = some ((xs.filter p).map f) := lcF_of h
theorem lcF_none {α : Type} {f : α → D} {g : D → Env → Option Env} {c : Env → R Bool} {e : Env → R D} {env : Env} {xs : List α}
    (h : ∀ x ∈ xs, ∃ e1, g (f x) env = some e1 ∧ ∃ e2, c e1 = .ok false e2) : lcF g c e env (xs.map f) = some [] := by
  rw [lcF_of (p := fun _ => false) (q := f)]
  · simp
  · intro x hx
    obtain ⟨e1, h1, e2, h2⟩ := h x hx
    exact ⟨e1, h1, e2, h2, fun h => by cases h⟩
theorem fInts_map {α : Type} {f : List Int → Option D} {xs : List α} {g : α → Int} : fInts f [.list (xs.map fun x => .int (g x))] = f (xs.map g) := by
  have : xs.map (fun x => PyData.int (g x)) = (xs.map g).map .int := by rw [List.map_map]; rfl
  rw [this]
  show (intsD ((xs.map g).map .int)).bind f = _
  rw [intsD_map]
  rfl
theorem fil_or {p q : Int → Bool} : ∀ {l : List Int}, (∀ z ∈ l, ¬ (p z = true ∧ q z = true)) → (l.filter fun z => p z || q z).length = (l.filter p).length + (l.filter q).length
  | [], _ => rfl
  | x :: l, h => by
    have ih := fil_or (p := p) (q := q) (l := l) fun z hz => h z (by simp [hz])
    have hx := h x (by simp)
    cases hp : p x <;> cases hq : q x
    · simp [List.filter_cons, hp, hq, ih]
    · simp [List.filter_cons, hp, hq, ih]; omega
    · simp [List.filter_cons, hp, hq, ih]; omega
    · exact absurd ⟨hp, hq⟩ hx
theorem cnt_or {p q : Int → Bool} {a c : Int} (h : ∀ z, a ≤ z → z < c → ¬ (p z = true ∧ q z = true)) : cnt (fun z => p z || q z) a c = cnt p a c + cnt q a c := by
  unfold cnt
  rw [fil_or fun z hz => h z (mem_rg.mp hz).1 (mem_rg.mp hz).2]
  omega
theorem sum_cnt {p : Int → Int → Bool} {a c : Int} : ∀ {L : List Int}, L.Pairwise (fun x y => ∀ z, a ≤ z → z < c → ¬ (p x z = true ∧ p y z = true)) → (L.map fun x => cnt (p x) a c).sum = cnt (fun z => L.any fun x => p x z) a c
  | [], _ => by rw [cnt_no fun z _ _ => by simp]; rfl
  | x :: L, h => by
    obtain ⟨h1, h2⟩ := List.pairwise_cons.mp h
    rw [List.map_cons, List.sum_cons, sum_cnt h2]
    rw [show (fun z => (x :: L).any fun x => p x z) = fun z => p x z || L.any fun x => p x z from by funext z; simp]
    rw [cnt_or]
    intro z z1 z2 ⟨k1, k2⟩
    obtain ⟨y, hy, k3⟩ := List.any_eq_true.mp k2
    exact h1 y hy z z1 z2 ⟨k1, k3⟩
theorem cnt_one {b a c : Int} : cnt (fun z => decide (z = b)) a c = if a ≤ b ∧ b < c then 1 else 0 := by
  split
  · rename_i h
    rw [cnt_split (b := b) h.1 (by omega), cnt_split (a := b) (b := b + 1) (c := c) (by omega) (by omega), cnt_no (a := a) (c := b) (fun z _ _ => by simp; omega), cnt_no (a := b + 1) (c := c) (fun z _ _ => by simp; omega), cnt_all (a := b) (c := b + 1) (by omega) (fun z _ _ => by simp; omega)]
    omega
  · rename_i h
    exact cnt_no fun z h1 h2 => by simp; omega
theorem cnt_pos {p : Int → Bool} {a c z : Int} (h1 : a ≤ z) (h2 : z < c) (h : p z = true) : 0 < cnt p a c := by
  unfold cnt
  have : z ∈ (rg a c).filter p := List.mem_filter.mpr ⟨mem_rg.mpr ⟨h1, h2⟩, h⟩
  have := List.length_pos_of_mem this
  omega
theorem beg_same {z x y : Int} (hz : 1 ≤ z) (hx : 1 ≤ x) (hy : 1 ≤ y) (hs : sz x = sz y) (h1 : beg z x = true) (h2 : beg z y = true) : x = y := by
  have a := (beg_fst hx hz).mpr h1
  have b := (beg_fst hy hz).mpr h2
  rw [← a, ← b, hs]
theorem sz_ten {x b : Int} (hb : 1 ≤ b) (h1 : b * 10 ≤ x) (h2 : x < b * 10 + 10) : sz x = sz b + 1 := by
  rw [sz_step (by omega)]
  congr 2
  omega
/-- what begins so is the beginning itself, or goes on with one digit -/
theorem beg_parts {z b : Int} (hz : 1 ≤ z) (hb : 1 ≤ b) : beg z b = (decide (z = b) || (rg (b * 10) (b * 10 + 10)).any fun x => beg z x) := by
  have key : beg z b = true ↔ (z = b ∨ ∃ x, x ∈ rg (b * 10) (b * 10 + 10) ∧ beg z x = true) := by
    constructor
    · intro h
      obtain ⟨j, hj, h1, h2⟩ := (beg_iff hb hz).mp h
      by_cases q : j = 0
      · subst q
        rw [tp_zero] at h1 h2
        left; omega
      · right
        have e : tp j = 10 * tp (j - 1) := by rw [Int.mul_comm, ← tp_succ (by omega)]; congr 1; omega
        have pj := tp_pos (j - 1)
        rw [e, ← Int.mul_assoc] at h1 h2
        have k1 : b * 10 ≤ z / tp (j - 1) := (Int.le_ediv_iff_mul_le pj).mpr h1
        have k2 : z / tp (j - 1) < (b + 1) * 10 := (Int.ediv_lt_iff_lt_mul pj).mpr h2
        refine ⟨z / tp (j - 1), mem_rg.mpr ⟨k1, by omega⟩, (beg_iff (by omega) hz).mpr ⟨j - 1, by omega, Int.ediv_mul_le z (by omega), Int.lt_ediv_add_one_mul_self z pj⟩⟩
    · rintro (rfl | ⟨x, hx, h⟩)
      · exact (beg_iff hb hb).mpr ⟨0, by omega, by rw [tp_zero]; omega, by rw [tp_zero]; omega⟩
      · obtain ⟨x1, x2⟩ := mem_rg.mp hx
        obtain ⟨i, hi, h1, h2⟩ := (beg_iff (by omega) hz).mp h
        have pi := tp_pos i
        refine (beg_iff hb hz).mpr ⟨i + 1, by omega, ?_, ?_⟩
        · rw [tp_succ hi, Int.mul_comm (tp i), ← Int.mul_assoc]
          exact Int.le_trans (Int.mul_le_mul_of_nonneg_right x1 (by omega)) h1
        · rw [tp_succ hi, Int.mul_comm (tp i), ← Int.mul_assoc]
          exact Int.lt_of_lt_of_le h2 (Int.mul_le_mul_of_nonneg_right (by omega) (by omega))
  cases q : beg z b with
  | true =>
    rcases key.mp q with h | ⟨x, hx, h⟩
    · simp [h]
    · rw [show (rg (b * 10) (b * 10 + 10)).any (fun x => beg z x) = true from List.any_eq_true.mpr ⟨x, hx, h⟩]
      simp
  | false =>
    symm
    rw [Bool.or_eq_false_iff]
    refine ⟨decide_eq_false fun h => ?_, ?_⟩
    · have := key.mpr (.inl h); rw [q] at this; cases this
    · rw [List.any_eq_false]
      intro x hx h
      have := key.mpr (.inr ⟨x, hx, h⟩); rw [q] at this; cases this
theorem same_pair {L : List Int} {a c : Int} (ha : 1 ≤ a) (hr : L.Pairwise (· < ·)) (hs : ∀ x ∈ L, ∀ y ∈ L, 1 ≤ x ∧ sz x = sz y) : L.Pairwise (fun x y => ∀ z, a ≤ z → z < c → ¬ (beg z x = true ∧ beg z y = true)) := by
  have : ∀ M : List Int, (∀ x ∈ M, x ∈ L) → M.Pairwise (· < ·) → M.Pairwise (fun x y => ∀ z, a ≤ z → z < c → ¬ (beg z x = true ∧ beg z y = true)) := by
    intro M
    induction M with
    | nil => intro _ _; exact List.Pairwise.nil
    | cons x M ih =>
      intro hm hp
      obtain ⟨p1, p2⟩ := List.pairwise_cons.mp hp
      refine List.pairwise_cons.mpr ⟨fun y hy z z1 z2 ⟨k1, k2⟩ => ?_, ih (fun y hy => hm y (by simp [hy])) p2⟩
      have hx := hs x (hm x (by simp)) y (hm y (by simp [hy]))
      have hy' := hs y (hm y (by simp [hy])) y (hm y (by simp [hy]))
      have := beg_same (by omega) hx.1 hy'.1 hx.2 k1 k2
      have := p1 y hy
      omega
  exact this L (fun _ h => h) hr
theorem parts_sum {b a c : Int} (hb : 1 ≤ b) (ha : 1 ≤ a) : cnt (fun z => beg z b) a c = ((rg (b * 10) (b * 10 + 10)).map fun x => cnt (fun z => beg z x) a c).sum + (if a ≤ b ∧ b < c then 1 else 0) := by
  rw [sum_cnt (p := fun x z => beg z x) (same_pair ha (rg_sorted _ _) fun x hx y hy => by
    have := mem_rg.mp hx
    have := mem_rg.mp hy
    exact ⟨by omega, by rw [sz_ten hb (by omega) (by omega), sz_ten (x := y) hb (by omega) (by omega)]⟩), ← cnt_one]
  rw [Int.add_comm, ← cnt_or fun z z1 z2 ⟨k1, k2⟩ => by
    obtain ⟨x, hx, h⟩ := List.any_eq_true.mp k2
    have := mem_rg.mp hx
    have := beg_ge (by omega) (by omega) h
    have := of_decide_eq_true k1
    omega]
  exact cnt_congr fun z z1 z2 => beg_parts (by omega) hb
theorem firsts_sum {k n : Int} (hk : 1 ≤ k) (hn : 1 ≤ n) : ((rg (tp (k - 1)) (tp k)).map fun x => cnt (fun z => beg z x) 1 (n + 1)).sum = n - min n (tp (k - 1) - 1) := by
  have p := tp_pos (k - 1)
  have szx : ∀ x, x ∈ rg (tp (k - 1)) (tp k) → sz x = k := fun x hx => by
    have := mem_rg.mp hx
    exact sz_unique hk this.1 this.2
  rw [sum_cnt (p := fun x z => beg z x) (same_pair (by omega) (rg_sorted _ _) fun x hx y hy => ⟨by have := mem_rg.mp hx; omega, by rw [szx x hx, szx y hy]⟩)]
  have any_is : ∀ z, 1 ≤ z → ((rg (tp (k - 1)) (tp k)).any fun x => beg z x) = decide (tp (k - 1) ≤ z) := fun z z1 => by
    by_cases q : tp (k - 1) ≤ z
    · rw [decide_eq_true q, List.any_eq_true]
      have hs : k ≤ sz z := by have := sz_ge q; omega
      have a := sz_lo z1
      have b := sz_hi (show 0 ≤ z by omega)
      have pj := tp_pos (sz z - k)
      have hl : tp (k - 1) ≤ z / tp (sz z - k) := by
        refine (Int.le_ediv_iff_mul_le pj).mpr ?_
        rw [← tp_add (by omega) (by omega), show k - 1 + (sz z - k) = sz z - 1 by omega]
        exact a
      have hh : z / tp (sz z - k) < tp k := by
        refine (Int.ediv_lt_iff_lt_mul pj).mpr ?_
        rw [← tp_add (by omega) (by omega), show k + (sz z - k) = sz z by omega]
        exact b
      exact ⟨_, mem_rg.mpr ⟨hl, hh⟩, (beg_iff (by omega) z1).mpr ⟨sz z - k, by omega, Int.ediv_mul_le z (by omega), Int.lt_ediv_add_one_mul_self z pj⟩⟩
    · rw [decide_eq_false q, List.any_eq_false]
      intro x hx h
      have := mem_rg.mp hx
      have := beg_ge (by omega) z1 h
      omega
  rw [cnt_congr (q := fun z => decide (tp (k - 1) ≤ z)) fun z z1 _ => any_is z z1]
  rcases Int.lt_or_le n (tp (k - 1)) with q | q
  · rw [cnt_no fun z _ _ => decide_eq_false (by omega)]
    omega
  · rw [cnt_split (b := tp (k - 1)) (by omega) (by omega), cnt_no (a := 1) fun z _ _ => decide_eq_false (by omega), cnt_all (by omega) fun z _ _ => decide_eq_true (by omega)]
    omega
/-- between, told by one count -/
theorem C_btw {b a n : Int} (ha : 1 ≤ a) (h : a ≤ n) : C b n - C b (a - 1) = cnt (fun z => beg z b) a (n + 1) := by
  rw [C_add (n := a - 1) (m := n) (by omega) (by omega), show a - 1 + 1 = a by omega]
  omega
end FD
set_option Elab.async false
set_option linter.all false
set_option maxRecDepth 100000
set_option maxHeartbeats 4000000
noncomputable section
namespace FD
open PySem L2 TL
/-! ### powers -/
def pwL (b : Int) (m : Nat) : List Int := (List.range (m + 1)).map fun (k : Nat) => b ^ k
theorem pwL_succ (b : Int) (m : Nat) : pwL b (m + 1) = pwL b m ++ [b ^ (m + 1)] := by
  unfold pwL
  rw [List.range_succ, List.map_append]
  rfl
theorem pwL_len (b : Int) (m : Nat) : (pwL b m).length = m + 1 := by simp [pwL]
theorem atI_last {α : Type} (xs : List α) (x : α) : atI (xs ++ [x]) (-1) = some x := by
  have h : ixN (xs ++ [x]).length (-1) = some xs.length := by
    unfold ixN
    rw [if_neg (by decide), List.length_append, List.length_singleton]
    have e1 : (-(-1 : Int)).toNat = 1 := rfl
    simp
    omega
  unfold atI
  rw [h]
  simp
theorem pwL_last (b : Int) (m : Nat) : atI ((pwL b m).map PyData.int) (-1) = some (.int (b ^ m)) := by
  cases m with
  | zero => exact atI_last [] _
  | succ m => rw [pwL_succ, List.map_append]; exact atI_last _ _
/-- a base -/
def isBase (b : Int) : Prop := 2 ≤ b ∧ b ≤ 99
theorem pow_pos' {b : Int} (hb : 1 ≤ b) : ∀ k : Nat, 1 ≤ b ^ k
  | 0 => by rw [Int.pow_zero]; decide
  | k + 1 => by
    rw [Int.pow_succ]
    have := pow_pos' hb k
    have : 1 * 1 ≤ b ^ k * b := Int.mul_le_mul this hb (by decide) (by omega)
    omega
theorem pow_le {b : Int} (hb : 1 ≤ b) (h : b ≤ 99) : ∀ k : Nat, b ^ k ≤ tp (2 * k)
  | 0 => by rw [Int.pow_zero]; decide
  | k + 1 => by
    have h1 := pow_le hb h k
    have h2 := pow_pos' hb k
    rw [Int.pow_succ, show ((2 * ((k + 1 : Nat) : Int))) = 2 * (k : Int) + 1 + 1 by omega, tp_succ (by omega), tp_succ (by omega)]
    have h3 : b ^ k * b ≤ tp (2 * (k : Int)) * 99 := Int.mul_le_mul h1 h (by omega) (by have := tp_pos (2 * (k : Int)); omega)
    have := tp_pos (2 * (k : Int))
    omega
theorem pow_sm {b : Int} (hb : isBase b) {k : Nat} (hk : k ≤ 500) : sm (b ^ k) = true := by
  have h1 := pow_le (show 1 ≤ b by have := hb.1; omega) hb.2 k
  have h2 := pow_pos' (show 1 ≤ b by have := hb.1; omega) k
  exact sm_tp (k := 2 * k) (by omega) (by have := tp_pos (2 * (k : Int)); omega) h1
theorem sm_base {b : Int} (hb : isBase b) : sm b = true := sm_S ⟨by have := hb.1; omega, by have := hb.2; omega⟩
theorem s_powers_of {b m : Int} (hb : isBase b) (h0 : 0 ≤ m) (h : m ≤ 300) : f_powers_of [.int b, .int m] = .ok (.list ((pwL b m.toNat).map .int)) := by
  refine runF_of ?_
  have r : rngOk m = true := rngOk_is (by omega) (by omega)
  have fn : fNeg (.int 1) = some (.int (-1)) := rfl
  have hl : (rg 0 m).length = m.toNat := by rw [rg_length]; congr 1; omega
  simp [b_powers_of, lineOk, r, rangeD_0]
  refine forF_th (Q := IsRt _) (fun i e => ∃ o3, e = [some (.im (.int b)), some (.im (.int m)), some (.ow (.lst ((pwL b i).map .int))), o3] ∧ canSet e 3 = true) ⟨none, by simp [pwL], by simp⟩ ?_ ?_
  · rintro i k hk e ⟨o3, rfl, c3⟩
    simp only [cs_s] at c3
    have hi : i < m.toNat := by rw [← hl]; exact (List.getElem?_eq_some_iff.mp hk).1
    have s1 := pow_sm (k := i) hb (by omega)
    have s2 := sm_base hb
    have hlen : ((pwL b i).map PyData.int).length < 100000 := by rw [List.length_map, pwL_len]; omega
    refine ⟨_, by simp only [gname_ev, cs_s, c3, if_true]; rfl, [some (.im (.int b)), some (.im (.int m)), some (.ow (.lst ((pwL b (i + 1)).map .int))), some (.im (.int k))], ?_, _, rfl, by simp⟩
    have hlen' : (pwL b i).length < 100000 := by simpa using hlen
    simp [fn, pwL_last, fMul_i s1 s2, hlen', pwL_succ, Int.pow_succ]
  · rintro e ⟨o3, rfl, c3⟩
    rw [hl]
    simp
/-- the list gone through with its places -/
theorem enum_pw (b : Int) (m : Nat) : enumD ((pwL b m).map .int) = (List.range (m + 1)).map fun (i : Nat) => PyData.tuple [.int i, .int (b ^ i)] := by
  unfold enumD
  rw [List.length_map, pwL_len]
  apply List.map_congr_left
  intro i hi
  have hi := List.mem_range.mp hi
  congr 3
  unfold pwL
  simp [hi]
def plL (b g : Int) (m : Nat) : List Int := ((List.range (m + 1)).filter fun (i : Nat) => beg (b ^ i) g).map fun (i : Nat) => (i : Int)
theorem s_places_of {b g m : Int} (hb : isBase b) (hg : isB g) (h0 : 0 ≤ m) (h : m ≤ 300) (hT : ∀ k : Nat, (k : Int) ≤ m → isT (b ^ k)) : f_places_of [.int b, .int g, .int m] = .ok (.list ((plL b g m.toNat).map .int)) := by
  refine runF_of ?_
  have hp := s_powers_of hb h0 h
  have hl : ((List.range (m.toNat + 1)).map fun (i : Nat) => PyData.tuple [.int i, .int (b ^ i)]).length ≤ 100000 := by rw [List.length_map, List.length_range]; omega
  simp [b_places_of, hp, enum_pw]
  rw [lcF_of (p := fun (i : Nat) => beg (b ^ i) g) (q := fun (i : Nat) => PyData.int i)]
  · have : m ≤ 99999 := by omega
    simp [this, plL, Function.comp_def]
  · intro k hk
    have hk := List.mem_range.mp hk
    refine ⟨_, by simp; rfl, ?_⟩
    simp [beg_T (hT k (by omega)) (pow_pos' (by have := hb.1; omega) k) hg]
theorem s_check_all {b g m : Int} (hb : isBase b) (hg : isB g) (h0 : 0 ≤ m) (h : m ≤ 300) : f_check_all [.int b, .int g, .int m] = .ok .none := by
  refine runF_nx (e := args [.int b, .int g, .int m] 3) ?_
  simp [b_check_all, s_check_base hb.1 hb.2, s_check_beginning hg, s_check_count h0 h]
theorem s_power_places {b g m : Int} (hb : isBase b) (hg : isB g) (h0 : 0 ≤ m) (h : m ≤ 300) (hT : ∀ k : Nat, (k : Int) ≤ m → isT (b ^ k)) : f_power_places [.int b, .int g, .int m] = .ok (.list ((plL b g m.toNat).map .int)) := by
  refine runF_of ?_
  simp [b_power_places, s_check_all hb hg h0 h, s_places_of hb hg h0 h hT]
end FD
set_option Elab.async false
set_option linter.all false
set_option maxRecDepth 100000
set_option maxHeartbeats 4000000
noncomputable section
namespace FD
open PySem L2 TL
theorem cnt_le {p q : Int → Bool} {a c : Int} (h : ∀ z, a ≤ z → z < c → p z = true → q z = true) : cnt p a c ≤ cnt q a c := by
  unfold cnt
  have : ∀ l : List Int, (∀ z ∈ l, p z = true → q z = true) → (l.filter p).length ≤ (l.filter q).length := by
    intro l
    induction l with
    | nil => intro _; exact Nat.le_refl _
    | cons x l ih =>
      intro hl
      have ih := ih fun z hz => hl z (by simp [hz])
      have hx := hl x (by simp)
      cases hp : p x <;> cases hq : q x <;> simp [List.filter_cons, hp, hq] <;> first | omega | (rw [hp, hq] at hx; simp at hx)
  have := this (rg a c) fun z hz => h z (mem_rg.mp hz).1 (mem_rg.mp hz).2
  omega
theorem C_lt {b n m : Int} (h0 : 0 ≤ n) (h : n < m) (hm : beg m b = true) : C b n < C b m := by
  rw [C_add h0 (Int.le_of_lt h)]
  have := cnt_pos (p := fun z => beg z b) (a := n + 1) (c := m + 1) (z := m) (by omega) (by omega) hm
  omega
theorem C_uniq {b x y : Int} (hx : 1 ≤ x) (hy : 1 ≤ y) (bx : beg x b = true) (by' : beg y b = true) (h : C b x = C b y) : x = y := by
  rcases Int.lt_trichotomy x y with q | q | q
  · have := C_lt (show 0 ≤ x by omega) q by'; omega
  · exact q
  · have := C_lt (show 0 ≤ y by omega) q bx; omega
theorem C_pred {b m : Int} (hm : 1 ≤ m) (h : beg m b = true) : C b (m - 1) = C b m - 1 := by
  rw [C_add (n := m - 1) (m := m) (by omega) (by omega), cnt_all (a := m - 1 + 1) (c := m + 1) (by omega) fun z z1 z2 => by rw [show z = m by omega]; exact h]
  omega
theorem C_least {b a : Int} (hb : 1 ≤ b) (ha : 0 ≤ a) : C b (leastV b (a + 1)) = C b a + 1 := by
  obtain ⟨v1, v2, v3, v4⟩ := leastV_is (n := a + 1) hb (by omega)
  have := C_pred (b := b) (m := leastV b (a + 1)) (by omega) v2
  rw [C_add (n := a) (m := leastV b (a + 1) - 1) ha (by omega), cnt_no fun z z1 z2 => by
    cases q : beg z b with
    | false => rfl
    | true => have := v4 z (by omega) q; omega] at this
  omega
theorem C_rep {b : Int} (hb : 1 ≤ b) : ∀ j : Nat, C b (sA b (sz b + j) - 1) = (tp j - 1) / 9
  | 0 => by rw [show sz b + ((0 : Nat) : Int) = sz b by omega, C_sA0 hb]; rfl
  | j + 1 => by
    have h := C_sA (b := b) (c := sz b + (j : Int)) hb (by omega)
    rw [show sz b + ((j + 1 : Nat) : Int) = sz b + (j : Int) + 1 by omega, h, C_rep hb j, show sz b + (j : Int) - sz b = j by omega, show (((j + 1 : Nat) : Int)) = (j : Int) + 1 by omega, tp_succ (by omega)]
    omega
theorem C_part {b x n : Int} (hb : 1 ≤ b) (h1 : b * 10 ≤ x) (h2 : x < b * 10 + 10) (hn : b ≤ n) : C x n + 1 ≤ C b n := by
  have h := cnt_or (p := fun z => decide (z = b)) (q := fun z => beg z x) (a := 1) (c := n + 1) fun z z1 z2 ⟨k1, k2⟩ => by
    have := of_decide_eq_true k1
    have := beg_ge (by omega) z1 k2
    omega
  rw [cnt_one, if_pos ⟨hb, by omega⟩] at h
  have h3 := cnt_le (p := fun z => decide (z = b) || beg z x) (q := fun z => beg z b) (a := 1) (c := n + 1) fun z z1 z2 k => by
    rw [beg_parts z1 hb]
    rw [Bool.or_eq_true] at k ⊢
    rcases k with k | k
    · exact .inl k
    · exact .inr (List.any_eq_true.mpr ⟨x, mem_rg.mpr ⟨h1, h2⟩, k⟩)
  unfold C
  omega
theorem insI_head {n : Int} : ∀ {l : List Int}, (∀ x ∈ l, n < x) → insI n l = n :: l
  | [], _ => rfl
  | x :: l, h => by
    have := h x (by simp)
    unfold insI
    first
      | rw [if_pos (by omega)]
      | rw [if_neg (by omega)]
theorem sortI_rise : ∀ {l : List Int}, l.Pairwise (· < ·) → sortI l = l
  | [], _ => rfl
  | x :: l, h => by
    obtain ⟨h1, h2⟩ := List.pairwise_cons.mp h
    unfold sortI
    rw [sortI_rise h2]
    exact insI_head h1
end FD
set_option Elab.async false
set_option linter.all false
set_option maxRecDepth 100000
set_option maxHeartbeats 4000000
noncomputable section
namespace FD
open PySem L2 TL
/-! ### places in lists -/
@[simp] theorem fLen_l {ds : List D} : fLen [.list ds] = some (.int ds.length) := Eq.trans rfl rfl
@[simp] theorem fLen_t {ds : List D} : fLen [.tuple ds] = some (.int ds.length) := Eq.trans rfl rfl

theorem atI_end {α : Type} {xs : List α} (h : xs ≠ []) : atI xs (-1) = some (xs.getLast h) := by
  have hl := List.length_pos_iff.mpr h
  unfold atI ixN
  rw [if_neg (by omega), if_pos (by omega)]
  show xs[((-1 : Int) + xs.length).toNat]? = _
  rw [show ((-1 : Int) + xs.length).toNat = xs.length - 1 by omega, List.getLast_eq_getElem, List.getElem?_eq_getElem]
theorem fIx_last {xs : List D} (h : xs ≠ []) : fIx (.list xs) (.int (-1)) = some (xs.getLast h) := atI_end h
theorem fIx_lastI {xs : List Int} (h : xs ≠ []) : fIx (.list (xs.map .int)) (.int (-1)) = some (.int (xs.getLast h)) := by
  rw [fIx_last (by simpa using h), List.getLast_map]
theorem cutD_take {α : Type} (xs : List α) (k : Nat) : cutD xs none (some (k : Int)) = xs.take k := by
  unfold cutD
  rw [HT.sIx_nat, HT.sIx_none, List.drop_zero]
  rcases Nat.le_total k xs.length with h | h
  · rw [Nat.min_eq_left h, Nat.sub_zero]
  · rw [Nat.min_eq_right h, Nat.sub_zero, List.take_length, List.take_of_length_le h]
theorem fIx_at {xs : List D} {k : Nat} {d : D} (h : xs[k]? = some d) : fIx (.list xs) (.int (k : Int)) = some d := by
  show atI xs (k : Int) = _
  have hl := (List.getElem?_eq_some_iff.mp h).1
  unfold atI ixN
  rw [if_pos (by omega), if_pos (by omega)]
  simpa using h
/-- the k-th of those that are counted -/
theorem nth_cnt {p : Int → Bool} {a c x : Int} {k : Nat} (h : ((rg a c).filter p)[k]? = some x) : cnt p a (x + 1) = k + 1 := by
  have hm := List.mem_of_getElem? h
  rw [List.mem_filter, mem_rg] at hm
  obtain ⟨⟨h1, h2⟩, hp⟩ := hm
  have nd : ((rg a c).filter p).Nodup := (rise_filter (rg_sorted a c)).imp fun h => Int.ne_of_lt h
  have e : (rg a c).filter p = (rg a x).filter p ++ x :: (rg (x + 1) c).filter p := by
    rw [rg_split (b := x) h1 (by omega), rg_split (a := x) (b := x + 1) (c := c) (by omega) (by omega), List.filter_append, List.filter_append]
    have : rg x (x + 1) = [x] := by
      unfold rg
      rw [show (x + 1 - x).toNat = 1 by omega]
      simp
    rw [this]
    simp [hp]
  have h' : ((rg a c).filter p)[((rg a x).filter p).length]? = some x := by
    rw [e, List.getElem?_append_right (Nat.le_refl _)]
    simp
  have hk : k = ((rg a x).filter p).length := by
    obtain ⟨l1, q1⟩ := List.getElem?_eq_some_iff.mp h
    obtain ⟨l2, q2⟩ := List.getElem?_eq_some_iff.mp h'
    exact (List.getElem_inj nd).mp (q1.trans q2.symm)
  rw [cnt_split (b := x) h1 (by omega)]
  have : cnt p x (x + 1) = 1 := by
    rw [cnt_all (by omega) fun z a b => by rw [show z = x by omega]; exact hp]
    omega
  rw [this, hk]
  rfl
theorem C_step {b n : Int} (hn : 1 ≤ n) : C b n = C b (n - 1) + (if beg n b = true then 1 else 0) := by
  by_cases h : beg n b = true
  · have := C_pred hn h
    rw [if_pos h]; omega
  · rw [if_neg h]
    unfold C
    rw [show n - 1 + 1 = n by omega, cnt_split (b := n) (show (1 : Int) ≤ n by omega) (show n ≤ n + 1 by omega)]
    rw [cnt_no (a := n) (c := n + 1) fun z a b => by rw [show z = n by omega]; simpa using h]
theorem C_len (b n : Int) : C b n = (((rg 1 (n + 1)).filter fun z => beg z b).length : Int) := rfl
theorem fil_ge {p : Int → Bool} {a c l : Int} (h1 : a ≤ l) (h2 : l ≤ c) : ((rg a c).filter p).filter (fun x => decide (l ≤ x)) = (rg l c).filter p := by
  rw [rg_split h1 h2, List.filter_append, List.filter_append]
  have e1 : ((rg a l).filter p).filter (fun x => decide (l ≤ x)) = [] := by
    rw [List.filter_eq_nil_iff]
    intro x hx
    have := (mem_rg.mp (List.mem_filter.mp hx).1).2
    simp; omega
  have e2 : ((rg l c).filter p).filter (fun x => decide (l ≤ x)) = (rg l c).filter p := by
    rw [List.filter_eq_self]
    intro x hx
    have := (mem_rg.mp (List.mem_filter.mp hx).1).1
    simp; omega
  rw [e1, e2]; rfl
theorem last_max {xs : List Int} (h : xs ≠ []) (hs : xs.Pairwise (· < ·)) {m : Int} (hm : m ∈ xs) (hx : ∀ z ∈ xs, z ≤ m) : xs.getLast h = m := by
  have h1 := hx _ (List.getLast_mem h)
  rcases List.eq_nil_or_concat xs with e | ⟨ys, y, e⟩
  · exact absurd e h
  · subst e
    simp at hm h1 ⊢
    rcases hm with hm | hm
    · have := (List.pairwise_append.mp (by simpa using hs)).2.2 m hm y (by simp)
      omega
    · exact hm.symm
end FD
set_option Elab.async false
set_option linter.all false
set_option maxRecDepth 100000
set_option maxHeartbeats 4000000
noncomputable section
namespace FD
open PySem L2 TL
section
variable {a b c e : CE} {A : CA} {t u : CT} {l : CL} {env : Env} {i j : Nat} {n : Nat} {p : CS}
@[simp] theorem rowLast_ev : (CE.rowLast i).ev env = (R.lift (Env.owR env i) env).bind fun r e1 => R.lift ((atI r.1 (-1)).map .int) e1 := Eq.trans rfl rfl
@[simp] theorem rowLen_ev {q : Bool} : (CE.rowLen q i).ev env = (R.lift (Env.owR env i) env).bind fun r e1 => .ok (.int (selR q r.1 r.2).length) e1 := Eq.trans rfl rfl
@[simp] theorem rowNil_ev {q : Bool} : (CE.rowNil q i).ev env = (R.lift (Env.owR env i) env).bind fun r e1 => .ok (.bool (decide (selR q r.1 r.2 = []))) e1 := Eq.trans rfl rfl
def appF (q : Bool) (i : Nat) (x : R D) (r : List Int × List Int) (e0 : Env) : F := match x with
    | .ok (.int n) _ => if lk (decide ((selR q r.1 r.2).length < 100000)) then .nx (e0.set i (some (.ow (putR q r.1 r.2 (selR q r.1 r.2 ++ [n]))))) else .bad
    | _ => .bad
@[simp] theorem rowApp_ev {q : Bool} {hs : Still a} : (CS.rowApp q i a hs).ev env = (R.lift (Env.owR env i) env).toF fun r e0 => appF q i (a.ev e0) r e0 := Eq.trans rfl rfl
@[simp] theorem appF_i {q : Bool} {k : Int} {r : List Int × List Int} {e1 : Env} : appF q i (.ok (.int k) e1) r env = if lk (decide ((selR q r.1 r.2).length < 100000)) then .nx (env.set i (some (.ow (putR q r.1 r.2 (selR q r.1 r.2 ++ [k]))))) else .bad := Eq.trans rfl rfl
@[simp] theorem rowPop_ev {q : Bool} : (CS.rowPop q i).ev env = (R.lift (Env.owR env i) env).toF fun r e0 => if lk (decide (selR q r.1 r.2 ≠ [])) then .nx (e0.set i (some (.ow (putR q r.1 r.2 (selR q r.1 r.2).dropLast)))) else .bad := Eq.trans rfl rfl
@[simp] theorem lcRow_ev {g : CGc} : (CL.lcRow i g t e).ev env = (R.lift (Env.owR env i) env).bind fun r e1 => if lk (decide (r.1.length ≤ 100000)) then R.lift ((lcF g.g.ev t.ev e.ev (wipeE (stripE e1) g.own) (enumD (r.1.map .int))).bind fun ds => (intsD ds).map fun ns => ns.map .int) e1 else .bad := Eq.trans rfl rfl
@[simp] theorem meth_ev {φ : OD → List D → RM} {m : Str} : (CE.meth n φ i m A).ev env = if lk (decide (m ≠ "past" ∧ m ≠ "line")) then (R.lift (Env.owR env i) env).bind fun _ e0 => (CE.callM n φ i A).ev e0 else .bad := Eq.trans rfl rfl
def lenRF (i : Nat) (x : RM) (e0 : Env) : R D := match x with
    | .ok (.int n) (.row l p) => if lk (decide (0 ≤ n ∧ n < 2 ^ 63)) then .ok (.int n) (e0.set i (some (.ow (.row l p)))) else .bad
    | _ => .bad
@[simp] theorem lenRow_ev {φ : OD → List D → RM} : (CE.lenRow φ i).ev env = (R.lift (Env.owR env i) env).bind fun r e0 => lenRF i (φ (.row r.1 r.2) []) e0 := Eq.trans rfl rfl
@[simp] theorem lenRF_ev {k : Int} {l p : List Int} : lenRF i (.ok (.int k) (.row l p)) env = if lk (decide (0 ≤ k ∧ k < 2 ^ 63)) then .ok (.int k) (env.set i (some (.ow (.row l p)))) else .bad := Eq.trans rfl rfl
@[simp] theorem newRow_ev : (CS.newRow i a).ev env = (a.ev env).toF fun d e1 => newF (f_check_number [d]) d e1 fun n => if canSet e1 i = true then .nx (e1.set i (some (.ow (.row [n] [])))) else .bad := Eq.trans rfl rfl
@[simp] theorem newF_ok {d : D} {k : Int} {f : Int → F} : newF (.ok d) (.int k) env f = f k := Eq.trans rfl rfl
@[simp] theorem rm_err {k kd : Nat} {o : OD} : (RM.err k o).to kd i env = if o.kind = kd then .err k (env.set i (some (.ow o))) else .bad := Eq.trans rfl rfl
@[simp] theorem owR_0 {l p : List Int} {r : Env} : Env.owR (some (.ow (.row l p)) :: r) 0 = some (l, p) := Eq.trans rfl rfl
@[simp] theorem owR_s {s : Option Sl} {r : Env} {i : Nat} : Env.owR (s :: r) (i + 1) = Env.owR r i := by simp [Env.owR]
@[simp] theorem selR_t {l p : List Int} : selR true l p = l := Eq.trans rfl rfl
@[simp] theorem selR_f {l p : List Int} : selR false l p = p := Eq.trans rfl rfl
@[simp] theorem putR_t {l p n : List Int} : putR true l p n = .row n p := Eq.trans rfl rfl
@[simp] theorem putR_f {l p n : List Int} : putR false l p n = .row l n := Eq.trans rfl rfl
end
theorem runM_er {b : CS} {n : Nat} {o o' : OD} {ds : List D} {k : Nat} {e : Env} (h : b.ev (some (Sl.ow o) :: args ds (n - 1)) = .err k e) (h' : Env.ow e 0 = some o') : runM b n o ds = .err k o' := by unfold runM; rw [h]; dsimp only; rw [h']
/-- how a def with an object ends -/
def IsRtO' (d : D) (o : OD) (x : F) : Prop := ∃ e, x = .rt d e ∧ Env.ow e 0 = some o
def IsErO (k : Nat) (o : OD) (x : F) : Prop := ∃ e, x = .err k e ∧ Env.ow e 0 = some o
@[simp] theorem isRtO'_rt {d d' : D} {o : OD} {e : Env} : IsRtO' d o (.rt d' e) ↔ d' = d ∧ Env.ow e 0 = some o := by
  unfold IsRtO'
  constructor
  · rintro ⟨e, h, q⟩; cases h; exact ⟨rfl, q⟩
  · rintro ⟨rfl, q⟩; exact ⟨_, rfl, q⟩
@[simp] theorem isErO_err {k k' : Nat} {o : OD} {e : Env} : IsErO k o (.err k' e) ↔ k' = k ∧ Env.ow e 0 = some o := by
  unfold IsErO
  constructor
  · rintro ⟨e, h, q⟩; cases h; exact ⟨rfl, q⟩
  · rintro ⟨rfl, q⟩; exact ⟨_, rfl, q⟩
theorem runM_of {b : CS} {n : Nat} {o o' : OD} {ds : List D} {d : D} (h : IsRtO' d o' (b.ev (some (Sl.ow o) :: args ds (n - 1)))) : runM b n o ds = .ok d o' := by
  obtain ⟨e, h, q⟩ := h
  exact runM_rt h q
theorem runM_errOf {b : CS} {n : Nat} {o o' : OD} {ds : List D} {k : Nat} (h : IsErO k o' (b.ev (some (Sl.ow o) :: args ds (n - 1)))) : runM b n o ds = .err k o' := by
  obtain ⟨e, h, q⟩ := h
  exact runM_er h q
@[simp] theorem args0 {n : Nat} : args [] n = List.replicate n none := by unfold args; simp
instance decN {v : Int} : Decidable (isN v) := Classical.propDecidable _

/-! ### what the methods do: l = line but the last, v the last -/
theorem isN_iff {v : Int} : isN v ↔ (decide (1 ≤ v) && decide (v ≤ tp 60 - 1)) = true := by
  unfold isN
  rw [Bool.and_eq_true, decide_eq_true_iff, decide_eq_true_iff]
  omega
theorem s_isN {v : Int} (h : isN v) : f_is_number [.int v] = .ok (.bool true) := by rw [s_is_number, isN_iff.mp h]
theorem s_isN' {v : Int} (h : ¬ isN v) : f_is_number [.int v] = .ok (.bool false) := by
  rw [s_is_number]
  have := mt isN_iff.mpr h
  simp only [Bool.not_eq_true] at this
  rw [this]
theorem e_check_number {v : Int} (h : ¬ isN v) : f_check_number [.int v] = .err 0 := by
  refine runF_errOf ?_
  simp [b_check_number, s_isN' h]
theorem e_check_base {v : Int} (h : ¬ (2 ≤ v ∧ v ≤ 99)) : f_check_base [.int v] = .err 0 := by
  refine runF_errOf ?_
  have : (decide (2 ≤ v) && decide (v ≤ 99)) = false := by
    rw [← Bool.not_eq_true, Bool.and_eq_true, decide_eq_true_iff, decide_eq_true_iff]; exact h
  simp [b_check_base, s_is_int, this]
section
variable {l p : List Int} {v : Int}
theorem r_number : f_row_number (.row (l ++ [v]) p) [] = .ok (.int v) (.row (l ++ [v]) p) := by
  refine runM_of ?_
  simp [b_row_number, atI_last]
theorem r_len : f_row_len (.row l p) [] = .ok (.int p.length) (.row l p) := by
  refine runM_of ?_
  simp [b_row_len]
theorem r_grown {m : Int} (hl : l.length < 90000) (hp : p.length < 90000) : f_row_grown (.row (l ++ [v]) p) [.int m] = if isN m then .ok (.int m) (.row (l ++ [v] ++ [m]) (p ++ [v])) else .err 0 (.row (l ++ [v]) p) := by
  split
  · rename_i h
    refine runM_of ?_
    have h1 : p.length < 100000 := by omega
    have h2 : l.length + 1 < 100000 := by omega
    simp [b_row_grown, s_isN h, atI_last, h1, h2]
  · rename_i h
    refine runM_errOf ?_
    simp [b_row_grown, s_isN' h]
theorem nm_no (m : Str) (h : decide (m ≠ "past" ∧ m ≠ "line") = true) : (m ≠ "past" ∧ m ≠ "line") := of_decide_eq_true h
theorem r_multiply {c : Int} (hl : l.length < 90000) (hp : p.length < 90000) (hv : isN v) : f_row_multiply (.row (l ++ [v]) p) [.int c] = if 2 ≤ c ∧ c ≤ 99 then (if isN (v * c) then .ok (.int (v * c)) (.row (l ++ [v] ++ [v * c]) (p ++ [v])) else .err 0 (.row (l ++ [v]) p)) else .err 0 (.row (l ++ [v]) p) := by
  have G := r_grown (l := l) (p := p) (v := v) (m := v * c) hl hp
  have nm : (("grown" : Str) ≠ "past" ∧ ("grown" : Str) ≠ "line") := by decide +kernel
  by_cases h : 2 ≤ c ∧ c ≤ 99
  · rw [if_pos h]
    have u1 : sm v = true := sm_tp (k := 60) (by decide) (by have := tp_pos 60; have := hv.1; omega) (by have := hv.2; omega)
    have u2 : sm c = true := sm_tp (k := 60) (by decide) (by have := tp_pos 60; omega) (by have : (99 : Int) < tp 60 := by decide
                                                                                           omega)
    by_cases q : isN (v * c)
    · rw [if_pos q] at G ⊢
      refine runM_of ?_
      simp [b_row_multiply, s_check_base h.1 h.2, atI_last, fMul_i u1 u2, nm.1, nm.2, G]
    · rw [if_neg q] at G ⊢
      refine runM_errOf ?_
      simp [b_row_multiply, s_check_base h.1 h.2, atI_last, fMul_i u1 u2, nm.1, nm.2, G]
  · rw [if_neg h]
    refine runM_errOf ?_
    simp [b_row_multiply, e_check_base h]
theorem r_add {c : Int} (hl : l.length < 90000) (hp : p.length < 90000) : f_row_add (.row (l ++ [v]) p) [.int c] = if isN c then (if isN (v + c) then .ok (.int (v + c)) (.row (l ++ [v] ++ [v + c]) (p ++ [v])) else .err 0 (.row (l ++ [v]) p)) else .err 0 (.row (l ++ [v]) p) := by
  have G := r_grown (l := l) (p := p) (v := v) (m := v + c) hl hp
  have nm : (("grown" : Str) ≠ "past" ∧ ("grown" : Str) ≠ "line") := by decide +kernel
  by_cases h : isN c
  · rw [if_pos h]
    by_cases q : isN (v + c)
    · rw [if_pos q] at G ⊢
      refine runM_of ?_
      simp [b_row_add, s_check_number h, atI_last, nm.1, nm.2, G]
    · rw [if_neg q] at G ⊢
      refine runM_errOf ?_
      simp [b_row_add, s_check_number h, atI_last, nm.1, nm.2, G]
  · rw [if_neg h]
    refine runM_errOf ?_
    simp [b_row_add, e_check_number h]
theorem r_undo {m : Int} : f_row_undo (.row (l ++ [v] ++ [m]) (p ++ [v])) [] = .ok (.int v) (.row (l ++ [v]) p) := by
  refine runM_of ?_
  have h : ((l ++ [v] ++ [m]).dropLast) = l ++ [v] := List.dropLast_concat
  have h2 : l ++ [v, m] = l ++ [v] ++ [m] := by simp
  simp [b_row_undo, h2, h, atI_last, -List.append_assoc]
theorem r_undo0 : f_row_undo (.row l []) [] = .err 4 (.row l []) := by
  refine runM_errOf ?_
  simp [b_row_undo]
theorem r_first_digits {k : Int} (hv : isN v) (h1 : 1 ≤ k) (h2 : k ≤ 4) : f_row_first_digits (.row (l ++ [v]) p) [.int k] = .ok (.int (fst v k)) (.row (l ++ [v]) p) := by
  refine runM_of ?_
  simp [b_row_first_digits, s_check_count h1 h2, atI_last, s_first_of (isT_N hv) h1]
/-- the places at which p holds -/
def plc (q : Int → Bool) (l : List Int) : List Int := ((List.range l.length).filter fun i => q (l[i]?.getD 0)).map fun (i : Nat) => (i : Int)
theorem r_places {b : Int} (hb : isB b) (hl : ∀ x ∈ l, isN x) (hn : l.length ≤ 90000) : f_row_places (.row l p) [.int b] = .ok (.list ((plc (fun x => beg x b) l).map .int)) (.row l p) := by
  refine runM_of ?_
  have he : enumD (l.map PyData.int) = (List.range l.length).map fun (i : Nat) => PyData.tuple [.int i, .int (l[i]?.getD 0)] := by
    unfold enumD
    rw [List.length_map]
    apply List.map_congr_left
    intro i hi
    rw [List.mem_range] at hi
    congr 3
    rw [List.getD_eq_getElem?_getD, List.getElem?_map, List.getElem?_eq_getElem hi]
    rfl
  have LC : lcF (CGc.tup [2, 3]).g.ev (CT.of (CE.call 2 f_begins_of (CA.cons (CE.var 3) (CA.cons (CE.var 1) CA.nil)))).ev (CE.var 2).ev [none, some (.im (.int b)), none, none] ((List.range l.length).map fun (i : Nat) => PyData.tuple [.int i, .int (l[i]?.getD 0)]) = some ((plc (fun x => beg x b) l).map .int) := by
    rw [lcF_of (p := fun (i : Nat) => beg (l[i]?.getD 0) b) (q := fun (i : Nat) => PyData.int i)]
    · unfold plc
      rw [List.map_map]; rfl
    · intro i hi
      rw [List.mem_range] at hi
      have hx : isN (l[i]?.getD 0) := by
        rw [List.getElem?_eq_getElem hi]
        exact hl _ (List.getElem_mem hi)
      have := beg_T (isT_N hx) hx.1 hb
      exact ⟨_, by simp; rfl, _, by simp [this]; rfl, fun _ => ⟨_, by simp; rfl⟩⟩
  have h1 : l.length ≤ 100000 := by omega
  simp [b_row_places, s_check_beginning hb, h1, he, LC]
end
end FD
set_option Elab.async false
set_option linter.all false
set_option maxRecDepth 100000
set_option maxHeartbeats 4000000
noncomputable section
namespace FD
open PySem L2 PyProof.Rows
def newR (r : RF) (d : D) (e1 : Env) : R D := match r, d with
  | .ok _, .int n => .ok (.dict []) e1
  | .err k, _ => .err k e1
  | _, _ => .bad
/-- Row(e), a value that none asks for -/
def CE.rowV (a : CE) : CE where
  t := fun G W => fun σ H Q => RowFacts G → tMakeE G.row (spInit G) (WE W) (tCons (a.t G W) tNil) σ H Q
  ev := fun env => (a.ev env).bind fun d e1 => newR (f_check_number [d]) d e1
  ok := fun {G B σ env H I W Q} S P F => a.ok S (Post.bind P fun d e1 v H1 I1 S1 ex1 r1 P1 => by
    intro x dx hx hdx hne
    have k1 : ∀ c o, H1 c = some o → upd (upd H1 dx (.own x)) x (.ins G.row dx []) c = some o := fun c o e => by rw [upd_ne (ne_of_none e hx), upd_ne (ne_of_none e hdx)]; exact e
    refine ⟨x, dx, v, I1, d, rfl, upd_same, S1.ih.trans k1, r1, S1.ni hx, F, ?_⟩
    cases q : f_check_number [d] with
    | bad => rw [q] at P1; exact P1.elim
    | err k =>
      rw [q] at P1
      have P1 : Post G B σ W (Rep G) I1 Q (.err k e1) := by cases d <;> exact P1
      exact fun H' kp => P1 H' I1 (S1.step (Ex.refl _) (S1.ih.trans (fun c o e => kp _ _ (k1 c o e))) (fun b o h1 h2 => by rw [h1] at h2; cases h2) fun c o e => kp _ _ (k1 c o e)) (Ex.refl _)
    | ok d' =>
      rw [q] at P1
      cases r1 with
      | int n =>
        have P1 : Post G B σ W (Rep G) I1 Q (.ok (.dict []) e1) := P1
        intro H' a b gx ga gb ha hb hab kp
        have k2 : Ex H1 H' := fun c o e => kp c o (ne_of_none e hx) (k1 c o e)
        exact ⟨rfl, P1 _ H' I1 (S1.step (Ex.refl _) (S1.ih.trans k2) (fun b o h1 h2 => by rw [h1] at h2; cases h2) k2) (Ex.refl _) .obj⟩
      | _ => exact P1.elim)
  pu := false
  pok := fun p => by cases p
def tmpF (r : RM) (e : Env) : R D := match r with
  | .ok d _ => .ok d e
  | .err k _ => .err k e
  | .bad => .bad
/-- Row(c).m(x), x the name at slot j -/
def CE.rowM (φ : OD → List D → RM) (m : Str) (c : Int) (j : Nat) : CE where
  t := fun G W => fun σ H Q => RowFacts G → tMethE G.row m (spOfM G 1 φ) (WE W) (tMakeE G.row (spInit G) (WE W) (tCons ((CE.int c).t G W) tNil)) (tCons ((CE.var j).t G W) tNil) σ H Q
  ev := fun env => if lk (decide (m ≠ "past" ∧ m ≠ "line")) then (newR (f_check_number [.int c]) (.int c) env).bind fun _ e1 => (R.lift (Env.im e1 j) e1).bind fun d e2 => tmpF (φ (.row [c] []) [d]) e2 else .bad
  ok := fun {G B σ env H I W Q} S P F => by
    split at P
    · rename_i hm
      have hm := of_lk hm
      intro x dx hx hdx hne
      have k1 : ∀ c o, H c = some o → upd (upd H dx (.own x)) x (.ins G.row dx []) c = some o := fun c o e => by rw [upd_ne (ne_of_none e hx), upd_ne (ne_of_none e hdx)]; exact e
      refine ⟨x, dx, .int c, I, .int c, rfl, upd_same, S.ih.trans k1, .int c, S.ni hx, F, ?_⟩
      cases q : f_check_number [.int c] with
      | bad => rw [q] at P; exact P.elim
      | err k =>
        rw [q] at P
        have P : Post G B σ W (Rep G) I Q (.err k env) := P
        exact fun H' kp => P H' I (S.step (Ex.refl _) (S.ih.trans (fun c o e => kp _ _ (k1 c o e))) (fun b o h1 h2 => by rw [h1] at h2; cases h2) fun c o e => kp _ _ (k1 c o e)) (Ex.refl _)
      | ok d' =>
        rw [q] at P
        have P : Post G B σ W (Rep G) I Q ((R.lift (Env.im env j) env).bind fun d e2 => tmpF (φ (.row [c] []) [d]) e2) := P
        intro H2 a b gx ga gb ha hb hab kp
        have k2 : Ex H H2 := fun c o e => kp c o (ne_of_none e hx) (k1 c o e)
        have ax : a ≠ x := fun z => by rw [z, upd_same] at ha; cases ha
        have bx : b ≠ x := fun z => by rw [z, upd_same] at hb; cases hb
        have adx : a ≠ dx := fun z => by rw [z, upd_ne hne, upd_same] at ha; cases ha
        have bdx : b ≠ dx := fun z => by rw [z, upd_ne hne, upd_same] at hb; cases hb
        have ha1 : H a = none := by rw [upd_ne ax, upd_ne adx] at ha; exact ha
        have hb1 : H b = none := by rw [upd_ne bx, upd_ne bdx] at hb; exact hb
        have new : ∀ y ∈ [x, a, b], H y = none := fun y hy => by
          simp at hy
          rcases hy with rfl | rfl | rfl
          · exact hx
          · exact ha1
          · exact hb1
        have S2 : Sim G B σ env H2 I := S.step (Ex.refl _) (S.ih.trans k2) (fun b o h1 h2 => by rw [h1] at h2; cases h2) k2
        cases hj : Env.im env j with
        | none => rw [hj] at P; exact P.elim
        | some d =>
          rw [hj] at P
          have P : Post G B σ W (Rep G) I Q (tmpF (φ (.row [c] []) [d]) env) := P
          obtain ⟨v, h1, h2⟩ := S.getIm (Env.im_eq hj)
          have nd : [x, a, b].Nodup := by simp [ax.symm, bx.symm, hab]
          refine ⟨rfl, x, dx, rowFlds a b, rfl, gx, rowFlds_no hm.1 hm.2, v, h1, rfl, I, .ref x, [v], [d], .row [c] [], [x, a, b], rfl, S2.ih, .cons h2 .nil, .row gx ga gb, (by simp [OD.kind]), nd, (fun y hy => S.ni (new y hy)), ?_⟩
          have keep : ∀ {H' : Hp}, (∀ y z, H2 y = some z → y ∉ [x, a, b] → H' y = some z) → Ex H H' := fun k y z h => k y z (k2 y z h) fun hy => by rw [new y hy] at h; cases h
          have back : ∀ y, H2 y = none → H y = none := fun y hy => by
            cases z : H y with
            | none => rfl
            | some o => rw [k2 y o z] at hy; cases hy
          cases qq : φ (.row [c] []) [d] with
          | ok d2 o2 =>
            rw [qq] at P
            exact fun w H' I' e eh nw k ow r => P w H' I' (S.step e eh (fun y z h1 h2 => back y (nw y z h1 h2)) (keep k)) e r
          | err k o2 =>
            rw [qq] at P
            exact fun H' I' e eh nw k ow => P H' I' (S.step e eh (fun y z h1 h2 => back y (nw y z h1 h2)) (keep k)) e
          | bad => rw [qq] at P; exact P.elim
    · exact P.elim
  pu := false
  pok := fun p => by cases p

@[simp] theorem rowV_ev {a : CE} {env : Env} : (CE.rowV a).ev env = (a.ev env).bind fun d e1 => newR (f_check_number [d]) d e1 := Eq.trans rfl rfl
@[simp] theorem rowM_ev {φ : OD → List D → RM} {m : Str} {c : Int} {j : Nat} {env : Env} : (CE.rowM φ m c j).ev env = if lk (decide (m ≠ "past" ∧ m ≠ "line")) then (newR (f_check_number [.int c]) (.int c) env).bind fun _ e1 => (R.lift (Env.im e1 j) e1).bind fun d e2 => tmpF (φ (.row [c] []) [d]) e2 else .bad := Eq.trans rfl rfl
@[simp] theorem newR_ok {d : D} {n : Int} {e : Env} : newR (.ok d) (.int n) e = .ok (.dict []) e := Eq.trans rfl rfl
@[simp] theorem newR_err {d : D} {k : Nat} {e : Env} : newR (.err k) d e = .err k e := by cases d <;> exact Eq.trans rfl rfl
@[simp] theorem tmpF_ok {d : D} {o : OD} {e : Env} : tmpF (.ok d o) e = .ok d e := Eq.trans rfl rfl
@[simp] theorem tmpF_err {k : Nat} {o : OD} {e : Env} : tmpF (.err k o) e = .err k e := Eq.trans rfl rfl
section
variable {X : Cx} {G : Gm} {W : WX} {a e : Expr} {es : List Expr} {p np apos pos : Pos} {k k2 i n : Nat} {ca : CE}
theorem j_rowV (C : NCallee X.prog X.w X.K X.mg X.base G.row k (spInit G)) (o : Ok X G W) (F : RowFacts G) (hr : Room (k + 1) X.A) (he : PE X e (ca.t G W))
    (hg : Gl X "Row" := by rfl) (hs : starEach [e] X.env = (false, eval e X.env) :: starEach [] X.env := by rfl) (hpl : (backTo p (starEach [] X.env)).any (·.1) = false := by rfl) :
    PE X (.Call (.Name "Row" np) [e] [] p) ((CE.rowV ca).t G W) := by
  obtain ⟨f, fd, ps, Fn, hm, hb, hmg⟩ := C.ex
  have h := pe_makeE (pos := p) (p := np) hm Fn hr hg hmg hb (fun σ => passAt o.tk σ) (pa_cons he pa_nil hs) (by decide) hs hpl
  exact ⟨fun pins s σ H Q I q => h.run pins s σ H Q I (q F)⟩
theorem j_rowM {φ : OD → List D → RM} {m : Str} {c : Int} {j : Nat} {pl : Sem Bool} {x : Str} {xp : Pos} (C2 : MCallee X.prog X.w X.K X.mg X.base G.row m k2 (spOfM G 1 φ)) (C : NCallee X.prog X.w X.K X.mg X.base G.row k (spInit G)) (o : Ok X G W) (F : RowFacts G) (hr2 : Room k2 X.A) (hr : Room (k + 1) X.A)
    (he : PE X e ((CE.int c).t G W)) (hx : PE X (.Name x xp) ((CE.var j).t G W))
    (hg : Gl X "Row" := by rfl) (hs : starEach [e] X.env = (false, eval e X.env) :: starEach [] X.env := by rfl) (hpl : (backTo p (starEach [] X.env)).any (·.1) = false := by rfl)
    (hst : starEach [.Name x xp] X.env = (false, eval (.Name x xp) X.env) :: starEach [] X.env := by rfl) (hpl2 : (backTo pos (starEach [] X.env)).any (·.1) = false := by rfl)
    (ht : eval (.Call (.Attribute (.Call (.Name "Row" np) [e] [] p) m apos) [.Name x xp] [] pos) X.env = (do let ov ← eval (.Call (.Name "Row" np) [e] [] p) X.env; standAt apos.atName; let (f, first) ← holding [ov] (getMethod ov m pl); callWith pos f first (backTo pos (starEach [.Name x xp] X.env)) (backToKw pos (keywordEach [] X.env))) := by rfl) :
    PE X (.Call (.Attribute (.Call (.Name "Row" np) [e] [] p) m apos) [.Name x xp] [] pos) ((CE.rowM φ m c j).t G W) := by
  obtain ⟨f, fd, ps, Fn, hm, hb, hmg⟩ := C.ex
  have h := pe_makeE (pos := p) (p := np) hm Fn hr hg hmg hb (fun σ => passAt o.tk σ) (pa_cons he pa_nil hs) (by decide) hs hpl
  obtain ⟨f2, fd2, ps2, Fn2, hm2, hb2⟩ := C2.ex
  have h2 := pe_methE (pl := pl) h (by rw [o.hK]; exact F.cl) hm2 Fn2 hr2 hb2 (fun σ => passAt o.tk σ) (pa_cons hx pa_nil hst) hst hpl2 ht
  exact ⟨fun pins s σ H Q I q => h2.run pins s σ H Q I (q F)⟩
end
end FD
set_option Elab.async false
set_option linter.all false
set_option maxRecDepth 100000
set_option maxHeartbeats 4000000
noncomputable section
namespace FD
open PySem L2 PyProof.Rows
/-- nothing is let out -/
def wNo : WX := fun _ _ _ _ => False
/-- the ends of an except suite whose name stands at slot i -/
def endsS (i : Nat) (D : Ends) : Ends := { nx := fun σ H => D.nx (σ.set i none) H, rt := fun _ _ => False }
/-- what an except suite that reads as c asks of the exception that comes: the object is known from there on -/
def wAppS (G : Gm) (i : Nat) (c : CS) (D : Ends) : WX := fun cls d σ H => d = none ∧ PySem.W.exmOne G.K cls (.ref (G.cls 5)) = some true ∧ ∀ a, H a = none → c.t G wNo (endsS i D) (σ.set i (some (.ref a))) (upd H a (ExK cls a))
/-- xs.append(f(e)), e at slot i, xs at slot j -/
def sufA (i j : Nat) (φ : List D → RF) : CS := CS.append j (CE.call 1 φ (CA.cons (CE.var i) CA.nil))
def tryAF (i j : Nat) (φ : List D → RF) (r : F) : F := match r with
  | .nx e => .nx e
  | .rt d e => .rt d e
  | .err k e => if lk (decide (k < 5)) then match Env.owL e j, φ [exc k] with
      | some ds, .ok (.str y) => if lk (decide (ds.length < 100000)) && canSet (e.set j (some (.ow (.lst (ds ++ [.str y]))))) i then .nx ((e.set j (some (.ow (.lst (ds ++ [.str y]))))).set i none) else .bad
      | _, _ => .bad
    else .bad
  | .bad => .bad
theorem canSet_other {e : Env} {i j : Nat} {o : Option Sl} (ij : i ≠ j) (h : canSet (e.set j o) i = true) : canSet e i = true := by
  unfold canSet at h ⊢
  rw [List.length_set, List.getElem?_set_ne (Ne.symm ij)] at h
  exact h
theorem canSet_im {e : Env} {i j : Nat} {d : D} {o : Option Sl} (ij : i ≠ j) (h : i < e.length) : canSet ((e.set i (some (.im d))).set j o) i = true := by
  unfold canSet
  rw [List.length_set, List.length_set, List.getElem?_set_ne (Ne.symm ij), List.getElem?_set_self h]
  simp [h]
theorem sufA_ev {i j : Nat} {φ : List D → RF} {e : Env} {k : Nat} {ds : List D} {y : Str} (ij : i ≠ j) (hi : i < e.length) (h1 : Env.owL e j = some ds) (h2 : φ [exc k] = .ok (.str y)) (h3 : lk (decide (ds.length < 100000)) = true) :
    (sufA i j φ).ev (e.set i (some (.im (exc k)))) = .nx ((e.set i (some (.im (exc k)))).set j (some (.ow (.lst (ds ++ [.str y]))))) := by
  have g1 : Env.owL (e.set i (some (.im (exc k)))) j = some ds := by
    unfold Env.owL at h1 ⊢
    rw [List.getElem?_set_ne ij]
    exact h1
  have g2 : Env.im (e.set i (some (.im (exc k)))) i = some (exc k) := by
    unfold Env.im
    rw [List.getElem?_set_self hi]
  unfold sufA
  rw [append_ev, g1]
  show ((CE.call 1 φ (CA.cons (CE.var i) CA.nil)).ev (e.set i (some (.im (exc k))))).toF _ = _
  have g3 : (CE.call 1 φ (CA.cons (CE.var i) CA.nil)).ev (e.set i (some (.im (exc k)))) = .ok (.str y) (e.set i (some (.im (exc k)))) := by
    have g4 : (CA.cons (CE.var i) CA.nil).ev (e.set i (some (.im (exc k)))) = .ok [exc k] (e.set i (some (.im (exc k)))) := by
      show (R.lift (Env.im (e.set i (some (.im (exc k)))) i) (e.set i (some (.im (exc k))))).bind _ = _
      rw [g2]
      rfl
    rw [call_ev, g4]
    show (φ [exc k]).to _ = _
    rw [h2]
    rfl
  rw [g3]
  show (R.lift (Env.owL (e.set i (some (.im (exc k)))) j) (e.set i (some (.im (exc k))))).toF _ = _
  rw [g1]
  show (if lk (decide (ds.length < 100000)) = true then _ else _) = _
  rw [if_pos h3]
/-- try: b except DigitError as e: xs.append(f(e)); e at slot i, xs at slot j -/
def CS.tryApp (i j : Nat) (b : CS) (φ : List D → RF) : CS where
  t := fun G W D σ H => ExFacts G → i ≠ j → b.t G (wAppS G i (sufA i j φ) D) D σ H
  ev := fun env => tryAF i j φ (b.ev env)
  ok := fun {G B σ env H I W D} S P EF ij => b.ok S (by
    cases q : b.ev env with
    | nx e => rw [q] at P; exact P
    | rt d e => rw [q] at P; exact P
    | bad => rw [q] at P; exact P
    | err k e =>
      rw [q] at P
      simp only [tryAF] at P
      split at P
      · rename_i hk
        have hk := of_lk hk
        intro σ' H' I' S' e1
        refine ⟨rfl, EF.exm k hk, fun a ha => ?_⟩
        cases h1 : Env.owL e j with
        | none => rw [h1] at P; exact P.elim
        | some ds =>
          rw [h1] at P
          cases h2 : φ [exc k] with
          | bad => rw [h2] at P; exact P.elim
          | err k2 => rw [h2] at P; exact P.elim
          | ok d =>
            rw [h2] at P
            cases d with
            | str y =>
              simp only at P
              split at P
              · rename_i hc
                rw [Bool.and_eq_true] at hc
                obtain ⟨S2, e2⟩ := S'.alloc (o := ExK (.ref (G.cls k)) a) ha
                have ci := canSet_other ij hc.2
                have S3 := S2.setIm (i := i) (d := exc k) (Rep.exc upd_same) ci
                refine (sufA i j φ).ok S3 ?_
                rw [sufA_ev ij (canSet_lt ci) h1 h2 hc.1]
                intro σ5 H5 I5 S5 e5
                have S6 := S5.clear' none (canSet_im ij (canSet_lt ci))
                rw [List.set_comm _ _ ij, List.set_set] at S6
                exact P _ _ _ S6 ((e1.trans e2).trans e5)
              · exact P.elim
            | _ => exact P.elim
      · exact P.elim)
@[simp] theorem tryApp_ev {i j : Nat} {p : CS} {φ : List D → RF} {env : Env} : (CS.tryApp i j p φ).ev env = tryAF i j φ (p.ev env) := Eq.trans rfl rfl
@[simp] theorem tryAF_nx {i j : Nat} {φ : List D → RF} {env : Env} : tryAF i j φ (.nx env) = .nx env := Eq.trans rfl rfl
end FD
set_option Elab.async false
set_option linter.all false
set_option maxRecDepth 100000
set_option maxHeartbeats 4000000
noncomputable section
namespace FD
open PySem PySem.Spec L2 PyProof.Rows

/-! ### a def called where an exception is handled: it lets none out -/
def xNo : XK := fun _ _ _ => False
structure RoomE (k : Nat) (A : Around) : Prop where
  d3 : A.depth + 3 * k + 5 < recursionLimit
  u16 : A.units + 16 * k + 200 < cLine
theorem RoomE.of {k : Nat} {A : Around} (r : Room k A) : RoomE k A := ⟨r.dp, r.un⟩
theorem RoomE.suite {k : Nat} {A : Around} (r : RoomE k A) (a : Addr) : RoomE k (A.mark (some (.ref a))) := ⟨r.d3, r.u16⟩
theorem RoomE.less {j k : Nat} {A : Around} (r : RoomE k A) (h : j ≤ k) : RoomE j A := ⟨(by have := r.d3; omega), (by have := r.u16; omega)⟩
theorem RoomE.inner {k : Nat} {A : Around} (r : RoomE (k + 1) A) (env : PySem.Env) : RoomE k (A.deeper env) := by
  constructor
  · have h := r.d3
    show A.depth + 1 + 3 * k + 5 < recursionLimit
    omega
  · have h := r.u16
    show A.units + 3 + 16 * k + 200 < cLine
    omega
section
variable {P : Program} {w : World} {K : PySem.W.Frag} {mg : Str → Option Value} {base : Heap}
structure FnE (P : Program) (w : World) (K : PySem.W.Frag) (mg : Str → Option Value) (base : Heap) (k : Nat) (f : Addr) (fd : FuncData) (ps : List Str) (sp : Sp) : Prop where
  ln : ∀ vs H Q, sp vs H Q xNo → vs.length = ps.length
  go : ∀ (A : Around) (outer : List PySem.Env) (s : Shared) (H : Hp) (ar : Args) (us : List Value) (vs : List V) (Q : VK), RoomE k A → Env0 P w K mg base A outer s H → BindsTo s fd ar (ps.zip us) → Vals vs us → sp vs H Q xNo →
    codeAny (model P w) A (.call (.ref f) ar) (CR (L2.CX P w) outer P w H s Q xNo) s
/-- the body's context: as for any def, but an exception may be handled around it -/
def cxE (P : Program) (w : World) (K : PySem.W.Frag) (mg : Str → Option Value) (base : Heap) (N : List Str) (qual : Str) (scope : Scope) (f : Addr) (cd : Value) (A : Around) (outer : List PySem.Env) (s : Shared) (H : Hp) : Cx :=
  { cxOf (L2.CX P w) P w K mg base N qual scope f cd A outer s H xNo with calm := false }
theorem invE {N ps : List Str} {qual : Str} {scope : Scope} {f : Addr} {cd : Value} {A : Around} {outer : List PySem.Env} {s s1 : Shared} {H : Hp} {us : List Value} {vs : List V} (S : FnScope N ps scope) (e0 : Env0 P w K mg base A outer s H) (hl : vs.length = ps.length) (r : Vals vs us)
    (x : InCallC s s.heap.objs.size (bindL (envOfC qual scope s.heap.objs.size f cd).kindOf (ps.zip us) fun _ => none) (cellsFrom (s.heap.objs.size + 1) scope.names []) (bindC (envOfC qual scope s.heap.objs.size f cd).kindOf (ps.zip us) fun _ => none) s1) :
    Inv (cxE P w K mg base N qual scope f cd A outer s H) [] (start N vs) H s1 := by
  have e1 : Env0 P w K mg base { A with handled := none } outer s H := ⟨e0.frames, e0.mod, e0.bs, e0.bsz, e0.funs, e0.frf, e0.hok, e0.bare⟩
  have I := L2.inv_start (CX := L2.CX P w) (E := xNo) (A := { A with handled := none }) S rfl e1 hl r x
  have o := I.ok
  exact ⟨⟨o.mod, o.kind, o.glob, o.blt, o.above, o.inj, o.has, o.cab, fun z => Bool.noConfusion (show false = true from z), Around.frames_deeper e0.frames, o.stk, o.exf, o.bs, o.bsz, o.noex, o.exfs, o.funs, o.frf⟩,
    I.os, I.bare, I.base, I.loc, I.cell, I.free, I.freeC, I.pin, I.hok, I.len⟩
theorem Fun_okE {x qual : Str} {st : Stmt} {f : Addr} {fd : FuncData} {N ps : List Str} {k : Nat} {sp : Sp} (F : Fun K x qual st f fd) (S : FnScope N ps (defScope st)) (ln : ∀ vs H Q, sp vs H Q xNo → vs.length = ps.length)
    (hbody : ∀ (cdv : Value) (A : Around) (outer : List PySem.Env) (s : Shared) (H : Hp) (vs : List V) (Q : VK), RoomE k (A.deeper (envOfC qual (defScope st) s.heap.objs.size f cdv)) → sp vs H Q xNo →
      ∃ t, PSs (cxE P w K mg base N qual (defScope st) f cdv A outer s H) (defBody st) t ∧ t { nx := fun _ H' => Q .non H', rt := Q } (start N vs) H) : FnE P w K mg base (k + 1) f fd ps sp := by
  obtain ⟨oc, od, kV, doc, pm, an, cdv, ct, osl, rfl, lk, hcd⟩ := F.ex
  refine ⟨ln, fun A outer s H ar us vs Q hr e0 hb r hsp => ?_⟩
  have n1 := ln _ _ _ hsp
  have kx : K.In s.heap := e0.mod.kin.keeps fun b o z => (e0.bs b o z).1
  have nl : s.heap.NoLimit := e0.mod.nolimit.keeps fun b o z => (e0.bs b o z).1
  have par : ∀ p ∈ ps.zip us, (defScope st).names.lookup p.1 = some .local ∨ ((defScope st).names.lookup p.1 = some .cell ∧ ((cellsFrom (s.heap.objs.size + 1) (defScope st).names []).lookup p.1).isSome = true) := by
    intro ⟨n, v⟩ hp
    rcases S.par n (List.of_mem_zip hp).1 with z | z
    · exact Or.inl z
    · exact Or.inr ⟨z, PySem.W.cellsFrom_some _ _ _ (Or.inl z)⟩
  have dep : A.depth < recursionLimit := by have := hr.d3; omega
  refine codeAny_call_function dep (kx _ _ lk) rfl S.co S.gen rfl (PySem.W.codeRec_of kx hcd) (hb _ _ _ _ ?_)
  refine wpAny_newFunctionEnv_cells S.kind par fun env he s1 x => ?_
  subst he
  refine ⟨nl.keeps x.toInCall.keep, codeAny_func ?_⟩
  obtain ⟨t, ht, hq⟩ := hbody cdv A outer s H vs Q (hr.inner _) hsp
  have I : Inv (cxE P w K mg base N qual (defScope st) f cdv A outer s H) [] (start N vs) H s1 := invE S e0 n1 r x
  refine wpAny_mono (ht.run [] s1 (start N vs) H _ I hq) (fun fl s' hs => ?_) fun e s' hs => hs
  have fin : ∀ {σ' : L2.St} {H' : Hp} {v : V} {u : Value}, Inv (cxE P w K mg base N qual (defScope st) f cdv A outer s H) [] σ' H' s' → RelV v u → Q v H' → L2.CE outer P w H s Q u s' :=
    fun {σ' H' v u} J rv q => ⟨v, H', J.os, J.bare, J.base, J.hok, rv, q⟩
  match fl, hs with
  | .ret u, ⟨v, σ', H', J, rv, q⟩ => exact fin J rv q
  | .next, ⟨σ', H', J, q⟩ => exact fin (v := V.non) (u := Value.none) J rfl q
  | .brk, ⟨_, _, _, q⟩ => exact q.elim
  | .cont, ⟨_, _, _, q⟩ => exact q.elim
theorem run_fnE {X : Cx} {pins : List (Addr × Obj)} {σ : L2.St} {H : Hp} {s : Shared} {k : Nat} {f : Addr} {fd : FuncData} {ps : List Str} {sp : Sp} {Q : VK} {us : List Value} {vs : List V} (F : FnE X.prog X.w X.K X.mg X.base k f fd ps sp) (hr : RoomE k X.A) (hb : Binds X.K fd ps [])
    (I : Inv X pins σ H s) (r : Vals vs us) (h : sp vs H Q xNo) : wpAny (model X.prog X.w) X.A (call (.ref f) us) (EP X pins σ Q) X.xe s := by
  have n1 : us.length = ps.length := by rw [← Vals.length r]; exact F.ln _ _ _ h
  have b := hb s us I.kIn (by rw [List.append_nil]; exact n1)
  rw [List.append_nil] at b
  refine wpAny_call (codeAny_mono (F.go X.A X.stack s H ⟨us, []⟩ us vs Q hr I.env0 b r h) fun r s' hq => ?_)
  match r, hq with
  | .error e, ⟨_, _, _, _, _, _, _, _, _, _, _, _, z⟩ => exact z.elim
  | .ok (.ret u), hq => exact I.after hq
  | .ok .next, hq => exact hq.elim
  | .ok .brk, hq => exact hq.elim
  | .ok .cont, hq => exact hq.elim
structure CalleeE (P : Program) (w : World) (K : PySem.W.Frag) (mg : Str → Option Value) (base : Heap) (x : Str) (k : Nat) (sp : Sp) : Prop where
  ex : ∃ (f : Addr) (fd : FuncData) (ps : List Str), FnE P w K mg base k f fd ps sp ∧ mg x = some (.ref f) ∧ PySem.W.keepIn K (.ref f) = true ∧ Binds K fd ps []
end

/-! ### a body there -/
structure OkE (X : Cx) (G : Gm) : Prop where
  hK : X.K = G.K
  hu : X.A.units + 64 < cLine
  nd : X.N.Nodup
theorem fn_runE {P : Program} {w : World} {K : PySem.W.Frag} {mg : Str → Option Value} {base : Heap} {x qual : Str} {st : Stmt} {f : Addr} {fd : FuncData} {N ps : List Str} {k n : Nat} {b : CS} {G : Gm} (hG : K = G.K) (F : Fun K x qual st f fd) (S : FnScope N ps (defScope st)) (hn : ps.length = n)
    (h : ∀ (cdv : Value) (A : Around) (outer : List PySem.Env) (s : Shared) (H : Hp), OkE (cxE P w K mg base N qual (defScope st) f cdv A outer s H) G → PSs (cxE P w K mg base N qual (defScope st) f cdv A outer s H) (defBody st) (b.t G (fun cls d _ H => xNo cls d H))) :
    FnE P w K mg base (k + 1) f fd ps (spOf G n (runF b N.length)) :=
  Fun_okE F S (fun vs H Q h => by rw [hn]; exact h.1) fun cdv A outer s H vs Q hr hsp => ⟨_, h cdv A outer s H ⟨hG, (by have q := hr.u16; show (A.deeper _).units + 64 < cLine; omega), S.nd⟩, run_ok hsp⟩
section
variable {X : Cx} {G : Gm} {W : WX} {a b e : Expr} {ca cb : CE} {pos p apos : Pos}
theorem e_asg {i : Nat} {x : Str} (o : OkE X G) (he : PE X e (ca.t G W)) (hi : X.N[i]? = some x := by rfl) (hx : Loc X.env.scope x := by first | exact Or.inl rfl | exact Or.inr rfl) (hs : swapsWith e (some (.Name x p)) pos.line X.env = pure false := by rfl) (hf : X.fn x = true ∨ X.env.scope.names.lookup x = some .local := by first | exact .inl rfl | exact .inr rfl | assumption) :
    PS X (.Assign [.Name x p] e pos) ((CS.asg i ca).t G W) := ps_set o.nd hi hx he hs hf
theorem e_isEx {p2 : Pos} {j : Nat} {x : Str} (o : OkE X G) (EF : ExFacts G) (hm : X.mg "isinstance" = none) (hx : PE X (.Name x p2) (tC (clsVal G j))) (ha : PE X e (ca.t G W)) (hg : Gl X "isinstance" := by rfl)
    (he : starEach [e, .Name x p2] X.env = (false, eval e X.env) :: starEach [.Name x p2] X.env := by rfl) (he2 : starEach [.Name x p2] X.env = (false, eval (.Name x p2) X.env) :: starEach [] X.env := by rfl) (hpl : (backTo pos (starEach [.Name x p2] X.env)).any (·.1) = false := by rfl) :
    PE X (.Call (.Name "isinstance" p) [e, .Name x p2] [] pos) ((CE.isEx j ca).t G W) := by
  have hc : CallR X (.builtin "isinstance") (rIsX G.K) := by rw [← o.hK]; exact call_isX
  exact PE.under EF (pe_callB hc hg hm (by decide +kernel) (pa_cons ha (pa_cons hx pa_nil he2) he) (by decide) (by decide) he hpl)
theorem e_ne (o : OkE X G) (ha : PE X a (ca.t G W)) (hb : PE X b (cb.t G W)) : PT X (.Compare a [.NotEq] [b] pos) ((CT.of (CE.ne ca cb)).t G W) := by
  have h : OpR X (compareOp .NotEq) (rNeD G.K) := by rw [← o.hK]; exact op_neD o.hu
  exact pt_cmpR h ha hb (nomark _)
theorem e_countF (o : OkE X G) (ha : PE X a (ca.t G W)) (hb : PE X b (cb.t G W))
    (hbase : attributeBase a "count" X.env (eval a X.env) = eval a X.env := by rfl)
    (hfew : ((backTo pos (starEach (b :: []) X.env)).all (fun x => !x.1) && (backToKw pos (keywordEach [] X.env)).all (fun x => x.1.isSome)
      && decide ((b :: []).length + ([] : List Keyword).length + (if ([] : List Keyword).isEmpty then 0 else 1) < 30)) = true := by rfl)
    (hline : (apos.endLine == pos.line) = true := by rfl) (hs : starEach (b :: []) X.env = (false, eval b X.env) :: starEach [] X.env := by rfl) (hplain : (backTo pos (starEach [] X.env)).any (·.1) = false := by rfl) :
    PE X (.Call (.Attribute a "count" apos) [b] [] pos) ((CE.countF ca cb).t G W) := by
  have hm : MtR X "list.count" (rCntF G.K) := by rw [← o.hK]; exact mt_countF
  exact ownE (t := fun K => tBM K "list" (rCntF G.K) (ca.t G W) (tCons (cb.t G W) tNil)) o.hK (pe_bm PySem.F.plainAttrs_list PySem.F.slot_list_count PySem.F.type_list_count hm ha (pa_cons hb pa_nil hs) hbase hfew hline hs hplain)
theorem e_index (o : OkE X G) (ha : PE X a (ca.t G W)) (hb : PE X b (cb.t G W))
    (hbase : attributeBase a "index" X.env (eval a X.env) = eval a X.env := by rfl)
    (hfew : ((backTo pos (starEach (b :: []) X.env)).all (fun x => !x.1) && (backToKw pos (keywordEach [] X.env)).all (fun x => x.1.isSome)
      && decide ((b :: []).length + ([] : List Keyword).length + (if ([] : List Keyword).isEmpty then 0 else 1) < 30)) = true := by rfl)
    (hline : (apos.endLine == pos.line) = true := by rfl) (hs : starEach (b :: []) X.env = (false, eval b X.env) :: starEach [] X.env := by rfl) (hplain : (backTo pos (starEach [] X.env)).any (·.1) = false := by rfl) :
    PE X (.Call (.Attribute a "index" apos) [b] [] pos) ((CE.index ca cb).t G W) := by
  have hm : MtR X "list.index" (rIndex G.K) := by rw [← o.hK]; exact mt_index
  exact ownE (t := fun K => tBM K "list" (rIndex G.K) (ca.t G W) (tCons (cb.t G W) tNil)) o.hK (pe_bm PySem.F.plainAttrs_list PySem.F.slot_list_index PySem.F.type_list_index hm ha (pa_cons hb pa_nil hs) hbase hfew hline hs hplain)
theorem e_ix (o : OkE X G) (ha : PE X a (ca.t G W)) (hb : PE X b (cb.t G W)) (hs : PlainIx b := by intro _ _; rfl) : PE X (.Subscript a b pos) ((CE.ix ca cb).t G W) := by
  have h : IxR X (rIx G.K) := by rw [← o.hK]; exact ix_seq
  exact pe_ix h ha hb hs
theorem e_call {es : List Expr} {A : CA} {x : Str} {k n : Nat} {φ : List D → RF} (C : CalleeE X.prog X.w X.K X.mg X.base x k (spOf G n φ)) (hr : RoomE k X.A) (ha : PA X (e :: es) (A.t G wNo)) (hg : Gl X x) (hdb : (x == ("__debug__" : Str)) = false)
    (he : starEach (e :: es) X.env = (false, eval e X.env) :: starEach es X.env) (hpl : (backTo pos (starEach es X.env)).any (·.1) = false) : PE X (.Call (.Name x p) (e :: es) [] pos) ((CE.call n φ A).t G wNo) := by
  obtain ⟨f, fd, ps, F, hm, hk, hb⟩ := C.ex
  refine ⟨fun pins s σ H Q I h => ?_⟩
  refine wpAny_Call_Name_kw (ld_glob I hg hm ?_ hdb)
  refine PySem.W.callWith_K (h₀ := X.base) I.ok.mod.kin hk (thn (ha.run pos pins s σ H _ I h) fun us s1 ⟨vs, H1, I1, r, q⟩ => ⟨I1.kIn, ?_⟩) he hpl
  exact run_fnE F hr hb I1 r q
end

/-! ### the except suite that hands the caught exception to a def -/
section
variable {X : Cx} {pins : List (Addr × Obj)} {σ : L2.St} {H : Hp} {s : Shared}
theorem onSuite (I : Inv X pins σ H s) (a : Addr) : Inv (X.suite a (X.pn ++ pins)) [] σ H s :=
  ⟨I.ok.suite a (X.pn ++ pins), I.os, I.bare, I.base, I.loc, I.cell, I.free, I.freeC, fun p hp => I.pin p ((List.append_nil (X.pn ++ pins)) ▸ hp), I.hok, I.len⟩
theorem offSuite {a : Addr} {pn' : List (Addr × Obj)} (I : Inv (X.suite a (X.pn ++ pins)) pn' σ H s) (ok : X.Ok) : Inv X pins σ H s :=
  ⟨ok, I.os, I.bare, I.base, I.loc, I.cell, I.free, I.freeC, fun p hp => I.pin p (List.mem_append_left pn' hp), I.hok, I.len⟩
end
theorem met_app {X : Cx} {G : Gm} {x n : Str} {c : CS} {i : Nat} {suite : List Stmt} {b0 : Stmt} {np pos' : Pos} {pins : List (Addr × Obj)} {D : Ends}
    (ok : X.Ok) (hst : X.stack = X.env :: X.outer) (hf : X.env.frame = some X.env.locals) (hex : X.ex = []) (hN : X.N.Nodup) (hi : X.N[i]? = some n) (hln : X.env.kindOf n = some .local) (hK : X.K = G.K) (hc : Names X x (.ref (G.cls 5)))
    (hsu : ∀ (a : Addr) (pn : List (Addr × Obj)), PSs (X.suite a pn) (b0 :: suite) (c.t G wNo))
    (u : Value) (s' : Shared) (hx : XE (X.tr (X.pn ++ pins) (met X [.ExceptHandler (some (.Name x np)) (some n) (b0 :: suite) pos'] (SP X pins D))) (wAppS G i c D) u s') :
    met X [.ExceptHandler (some (.Name x np)) (some n) (b0 :: suite) pos'] (SP X pins D) u s' := by
  obtain ⟨a, B, sI, pins', σ', H', cls, d, hu, J', nb, up, sky, na, hos, ag, hd, hm, hk⟩ := hx
  subst hu
  subst hd
  have J : Inv X pins σ' H' sI := J'.ofTry ok
  have frames : X.A.frames = some (X.env :: X.outer) := by rw [ok.frames, hst]
  have sky1 : Sky B (X.env :: X.outer) a (Zc cls none) X.env.locals s'.heap := by rw [← hst]; exact sky
  unfold met
  refine Sky.land Zc.steady frames hf sky1 fun hA fly upA => ?_
  obtain ⟨o1, v1, g1, z1, d1⟩ := fly.there
  have JA : Inv X pins σ' H' { s' with heap := hA } := J.landed nb fly.1 (up.trans upA) hos ag
  have far : a ∉ frs (X.env :: X.outer) := fun hm => by
    obtain ⟨_, o2, g2, nf⟩ := fly.2.2.1.mem hm
    rw [g1] at g2
    cases g2
    exact nf _ d1
  have nL : a ≠ X.env.locals := fun z => far (List.mem_filterMap.mpr ⟨X.env, List.mem_cons_self, by rw [hf, z]⟩)
  have nF : a ∉ X.fs := fun h => by
    obtain ⟨e, he, q⟩ := List.mem_filterMap.mp h
    exact far (List.mem_filterMap.mpr ⟨e, List.mem_cons_of_mem _ he, q⟩)
  have gI : sI.heap.get? a = none := by
    cases q : sI.heap.get? a with
    | none => rfl
    | some o2 =>
      have z := nb a o2 q (by rw [hst]; exact far)
      rw [fly.2.1] at z
      cases z
  have g0 : X.s_0.heap.get? a = none := by
    cases q : X.s_0.heap.get? a with
    | none => rfl
    | some o2 =>
      obtain ⟨o3, z⟩ := J.base.there a o2 q (by rw [hex]; exact fun z => nomatch z)
      rw [gI] at z
      cases z
  have nc : ∀ y k, X.env.cells.lookup y = some k → k ≠ a := fun y k e z => by
    obtain ⟨_, o2, g2, _⟩ := J.cell y k e
    rw [z, gI] at g2
    cases g2
  have npin : ∀ p ∈ X.pn ++ pins, p.1 ≠ a := fun p hp z => by
    have g2 := (J.pin p hp).1
    rw [z, gI] at g2
    cases g2
  have SA := JA.suite g1 d1 na nL nF
  refine wpAny_handleBy_cons (codeAny_handlers_test ?_) (fun q => nomatch q)
  have ty : PySem.W.Looks (model X.prog X.w) hA (typeOf (.ref a)) cls := fun A Q E s k q => wpAny_typeOf_ref (k _ _ g1) (by rw [z1.1]; exact q)
  have yes := PySem.W.exm_one (M := model X.prog X.w) (JA.kIn) ty (by rw [hK]; exact hm)
  have nm : ∀ {Q : Value → Shared → Prop} {E : Value → Shared → Prop}, Q (.ref (G.cls 5)) { s' with heap := hA } → wpAny (model X.prog X.w) (X.A.mark (some (.ref a))) (eval (.Name x np) X.env) Q E { s' with heap := hA } := by
    intro Q E q
    obtain ⟨k1, k2, k3⟩ := hc
    rcases k3 with k3 | ⟨k3, k4, k5⟩
    · exact ld_glob (X := X.suite a ((a, o1) :: (X.pn ++ pins))) SA k1 k3 q k2
    · exact ld_blt (X := X.suite a ((a, o1) :: (X.pn ++ pins))) SA k1 k3 k4 q k5 k2
  refine nm (yes.here ?_)
  refine codeAny_handlers_suite_as ?_
  refine HandSPX.lands_againZ fly fun hB flyB upB => ?_
  obtain ⟨o2, v2, g2, z2, d2⟩ := flyB.there
  have JB : Inv X pins σ' H' { s' with heap := hB } := J.landed nb flyB.1 ((up.trans upA).trans upB) hos ag
  have SB := JB.suite g2 d2 na nL nF
  refine store_ok (X := X.suite a ((a, o2) :: (X.pn ++ pins))) (v := .ref a) SB hN hi (.inl hln) rfl (fun sC SC => ?_) (.inr hln)
  have pinA := (SC.pin (a, o2) (List.mem_append_left _ List.mem_cons_self)).1
  have S7 : Inv X pins _ H' sC := SC.unsuite ok
  have S8 : Inv X pins _ (upd H' a (ExK cls a)) sC := track S7 g0 na nL nc npin ⟨⟨o2, v2, pinA, z2, d2⟩, ⟨o2, pinA⟩, fun _ _ ⟨o, v, q, r⟩ k => ⟨o, v, k o q, r⟩⟩
  have go := (hsu a (X.pn ++ pins)).run [] sC _ _ (endsS i D) (onSuite S8 a) (hk a na)
  refine wpAny_mono go (fun f sD hsp => ?_) (fun _ _ z => False.elim z)
  match f, hsp with
  | .next, ⟨σ6, H6, S6, q6⟩ =>
    show wpAny _ _ _ _ _ _
    exact gone_ok (offSuite S6 ok) hN hi hln fun sE S9 => ⟨_, _, S9, q6⟩
  | .brk, ⟨_, _, _, z⟩ => exact z.elim
  | .cont, ⟨_, _, _, z⟩ => exact z.elim
  | .ret _, ⟨_, _, _, _, _, z⟩ => exact z.elim
theorem s_tryApp {X : Cx} {G : Gm} {W : WX} {x n xs f : Str} {i j k : Nat} {φ : List D → RF} {body : List Stmt} {np pos pos' p1 p2 p3 p4 p5 p6 apos : Pos} {sb : CS} (C : CalleeE X.prog X.w X.K X.mg X.base f k (spOf G 1 φ)) (hr : Room k X.A) (o : Ok X G W) (EF : ExFacts G) (gd : X.mg x = some (.ref (G.cls 5)))
    (hb : ∀ (W : WX) (pn : List (Addr × Obj)) (xe : Value → Shared → Prop), Ok (X.tr pn xe) G W → PassesOwn (model X.prog X.w) X.A X.env xe → PSs (X.tr pn xe) body (sb.t G W))
    (hst : X.stack = X.env :: X.outer := by rfl) (hf : X.env.frame = some X.env.locals := by rfl) (hex : X.ex = [] := by rfl) (hi : X.N[i]? = some n := by rfl) (hj : X.N[j]? = some xs := by rfl) (hln : X.env.kindOf n = some .local := by rfl) (hij : i ≠ j := by decide)
    (hg : Gl X x := by rfl) (hdb : (x == ("__debug__" : Str)) = false := by decide) (hv : Vis X.env.scope n := by first | exact Or.inl rfl | exact Or.inr (Or.inl rfl) | exact Or.inr (Or.inr rfl))
    (hw : Vis X.env.scope xs := by first | exact Or.inl rfl | exact Or.inr (Or.inl rfl) | exact Or.inr (Or.inr rfl)) (hd1 : (n == ("__debug__" : Str)) = false := by decide) (hd2 : (n == ("__classdict__" : Str)) = false := by decide)
    (hd3 : (xs == ("__debug__" : Str)) = false := by decide) (hd4 : (xs == ("__classdict__" : Str)) = false := by decide) (hgf : Gl X f := by rfl) (hdf : (f == ("__debug__" : Str)) = false := by decide)
    (hbase : attributeBase (.Name xs p1) "append" X.env (eval (.Name xs p1) X.env) = eval (.Name xs p1) X.env := by rfl) (hline : (apos.endLine == p5.line) = true := by rfl)
    (hsw : swapsWith (.Call (.Attribute (.Name xs p1) "append" apos) [.Call (.Name f p2) [.Name n p3] [] p4] [] p5) none p6.line X.env = pure false := by rfl) :
    PS X (.Try body [.ExceptHandler (some (.Name x np)) (some n) [.Expr (.Call (.Attribute (.Name xs p1) "append" apos) [.Call (.Name f p2) [.Name n p3] [] p4] [] p5) p6] pos'] [] [] pos) ((CS.tryApp i j sb φ).t G W) := by
  have hsu : ∀ (a : Addr) (pn : List (Addr × Obj)), PSs (X.suite a pn) [.Expr (.Call (.Attribute (.Name xs p1) "append" apos) [.Call (.Name f p2) [.Name n p3] [] p4] [] p5) p6] ((sufA i j φ).t G wNo) := fun a pn => by
    have v1 : PE (X.suite a pn) (.Name n p3) (tVar i) := pe_var hi hv hd1 hd2
    have v2 : PE (X.suite a pn) (.Name xs p1) (tVar j) := pe_var hj hw hd3 hd4
    have c1 : PE (X.suite a pn) (.Call (.Name f p2) [.Name n p3] [] p4) ((CE.call 1 φ (CA.cons (CE.var i) CA.nil)).t G wNo) := e_call (X := X.suite a pn) C ((RoomE.of hr).suite a) (pa_cons v1 pa_nil rfl) hgf hdf rfl rfl
    exact pss_one (ownS (X := X.suite a pn) (t := fun K => tDrop (tBM K "list" rAppend (tVar j) (tCons ((CE.call 1 φ (CA.cons (CE.var i) CA.nil)).t G wNo) tNil))) o.hK (ps_expr (pe_bm PySem.F.plainAttrs_list PySem.F.slot_list_append PySem.F.type_list_append mt_append v2 (pa_cons c1 pa_nil rfl) hbase rfl hline rfl rfl) hsw))
  refine ⟨fun pins s σ H D I q => ?_⟩
  have ok := I.ok
  have q2 : sb.t G (wAppS G i (sufA i j φ) D) D σ H := q EF hij
  apply wpAny_Try_except
  have mt : Takes (X.tr (X.pn ++ pins) (met X [.ExceptHandler (some (.Name x np)) (some n) [.Expr (.Call (.Attribute (.Name xs p1) "append" apos) [.Call (.Name f p2) [.Name n p3] [] p4] [] p5) p6] pos'] (SP X pins D))) (wAppS G i (sufA i j φ) D) :=
    met_app ok hst hf hex o.nd hi hln o.hK ⟨hg, hdb, .inl gd⟩ hsu
  have st := (hb (wAppS G i (sufA i j φ) D) (X.pn ++ pins) _ ⟨o.hK, mt, o.calm, o.hu, o.nd⟩ PassesOwn.looking).run [] s σ H D (I.toTry _) q2
  refine wpAny_mono st (fun f s1 z => ?_) (fun _ _ z => z)
  match f, z with
  | .next, ⟨σ1, H1, J, z⟩ => exact wpAny_execs_nil ⟨σ1, H1, J.ofTry ok, z⟩
  | .brk, ⟨σ1, H1, J, z⟩ => exact ⟨σ1, H1, J.ofTry ok, z⟩
  | .cont, ⟨σ1, H1, J, z⟩ => exact ⟨σ1, H1, J.ofTry ok, z⟩
  | .ret u, ⟨v, σ1, H1, J, r, z⟩ => exact ⟨v, σ1, H1, J.ofTry ok, r, z⟩
end FD
set_option Elab.async false
set_option linter.all false
set_option maxRecDepth 100000
set_option maxHeartbeats 4000000
noncomputable section
namespace FD
open PySem L2 PyProof.Rows PySem.Spec

def b_law_powers_7 : CS :=
    (CS.ret (CE.call 2 f_number_at (CA.cons (CE.int 1) (CA.cons (CE.var 1) CA.nil))))
def b_law_powers_6 : CS :=
    (CS.seq (CS.ite (CT.of (CE.eq (CE.var 0) (CE.int 18))) (CS.ret (CE.call 3 f_multiple_places (CA.cons (CE.int 7) (CA.cons (CE.int 1) (CA.cons (CE.var 1) CA.nil))))) CS.nil)
    b_law_powers_7)
def b_law_powers_5 : CS :=
    (CS.seq (CS.ite (CT.of (CE.eq (CE.var 0) (CE.int 17))) (CS.ret (CE.call 2 f_powers_with (CA.cons (CE.int 2) (CA.cons (CE.var 1) CA.nil)))) CS.nil)
    b_law_powers_6)
def b_law_powers_4 : CS :=
    (CS.seq (CS.ite (CT.of (CE.eq (CE.var 0) (CE.int 16))) (CS.ret (CE.call 3 f_never (CA.cons (CE.int 2) (CA.cons (CE.int 1) (CA.cons (CE.var 1) CA.nil))))) CS.nil)
    b_law_powers_5)
def b_law_powers_3 : CS :=
    (CS.seq (CS.ite (CT.of (CE.eq (CE.var 0) (CE.int 15))) (CS.ret (CE.call 2 f_digit_table (CA.cons (CE.int 2) (CA.cons (CE.var 1) CA.nil)))) CS.nil)
    b_law_powers_4)
def b_law_powers_2 : CS :=
    (CS.seq (CS.ite (CT.of (CE.eq (CE.var 0) (CE.int 14))) (CS.ret (CE.call 3 f_waits (CA.cons (CE.int 2) (CA.cons (CE.int 1) (CA.cons (CE.var 1) CA.nil))))) CS.nil)
    b_law_powers_3)
def b_law_powers_1 : CS :=
    (CS.seq (CS.ite (CT.of (CE.eq (CE.var 0) (CE.int 13))) (CS.ret (CE.call 3 f_first_power (CA.cons (CE.int 2) (CA.cons (CE.int 1) (CA.cons (CE.var 1) CA.nil))))) CS.nil)
    b_law_powers_2)
def b_law_powers : CS :=
    (CS.seq (CS.ite (CT.of (CE.eq (CE.var 0) (CE.int 12))) (CS.ret (CE.call 3 f_power_places (CA.cons (CE.int 2) (CA.cons (CE.int 1) (CA.cons (CE.var 1) CA.nil))))) CS.nil)
    b_law_powers_1)
def f_law_powers : List D → RF := runF b_law_powers 2

def b_law_counted_12 : CS :=
    (CS.ret (CE.call 2 f_law_powers (CA.cons (CE.var 0) (CA.cons (CE.var 1) CA.nil))))
def b_law_counted_11 : CS :=
    (CS.seq (CS.ite (CT.of (CE.eq (CE.var 0) (CE.int 11))) (CS.ret (CE.call 2 f_roots_with (CA.cons (CE.int 1) (CA.cons (CE.var 1) CA.nil)))) CS.nil)
    b_law_counted_12)
def b_law_counted_10 : CS :=
    (CS.seq (CS.ite (CT.of (CE.eq (CE.var 0) (CE.int 10))) (CS.ret (CE.call 3 f_count_multiples (CA.cons (CE.int 7) (CA.cons (CE.int 1) (CA.cons (CE.var 1) CA.nil))))) CS.nil)
    b_law_counted_11)
def b_law_counted_9 : CS :=
    (CS.seq (CS.ite (CT.of (CE.eq (CE.var 0) (CE.int 9))) (CS.ret (CE.call 2 f_stretch (CA.cons (CE.int 1) (CA.cons (CE.var 1) CA.nil)))) CS.nil)
    b_law_counted_10)
def b_law_counted_8 : CS :=
    (CS.seq (CS.ite (CT.of (CE.eq (CE.var 0) (CE.int 8))) (CS.ret (CE.call 3 f_never (CA.cons (CE.int 2) (CA.cons (CE.var 1) (CA.cons (CE.int 5) CA.nil))))) CS.nil)
    b_law_counted_9)
def b_law_counted_7 : CS :=
    (CS.seq (CS.ite (CT.of (CE.eq (CE.var 0) (CE.int 7))) (CS.ret (CE.call 2 f_roots (CA.cons (CE.int 1) (CA.cons (CE.var 1) CA.nil)))) CS.nil)
    b_law_counted_8)
def b_law_counted_6 : CS :=
    (CS.seq (CS.ite (CT.of (CE.eq (CE.var 0) (CE.int 6))) (CS.ret (CE.call 2 f_squares (CA.cons (CE.int 1) (CA.cons (CE.var 1) CA.nil)))) CS.nil)
    b_law_counted_7)
def b_law_counted_5 : CS :=
    (CS.seq (CS.ite (CT.of (CE.eq (CE.var 0) (CE.int 5))) (CS.ret (CE.call 3 f_sums (CA.cons (CE.int 1) (CA.cons (CE.int 2) (CA.cons (CE.var 1) CA.nil))))) CS.nil)
    b_law_counted_6)
def b_law_counted_4 : CS :=
    (CS.seq (CS.ite (CT.of (CE.eq (CE.var 0) (CE.int 4))) (CS.ret (CE.call 3 f_quotients (CA.cons (CE.int 1) (CA.cons (CE.int 2) (CA.cons (CE.var 1) CA.nil))))) CS.nil)
    b_law_counted_5)
def b_law_counted_3 : CS :=
    (CS.seq (CS.ite (CT.of (CE.eq (CE.var 0) (CE.int 3))) (CS.ret (CE.call 3 f_products (CA.cons (CE.int 1) (CA.cons (CE.int 2) (CA.cons (CE.var 1) CA.nil))))) CS.nil)
    b_law_counted_4)
def b_law_counted_2 : CS :=
    (CS.seq (CS.ite (CT.of (CE.eq (CE.var 0) (CE.int 2))) (CS.ret (CE.rowM f_row_first_digits "first_digits" 12345 1)) CS.nil)
    b_law_counted_3)
def b_law_counted_1 : CS :=
    (CS.seq (CS.ite (CT.of (CE.eq (CE.var 0) (CE.int 1))) (CS.ret (CE.call 2 f_longer (CA.cons (CE.int 1) (CA.cons (CE.var 1) CA.nil)))) CS.nil)
    b_law_counted_2)
def b_law_counted : CS :=
    (CS.seq (CS.ite (CT.of (CE.eq (CE.var 0) (CE.int 0))) (CS.ret (CE.call 2 f_first_digits (CA.cons (CE.int 12345) (CA.cons (CE.var 1) CA.nil)))) CS.nil)
    b_law_counted_1)
def f_law_counted : List D → RF := runF b_law_counted 2

def b_law_based_9 : CS :=
    (CS.ret (CE.ite (CT.of (CE.eq (CE.var 0) (CE.int 9))) (CE.call 3 f_multiple_places (CA.cons (CE.var 1) (CA.cons CE.non (CA.cons CE.non CA.nil)))) (CE.call 3 f_count_multiples (CA.cons (CE.var 1) (CA.cons CE.non (CA.cons CE.non CA.nil))))))
def b_law_based_8 : CS :=
    (CS.seq (CS.ite (CT.of (CE.eq (CE.var 0) (CE.int 8))) (CS.ret (CE.call 2 f_first_multiple (CA.cons (CE.var 1) (CA.cons CE.non CA.nil)))) CS.nil)
    b_law_based_9)
def b_law_based_7 : CS :=
    (CS.seq (CS.ite (CT.of (CE.eq (CE.var 0) (CE.int 7))) (CS.ret (CE.rowM f_row_multiply "multiply" 1 1)) CS.nil)
    b_law_based_8)
def b_law_based_6 : CS :=
    (CS.seq (CS.ite (CT.of (CE.eq (CE.var 0) (CE.int 6))) (CS.ret (CE.call 2 f_powers_with (CA.cons (CE.var 1) (CA.cons CE.non CA.nil)))) CS.nil)
    b_law_based_7)
def b_law_based_5 : CS :=
    (CS.seq (CS.ite (CT.of (CE.eq (CE.var 0) (CE.int 5))) (CS.ret (CE.call 3 f_never (CA.cons (CE.var 1) (CA.cons CE.non (CA.cons CE.non CA.nil))))) CS.nil)
    b_law_based_6)
def b_law_based_4 : CS :=
    (CS.seq (CS.ite (CT.of (CE.eq (CE.var 0) (CE.int 4))) (CS.ret (CE.call 2 f_digit_table (CA.cons (CE.var 1) (CA.cons CE.non CA.nil)))) CS.nil)
    b_law_based_5)
def b_law_based_3 : CS :=
    (CS.seq (CS.ite (CT.of (CE.eq (CE.var 0) (CE.int 3))) (CS.ret (CE.call 3 f_longest_wait (CA.cons (CE.var 1) (CA.cons CE.non (CA.cons CE.non CA.nil))))) CS.nil)
    b_law_based_4)
def b_law_based_2 : CS :=
    (CS.seq (CS.ite (CT.of (CE.eq (CE.var 0) (CE.int 2))) (CS.ret (CE.call 3 f_waits (CA.cons (CE.var 1) (CA.cons CE.non (CA.cons CE.non CA.nil))))) CS.nil)
    b_law_based_3)
def b_law_based_1 : CS :=
    (CS.seq (CS.ite (CT.of (CE.eq (CE.var 0) (CE.int 1))) (CS.ret (CE.call 3 f_first_power (CA.cons (CE.var 1) (CA.cons CE.non (CA.cons CE.non CA.nil))))) CS.nil)
    b_law_based_2)
def b_law_based : CS :=
    (CS.seq (CS.ite (CT.of (CE.eq (CE.var 0) (CE.int 0))) (CS.ret (CE.call 3 f_power_places (CA.cons (CE.var 1) (CA.cons CE.non (CA.cons CE.non CA.nil))))) CS.nil)
    b_law_based_1)
def f_law_based : List D → RF := runF b_law_based 2

def b_law_asked : CS :=
    (CS.seq (CS.asg 3 CE.non)
    (CS.seq (CS.tryK 4 3 (CS.ite (CT.of (CE.eq (CE.var 0) (CE.int 1))) (CS.expr (CE.call 2 f_law_counted (CA.cons (CE.var 1) (CA.cons (CE.var 2) CA.nil)))) (CS.ite (CT.of (CE.eq (CE.var 0) (CE.int 2))) (CS.expr (CE.call 2 f_law_based (CA.cons (CE.var 1) (CA.cons (CE.var 2) CA.nil)))) (CS.ite (CT.of (CE.eq (CE.var 1) (CE.int 0))) (CS.expr (CE.call 1 f_format_beginnings (CA.cons (CE.var 2) CA.nil))) (CS.ite (CT.of (CE.eq (CE.var 1) (CE.int 1))) (CS.expr (CE.call 3 f_longest_wait (CA.cons (CE.int 2) (CA.cons (CE.int 9) (CA.cons (CE.var 2) CA.nil))))) (CS.ite (CT.of (CE.eq (CE.var 1) (CE.int 2))) (CS.expr (CE.call 2 f_stretch (CA.cons (CE.int 123) (CA.cons (CE.var 2) CA.nil)))) (CS.ite (CT.of (CE.eq (CE.var 1) (CE.int 3))) (CS.expr (CE.call 2 f_roots_with (CA.cons (CE.int 2) (CA.cons (CE.var 2) CA.nil)))) (CS.expr (CE.call 3 f_product_example (CA.cons (CE.int 2) (CA.cons (CE.int 2) (CA.cons (CE.var 2) CA.nil))))))))))))
    (CS.ret (CE.ite (CT.of (CE.isN (CE.var 3) CE.non)) (CE.str "done") (CE.call 1 f_law_error (CA.cons (CE.var 3) CA.nil))))))
def f_law_asked : List D → RF := runF b_law_asked 5

def b_law_row : CS :=
    (CS.seq (CS.newRow 0 (CE.mul (CE.call 1 f_law_ten (CA.cons (CE.int 59) CA.nil)) (CE.int 5)))
    (CS.seq (CS.asgOw 1 (CL.disp CA.nil))
    (CS.seq (CS.asg 2 (CE.lst (CA.cons (CE.tup (CA.cons (CE.int 0) (CA.cons (CE.int 1) CA.nil))) (CA.cons (CE.tup (CA.cons (CE.int 0) (CA.cons (CE.int 100) CA.nil))) (CA.cons (CE.tup (CA.cons (CE.int 0) (CA.cons (CE.bl true) CA.nil))) (CA.cons (CE.tup (CA.cons (CE.int 0) (CA.cons CE.non CA.nil))) (CA.cons (CE.tup (CA.cons (CE.int 0) (CA.cons (CE.int 2) CA.nil))) (CA.cons (CE.tup (CA.cons (CE.int 1) (CA.cons (CE.int 0) CA.nil))) (CA.cons (CE.tup (CA.cons (CE.int 1) (CA.cons CE.non CA.nil))) (CA.cons (CE.tup (CA.cons (CE.int 2) (CA.cons (CE.int 0) CA.nil))) CA.nil))))))))))
    (CS.seq (CS.for (CI.list (CE.cat (CE.lst (CA.cons (CE.tup (CA.cons (CE.int 1) (CA.cons (CE.call 1 f_law_ten (CA.cons (CE.int 60) CA.nil)) CA.nil))) (CA.cons (CE.tup (CA.cons (CE.int 1) (CA.cons (CE.mul (CE.call 1 f_law_ten (CA.cons (CE.int 59) CA.nil)) (CE.int 5)) CA.nil))) CA.nil))) (CE.var 2))) (CG.tup [3, 4]) (CS.seq (CS.tryApp 5 1 (CS.ite (CT.of (CE.eq (CE.var 3) (CE.int 0))) (CS.expr (CE.meth 1 f_row_multiply 0 "multiply" (CA.cons (CE.var 4) CA.nil))) (CS.ite (CT.of (CE.eq (CE.var 3) (CE.int 1))) (CS.expr (CE.meth 1 f_row_add 0 "add" (CA.cons (CE.var 4) CA.nil))) (CS.expr (CE.meth 0 f_row_undo 0 "undo" CA.nil)))) f_law_error)
    (CS.ite (CT.or (CT.of (CE.ne (CE.meth 0 f_row_number 0 "number" CA.nil) (CE.mul (CE.call 1 f_law_ten (CA.cons (CE.int 59) CA.nil)) (CE.int 5)))) (CT.of (CE.ne (CE.lenRow f_row_len 0) (CE.int 0)))) (CS.ret (CE.bl false)) CS.nil)))
    (CS.freeze 1 (CS.ret (CE.andV (CE.eq (CE.var 1) (CE.cat (CE.ofL (CL.rep (CE.lst (CA.cons (CE.str "number") CA.nil)) (CE.int 9))) (CE.lst (CA.cons (CE.str "none") CA.nil)))) (CE.andV (CE.eq (CE.meth 1 f_row_add 0 "add" (CA.cons (CE.sub (CE.mul (CE.call 1 f_law_ten (CA.cons (CE.int 59) CA.nil)) (CE.int 5)) (CE.int 1)) CA.nil)) (CE.sub (CE.call 1 f_law_ten (CA.cons (CE.int 60) CA.nil)) (CE.int 1))) (CE.eq (CE.lenRow f_row_len 0) (CE.int 1))))))))))
def f_law_row : List D → RF := runF b_law_row 6

def b_law_L1_4 : CS :=
    (CS.ite (CT.of (CE.ne (CE.call 3 f_law_asked (CA.cons (CE.int 2) (CA.cons (CE.var 4) (CA.cons (CE.callM 1 f_law_pick 1 (CA.cons (CE.lst (CA.cons (CE.var 7) (CA.cons (CE.var 6) CA.nil))) CA.nil)) CA.nil)))) (CE.var 8))) (CS.ret (CE.bl false)) CS.nil)
def b_law_L1_3 : CS :=
    (CS.seq (CS.asg 8 (CE.ite (CT.of (CE.isIn (CE.var 4) (CE.tup (CA.cons (CE.int 0) (CA.cons (CE.int 1) (CA.cons (CE.int 2) (CA.cons (CE.int 3) (CA.cons (CE.int 8) (CA.cons (CE.int 9) (CA.cons (CE.int 10) CA.nil)))))))))) (CE.str "beginning") (CE.ite (CT.of (CE.eq (CE.var 4) (CE.int 7))) (CE.str "done") (CE.str "count"))))
    b_law_L1_4)
def b_law_L1_2 : CS :=
    (CS.seq (CS.for (CI.list (CE.lst (CA.cons CE.non (CA.cons (CE.sub (CE.var 7) (CE.int 1)) (CA.cons (CE.add (CE.var 6) (CE.int 1)) (CA.cons (CE.sub (CE.int 0) (CE.int 1)) (CA.cons (CE.bl true) (CA.cons (CE.str "2") CA.nil)))))))) (CG.name 5) (CS.ite (CT.of (CE.ne (CE.call 3 f_law_asked (CA.cons (CE.int 2) (CA.cons (CE.var 4) (CA.cons (CE.var 5) CA.nil)))) (CE.str "number"))) (CS.ret (CE.bl false)) CS.nil))
    b_law_L1_3)
def b_law_L1_1 : CS :=
    (CS.seq (CS.asg 7 (CE.ite (CT.of (CE.lt (CE.var 4) (CE.int 8))) (CE.int 2) (CE.int 1)))
    b_law_L1_2)
def b_law_L1 : CS :=
    (CS.seq (CS.asg 6 (CE.ite (CT.of (CE.lt (CE.var 4) (CE.int 8))) (CE.int 99) (CE.int 1000000)))
    b_law_L1_1)
def b_law_10 : CS :=
    (CS.ret (CE.andV (CE.eq (CE.ofL (CL.lc (CI.tup (CE.tup (CA.cons (CE.int 3) (CA.cons (CE.int 4) (CA.cons (CE.int 8) (CA.cons (CE.int 9) (CA.cons (CE.int 10000) CA.nil))))))) (CGc.name 13) CT.yes (CE.call 3 f_law_asked (CA.cons (CE.int 3) (CA.cons (CE.int 4) (CA.cons (CE.var 13) CA.nil)))))) (CE.lst (CA.cons (CE.str "none") (CA.cons (CE.str "done") (CA.cons (CE.str "done") (CA.cons (CE.str "none") (CA.cons (CE.str "beginning") CA.nil))))))) (CE.call 0 f_law_row CA.nil)))
def b_law_9 : CS :=
    (CS.seq (CS.ite (CT.of (CE.ne (CE.ofL (CL.lc (CI.tup (CE.tup (CA.cons (CE.int 1) (CA.cons (CE.int 2) (CA.cons (CE.int 3) (CA.cons (CE.int 4) (CA.cons (CE.int 5) CA.nil))))))) (CGc.name 12) CT.yes (CE.call 3 f_law_asked (CA.cons (CE.int 3) (CA.cons (CE.int 3) (CA.cons (CE.var 12) CA.nil)))))) (CE.cat (CE.lst (CA.cons (CE.str "none") CA.nil)) (CE.ofL (CL.rep (CE.lst (CA.cons (CE.str "done") CA.nil)) (CE.int 4)))))) (CS.ret (CE.bl false)) CS.nil)
    b_law_10)
def b_law_8 : CS :=
    (CS.seq (CS.ite (CT.of (CE.ne (CE.ofL (CL.lc (CI.tup (CE.tup (CA.cons (CE.int 2) (CA.cons (CE.int 3) CA.nil)))) (CGc.name 12) CT.yes (CE.call 3 f_law_asked (CA.cons (CE.int 3) (CA.cons (CE.int 2) (CA.cons (CE.var 12) CA.nil)))))) (CE.lst (CA.cons (CE.str "none") (CA.cons (CE.str "done") CA.nil))))) (CS.ret (CE.bl false)) CS.nil)
    b_law_9)
def b_law_7 : CS :=
    (CS.seq (CS.ite (CT.or (CT.of (CE.ne (CE.call 3 f_law_asked (CA.cons (CE.int 3) (CA.cons (CE.int 0) (CA.cons (CE.ofL (CL.rep (CE.lst (CA.cons (CE.int 9999) CA.nil)) (CE.int 20))) CA.nil)))) (CE.str "done"))) (CT.of (CE.ne (CE.var 9) (CE.lst (CA.cons (CE.str "count") (CA.cons (CE.str "count") (CA.cons (CE.str "none") (CA.cons (CE.str "none") (CA.cons (CE.str "done") CA.nil))))))))) (CS.ret (CE.bl false)) CS.nil)
    b_law_8)
def b_law_6 : CS :=
    (CS.seq (CS.asg 9 (CE.ofL (CL.lc (CI.tup (CE.tup (CA.cons CE.non (CA.cons (CE.int 301) (CA.cons (CE.int 53) (CA.cons (CE.int 62) (CA.cons (CE.int 63) CA.nil))))))) (CGc.name 11) CT.yes (CE.call 3 f_law_asked (CA.cons (CE.int 3) (CA.cons (CE.int 1) (CA.cons (CE.var 11) CA.nil)))))))
    b_law_7)
def b_law_5 : CS :=
    (CS.seq (CS.for (CI.list (CE.lst (CA.cons CE.non (CA.cons (CE.int 5) (CA.cons (CE.tup CA.nil) (CA.cons (CE.lst CA.nil) (CA.cons (CE.tup (CA.cons (CE.int 1) (CA.cons (CE.int 2) CA.nil))) (CA.cons (CE.lst (CA.cons (CE.int 0) CA.nil)) (CA.cons (CE.lst (CA.cons (CE.int 10000) CA.nil)) (CA.cons (CE.lst (CA.cons (CE.bl true) CA.nil)) (CA.cons (CE.lst (CA.cons (CE.str "1") CA.nil)) (CA.cons (CE.ofL (CL.rep (CE.lst (CA.cons (CE.int 1) CA.nil)) (CE.int 21))) (CA.cons (CE.lst (CA.cons (CE.int 1) (CA.cons CE.non CA.nil))) CA.nil))))))))))))) (CG.name 5) (CS.ite (CT.of (CE.ne (CE.call 3 f_law_asked (CA.cons (CE.int 3) (CA.cons (CE.int 0) (CA.cons (CE.var 5) CA.nil)))) (CE.str "beginning"))) (CS.ret (CE.bl false)) CS.nil))
    b_law_6)
def b_law_4 : CS :=
    (CS.seq (CS.for (CI.rng1 (CE.int 11)) (CG.name 4) b_law_L1)
    b_law_5)
def b_law_3 : CS :=
    (CS.seq (CS.ite (CT.or (CT.of (CE.ne (CE.ofL (CL.lc (CI.rng1 (CE.int 20)) (CGc.name 10) CT.yes (CE.call 3 f_law_asked (CA.cons (CE.int 1) (CA.cons (CE.var 10) (CA.cons (CE.ix (CE.var 2) (CE.var 10)) CA.nil)))))) (CE.ofL (CL.rep (CE.lst (CA.cons (CE.str "done") CA.nil)) (CE.int 20))))) (CT.of (CE.ne (CE.ofL (CL.lc (CI.rng1 (CE.int 20)) (CGc.name 10) CT.yes (CE.call 3 f_law_asked (CA.cons (CE.int 1) (CA.cons (CE.var 10) (CA.cons (CE.ix (CE.var 3) (CE.var 10)) CA.nil)))))) (CE.ofL (CL.rep (CE.lst (CA.cons (CE.str "done") CA.nil)) (CE.int 20)))))) (CS.ret (CE.bl false)) CS.nil)
    b_law_4)
def b_law_2 : CS :=
    (CS.seq (CS.for (CI.rng1 (CE.int 20)) (CG.name 4) (CS.for (CI.list (CE.lst (CA.cons CE.non (CA.cons (CE.sub (CE.ix (CE.var 3) (CE.var 4)) (CE.int 1)) (CA.cons (CE.add (CE.ix (CE.var 2) (CE.var 4)) (CE.int 1)) (CA.cons (CE.bl true) (CA.cons (CE.str "2") CA.nil))))))) (CG.name 5) (CS.ite (CT.of (CE.ne (CE.call 3 f_law_asked (CA.cons (CE.int 1) (CA.cons (CE.var 4) (CA.cons (CE.var 5) CA.nil)))) (CE.str "count"))) (CS.ret (CE.bl false)) CS.nil)))
    b_law_3)
def b_law_1 : CS :=
    (CS.seq (CS.asg 3 (CE.cat (CE.cat (CE.ofL (CL.rep (CE.lst (CA.cons (CE.int 1) CA.nil)) (CE.int 12))) (CE.ofL (CL.rep (CE.lst (CA.cons (CE.int 0) CA.nil)) (CE.int 5)))) (CE.lst (CA.cons (CE.int 1) (CA.cons (CE.int 1) (CA.cons (CE.int 0) CA.nil))))))
    b_law_2)
def b_law : CS :=
    (CS.seq (CS.asg 2 (CE.lst (CA.cons (CE.int 4) (CA.cons (CE.int 4) (CA.cons (CE.int 4) (CA.cons (CE.int 3) (CA.cons (CE.int 3) (CA.cons (CE.int 3) (CA.cons (CE.int 3) (CA.cons (CE.int 3) (CA.cons (CE.int 3) (CA.cons (CE.int 60) (CA.cons (CE.int 60) (CA.cons (CE.int 60) (CA.cons (CE.int 300) (CA.cons (CE.int 300) (CA.cons (CE.int 300) (CA.cons (CE.int 300) (CA.cons (CE.int 300) (CA.cons (CE.int 600) (CA.cons (CE.int 1000) (CA.cons (CE.int 1000000000) CA.nil))))))))))))))))))))))
    b_law_1)

end FD
set_option Elab.async false
set_option linter.all false
set_option maxRecDepth 100000
set_option maxHeartbeats 4000000
noncomputable section
namespace FD
open PySem L2 TL
/-! ### slots that hold values or nothing -/
def mI (o : Option D) : Option Sl := o.map Sl.im
def Free : Env → Nat → Prop
  | [], 0 => True
  | [], _ + 1 => False
  | _ :: _, 0 => False
  | some (.ow _) :: _, _ + 1 => False
  | _ :: r, n + 1 => Free r n
@[simp] theorem free_0 : Free [] 0 := trivial
@[simp] theorem free_n {r : Env} {n : Nat} : Free (none :: r) (n + 1) ↔ Free r n := Iff.rfl
@[simp] theorem free_i {d : D} {r : Env} {n : Nat} : Free (some (.im d) :: r) (n + 1) ↔ Free r n := Iff.rfl
@[simp] theorem free_m {o : Option D} {r : Env} {n : Nat} : Free (mI o :: r) (n + 1) ↔ Free r n := by cases o <;> exact Iff.rfl
theorem free_cons {r : Env} {n : Nat} (h : Free r (n + 1)) : ∃ o q, r = mI o :: q ∧ Free q n := by
  cases r with
  | nil => exact h.elim
  | cons s r =>
    cases s with
    | none => exact ⟨none, r, rfl, h⟩
    | some s =>
      cases s with
      | im d => exact ⟨some d, r, rfl, h⟩
      | ow _ => exact h.elim
theorem free_nil {r : Env} (h : Free r 0) : r = [] := by
  cases r with
  | nil => rfl
  | cons s r => exact h.elim
@[simp] theorem cs_m {o : Option D} {r : Env} : canSet (mI o :: r) 0 = true := by cases o <;> simp [mI]
@[simp] theorem stripS_m {o : Option D} : stripS (mI o) = mI o := by cases o <;> rfl
theorem free2 : ∀ {r : Env}, Free r 2 → ∃ a b, r = [mI a, mI b] := fun {r} h => by
  obtain ⟨a, q, e, h⟩ := free_cons h
  obtain ⟨b, q2, e2, h⟩ := free_cons h
  exact ⟨a, b, by rw [e, e2, free_nil h]⟩
theorem free4 {r : Env} (h : Free r 4) : ∃ a b c d, r = [mI a, mI b, mI c, mI d] := by
  obtain ⟨a, q, e, h⟩ := free_cons h
  obtain ⟨b, q2, e2, h⟩ := free_cons h
  obtain ⟨c, d, e3⟩ := free2 h
  exact ⟨a, b, c, d, by rw [e, e2, e3]⟩
theorem free8 {r : Env} (h : Free r 8) : ∃ a b c d e f g k, r = [mI a, mI b, mI c, mI d, mI e, mI f, mI g, mI k] := by
  obtain ⟨a, q, e, h⟩ := free_cons h
  obtain ⟨b, q2, e2, h⟩ := free_cons h
  obtain ⟨c, q3, e3, h⟩ := free_cons h
  obtain ⟨d, q4, e4, h⟩ := free_cons h
  obtain ⟨x, f, g, k, e5⟩ := free4 h
  exact ⟨a, b, c, d, x, f, g, k, by rw [e, e2, e3, e4, e5]⟩
@[simp] theorem ex_mI {d : D} : (∃ o, some (Sl.im d) = mI o) ↔ True := ⟨fun _ => trivial, fun _ => ⟨some d, rfl⟩⟩
@[simp] theorem ex_mN : (∃ o, (none : Option Sl) = mI o) ↔ True := ⟨fun _ => trivial, fun _ => ⟨none, rfl⟩⟩
@[simp] theorem ex_mM {a : Option D} : (∃ o, mI a = mI o) ↔ True := ⟨fun _ => trivial, fun _ => ⟨a, rfl⟩⟩
theorem rangeD_nat (n : Nat) : rangeD 0 1 n = (List.range n).map fun (i : Nat) => PyData.int i := by
  unfold rangeD
  apply List.map_congr_left
  intro j _
  show PyData.int (0 + (j : Int) * 1) = _
  congr 1; omega
end FD
set_option Elab.async false
set_option linter.all false
set_option maxRecDepth 100000
set_option maxHeartbeats 4000000
noncomputable section
namespace FD
open PySem L2 TL
section
variable {a b c e : CE} {A : CA} {l : CL} {env : Env} {i j : Nat}
@[simp] theorem parOw_ev : (CS.parOw i j l b).ev env = (l.ev env).toF fun ds e1 => if i < e1.length ∧ canSet (e1.set i (some (.ow (.lst ds)))) j = true ∧ noOw e1 = true ∧ b.pu = true then match b.ev e1 with
      | .ok d' e2 => .nx ((e2.set i (some (.ow (.lst ds)))).set j (some (.im d')))
      | _ => .bad
    else .bad := Eq.trans rfl rfl
@[simp] theorem extend_ev : (CS.extend i a).ev env = (R.lift (Env.owL env i) env).toF fun _ e0 => (a.ev e0).toF fun x e1 => (R.lift (Env.owL e1 i) e1).toF fun ds e2 => match x with
    | .list es => if lk (decide (ds.length + es.length < 100000)) then .nx (e2.set i (some (.ow (.lst (ds ++ es))))) else .bad
    | _ => .bad := Eq.trans rfl rfl
@[simp] theorem split_ev : (CE.split a b).ev env = (a.ev env).bind fun x e1 => match x with
    | .str z => (b.ev e1).bind fun y e2 => R.lift (fSplit z y) e2
    | _ => .bad := Eq.trans rfl rfl
@[simp] theorem partition_ev : (CE.partition a b).ev env = (a.ev env).bind fun x e1 => match x with
    | .str z => (b.ev e1).bind fun y e2 => R.lift (fPartition z y) e2
    | _ => .bad := Eq.trans rfl rfl
@[simp] theorem join_ev : (CE.join a b).ev env = (a.ev env).bind fun x e1 => match x with
    | .str z => (b.ev e1).bind fun y e2 => R.lift (fJoin z y) e2
    | _ => .bad := Eq.trans rfl rfl
@[simp] theorem countS_ev : (CE.countS a b).ev env = (a.ev env).bind fun x e1 => match x with
    | .str z => (b.ev e1).bind fun y e2 => R.lift (fCountS z y) e2
    | _ => .bad := Eq.trans rfl rfl
@[simp] theorem fmt_ev : (CE.fmt a).ev env = (a.ev env).bind fun x e1 => R.lift ((fFmt x).map .str) e1 := Eq.trans rfl rfl
@[simp] theorem js3_ev : (CE.js3 a b c).ev env = (a.ev env).bind fun x e1 => match x with
    | .str p => if lineOk (Str.empty ++ p).length then (b.ev e1).bind fun y e2 => match y with
      | .str q => if lineOk (Str.empty ++ p ++ q).length then (c.ev e2).bind fun z e3 => match z with
        | .str r => if lineOk (Str.empty ++ p ++ q ++ r).length then .ok (.str (Str.empty ++ p ++ q ++ r)) e3 else .bad
        | _ => .bad
        else .bad
      | _ => .bad
      else .bad
    | _ => .bad := Eq.trans rfl rfl
end
@[simp] theorem noOw_nil : noOw [] = true := Eq.trans rfl rfl
@[simp] theorem noOw_n {r : Env} : noOw (none :: r) = noOw r := by simp [noOw]
@[simp] theorem noOw_i {d : D} {r : Env} : noOw (some (.im d) :: r) = noOw r := by simp [noOw]
@[simp] theorem noOw_m {o : Option D} {r : Env} : noOw (mI o :: r) = noOw r := by cases o <;> simp [mI]
@[simp] theorem pu_call {n : Nat} {φ : List D → RF} {A : CA} : (CE.call n φ A).pu = A.pu := Eq.trans rfl rfl
@[simp] theorem pu_nil : CA.nil.pu = true := Eq.trans rfl rfl
end FD
set_option Elab.async false
set_option linter.all false
set_option maxRecDepth 100000
set_option maxHeartbeats 4000000
noncomputable section
namespace FD
open PySem L2 TL
@[simp] theorem fIx_t0 {a : D} {l : List D} : fIx (.tuple (a :: l)) (.int 0) = some a := atI_0 _ _
@[simp] theorem fIx_t1 {a b : D} {l : List D} : fIx (.tuple (a :: b :: l)) (.int 1) = some b := atI_1 _ _ _
def isK (z : Int) : Prop := 0 ≤ z ∧ z < tp 40
theorem sm_K {z : Int} (h : isK z) : sm z = true := sm_tp (k := 40) (by decide) (by have := h.1; have := tp_pos 40; omega) (by have := h.2; omega)
theorem sm_KK {a b : Int} (h : isK a) (h' : isK b) : sm (a * b) = true := by
  have h1 : 0 ≤ a * b := Int.mul_nonneg h.1 h'.1
  have h2 : a * b ≤ tp 40 * tp 40 := Int.mul_le_mul (Int.le_of_lt h.2) (Int.le_of_lt h'.2) h'.1 (Int.le_of_lt (tp_pos 40))
  rw [← tp_add (by decide) (by decide)] at h2
  exact sm_tp (k := 80) (by decide) (by have := tp_pos 80; omega) h2
def crs (ln ld hn hd f l : Int) (p : Int × Int) : Bool := decide (f * p.1 * hd < hn * p.2) && decide (ln * p.2 < l * p.1 * ld)
def tpD (p : Int × Int) : D := .tuple [.int p.1, .int p.2]
theorem s_crosses {ln ld hn hd f l : Int} {p : Int × Int} (h1 : isK ln) (h2 : isK ld) (h3 : isK hn) (h4 : isK hd) (h5 : isK f) (h6 : isK l) (h7 : isK p.1) (h8 : isK p.2) :
    f_crosses [.tuple [.int ln, .int ld], .tuple [.int hn, .int hd], .int f, .int l, tpD p] = .ok (.bool (crs ln ld hn hd f l p)) := by
  obtain ⟨u, v⟩ := p
  refine runF_of ?_
  simp only at h7 h8
  simp [b_crosses, args, tpD, fMul_i (sm_K h5) (sm_K h7), fMul_i (sm_KK h5 h7) (sm_K h4), fMul_i (sm_K h3) (sm_K h8), fMul_i (sm_K h1) (sm_K h8), fMul_i (sm_K h6) (sm_K h7), fMul_i (sm_KK h6 h7) (sm_K h2), crs]
def scl : List (Int × Int) := ((List.range 12).map fun (k : Nat) => ((1 : Int), tp (12 + (k : Int) * -1))) ++ (rg 0 13).map fun z => (tp z, (1 : Int))
theorem scl_K : ∀ p ∈ scl, isK p.1 ∧ isK p.2 := by
  have one : isK 1 := ⟨by decide, by decide⟩
  have tk : ∀ z : Int, z < 40 → isK (tp z) := fun z h => ⟨Int.le_of_lt (tp_pos z), by
    rcases Int.lt_or_le z 0 with q | q
    · rw [tp_neg (by omega)]; decide
    · exact tp_lt q h⟩
  intro p hp
  unfold scl at hp
  rcases List.mem_append.mp hp with h | h
  · obtain ⟨k, hk, rfl⟩ := List.mem_map.mp h
    exact ⟨one, tk _ (by omega)⟩
  · obtain ⟨z, hz, rfl⟩ := List.mem_map.mp h
    have := mem_rg.mp hz
    exact ⟨tk _ (by omega), one⟩
theorem s_scales : f_scales [] = .ok (.list (scl.map tpD)) := by
  refine runF_of ?_
  have r12 : rngOk 12 = true := rngOk_is (by decide) (by decide)
  have r0 : rngOk 0 = true := rngOk_is (by decide) (by decide)
  have r13 : rngOk 13 = true := rngOk_is (by decide) (by decide)
  have fn : fNeg (.int 1) = some (.int (-1)) := rfl
  have e12 : rangeD 12 (-1) 12 = ((List.range 12).map fun (k : Nat) => (12 + (k : Int) * -1)).map PyData.int := by
    unfold rangeD
    rw [List.map_map]
    rfl
  have e13 : rangeD 0 1 13 = (rg 0 13).map PyData.int := rangeD_rg 0 13
  have l12 : ((List.range 12).map fun (k : Nat) => (12 + (k : Int) * -1)).length ≤ 100000 := by rw [List.length_map, List.length_range]; decide
  have l13 : (rg 0 13).length ≤ 100000 := by rw [rg_length]; decide
  generalize hX : ((List.range 12).map fun (k : Nat) => (12 + (k : Int) * -1)) = X at e12 l12
  have bX : ∀ z ∈ X, 0 ≤ z ∧ z ≤ 12 := fun z hz => by
    rw [← hX] at hz
    obtain ⟨k, hk, rfl⟩ := List.mem_map.mp hz
    have := List.mem_range.mp hk
    omega
  simp [b_scales, args, r12, r0, r13, fn, e12, l12]
  rw [lcF_map (fun z => tpD (1, tp z))]
  rotate_left
  · intro d hd
    have := bX d hd
    exact ⟨_, by simp; rfl, _, by simp [s_ten (k := d) (by omega) (by omega), lineOk, tpD]; rfl⟩
  simp [r13, e13, l13]
  rw [lcF_map (fun z => tpD (tp z, 1))]
  rotate_left
  · intro d hd
    have := mem_rg.mp hd
    exact ⟨_, by simp; rfl, _, by simp [s_ten (k := d) (by omega) (by omega), lineOk, tpD]; rfl⟩
  have hcat : fCat (.list (X.map fun z => tpD (1, tp z))) (.list ((rg 0 13).map fun z => tpD (tp z, 1))) = some (.list (scl.map tpD)) := by
    have hl : lineOk ((X.map fun z => tpD (1, tp z)).length + ((rg 0 13).map fun z => tpD (tp z, 1)).length) = true := lineOk_of (by
      rw [List.length_map, List.length_map, rg_length, ← hX, List.length_map, List.length_range]; decide)
    show (if lineOk _ = true then _ else _) = _
    rw [if_pos hl]
    unfold scl
    rw [List.map_append, List.map_map, List.map_map, ← hX, List.map_map]
    rfl
  simp [hcat]
/-- whether a value between has digits that begin so -/
def meetV (ln ld hn hd one : Int) : Bool := scl.any fun p => crs ln ld hn hd one (one + 1) p
theorem fBools_map {α : Type} {f : List Bool → D} {xs : List α} {g : α → Bool} : fBools f [.list (xs.map fun x => .bool (g x))] = some (f (xs.map g)) := by
  have : xs.map (fun x => PyData.bool (g x)) = (xs.map g).map .bool := by rw [List.map_map]; rfl
  rw [this]
  show (boolsD ((xs.map g).map .bool)).map f = _
  rw [boolsD_map]
  rfl
theorem any_map {α : Type} {xs : List α} {g : α → Bool} : (xs.map g).any id = xs.any g := by rw [List.any_map]; rfl
theorem s_meets {ln ld hn hd one : Int} (h1 : isK ln) (h2 : isK ld) (h3 : isK hn) (h4 : isK hd) (h5 : isB one) : f_meets [.tuple [.int ln, .int ld], .tuple [.int hn, .int hd], .int one] = .ok (.bool (meetV ln ld hn hd one)) := by
  refine runF_of ?_
  have o1 : isK one := ⟨by have := h5.1; omega, Int.lt_of_le_of_lt h5.2 (by decide)⟩
  have o2 : isK (one + 1) := ⟨by have := h5.1; omega, Int.lt_of_le_of_lt (show one + 1 ≤ 10000 by have := h5.2; omega) (by decide)⟩
  have ls : scl.length ≤ 100000 := by decide
  simp [b_meets, args, s_scales, ls]
  rw [lcF_map (fun p => PyData.bool (crs ln ld hn hd one (one + 1) p))]
  rotate_left
  · intro p hp
    obtain ⟨k1, k2⟩ := scl_K p hp
    exact ⟨_, by simp; rfl, _, by simp [s_crosses h1 h2 h3 h4 o1 o2 k1 k2]; rfl⟩
  have this : fBools (fun bs => PyData.bool (bs.any id)) [.list (scl.map fun p => PyData.bool (crs ln ld hn hd one (one + 1) p))] = some (.bool (meetV ln ld hn hd one)) := by
    rw [fBools_map, any_map]
    rfl
  simp [this]
/-- the beginnings of so many digits that meet -/
def meetL (ln ld hn hd k : Int) : List Int := (rg (tp (k - 1)) (tp k)).filter (meetV ln ld hn hd)
theorem crs_wide {ln ld hn hd f l one : Int} {p : Int × Int} (h1 : isK ld) (h2 : isK hd) (h7 : isK p.1) (hf : f ≤ one) (hl : one + 1 ≤ l) (h : crs ln ld hn hd one (one + 1) p = true) : crs ln ld hn hd f l p = true := by
  unfold crs at *
  rw [Bool.and_eq_true] at *
  obtain ⟨a, b⟩ := h
  have a := of_decide_eq_true a
  have b := of_decide_eq_true b
  refine ⟨decide_eq_true (Int.lt_of_le_of_lt ?_ a), decide_eq_true (Int.lt_of_lt_of_le b ?_)⟩
  · exact Int.mul_le_mul_of_nonneg_right (Int.mul_le_mul_of_nonneg_right hf h7.1) h2.1
  · exact Int.mul_le_mul_of_nonneg_right (Int.mul_le_mul_of_nonneg_right hl h7.1) h1.1
theorem s_all_meeting {ln ld hn hd k : Int} (h1 : isK ln) (h2 : isK ld) (h3 : isK hn) (h4 : isK hd) (hk : 1 ≤ k) (hk' : k ≤ 4) : f_all_meeting [.tuple [.int ln, .int ld], .tuple [.int hn, .int hd], .int k] = .ok (.list ((meetL ln ld hn hd k).map .int)) := by
  refine runF_of ?_
  have t1 := s_ten (k := k - 1) (by omega) (by omega)
  have t2 := s_ten (k := k) (by omega) (by omega)
  have p1 := tp_pos (k - 1)
  have p2 := tp_pos k
  have q1 := tp_le4 (k := k - 1) (by omega)
  have q2 := tp_le4 (k := k) (by omega)
  have r1 : rngOk (tp (k - 1)) = true := rngOk_is (by omega) (by omega)
  have r2 : rngOk (tp k) = true := rngOk_is (by omega) (by omega)
  have K1 : isK (tp (k - 1)) := ⟨by omega, Int.lt_of_le_of_lt q1 (by decide)⟩
  have K2 : isK (tp k) := ⟨by omega, Int.lt_of_le_of_lt q2 (by decide)⟩
  have ls : scl.length ≤ 100000 := by decide
  simp [b_all_meeting, args, t1, t2, lineOk, s_scales, ls]
  rw [lcF_fil (fun p => crs ln ld hn hd (tp (k - 1)) (tp k) p)]
  rotate_left
  · intro p hp
    obtain ⟨k1, k2⟩ := scl_K p hp
    exact ⟨_, by simp; rfl, _, by simp [s_crosses h1 h2 h3 h4 K1 K2 k1 k2]; rfl, fun _ => ⟨_, by simp; rfl⟩⟩
  have memU : ∀ p, p ∈ scl.filter (fun p => crs ln ld hn hd (tp (k - 1)) (tp k) p) → isK p.1 ∧ isK p.2 := fun p hp => scl_K p (List.mem_filter.mp hp).1
  have lenU : (scl.filter (fun p => crs ln ld hn hd (tp (k - 1)) (tp k) p)).length ≤ 100000 := Nat.le_trans (List.length_filter_le _ _) ls
  have anyU : ∀ one, tp (k - 1) ≤ one → one < tp k → (scl.filter (fun p => crs ln ld hn hd (tp (k - 1)) (tp k) p)).any (fun p => crs ln ld hn hd one (one + 1) p) = meetV ln ld hn hd one := fun one z1 z2 => by
    apply Bool.eq_iff_iff.mpr
    rw [List.any_eq_true]
    unfold meetV
    rw [List.any_eq_true]
    constructor
    · rintro ⟨p, hp, h⟩
      exact ⟨p, (List.mem_filter.mp hp).1, h⟩
    · rintro ⟨p, hp, h⟩
      exact ⟨p, List.mem_filter.mpr ⟨hp, crs_wide h2 h4 (scl_K p hp).1 z1 (by omega) h⟩, h⟩
  generalize hU : scl.filter (fun p => crs ln ld hn hd (tp (k - 1)) (tp k) p) = U at memU lenU anyU
  simp [r1, r2, rangeD_rg, lineOk]
  unfold meetL
  generalize hL : rg (tp (k - 1)) (tp k) = L
  have memL : ∀ z, z ∈ L → tp (k - 1) ≤ z ∧ z < tp k := fun z hz => by rw [← hL] at hz; exact mem_rg.mp hz
  have lenL : L.length ≤ 10000 := by rw [← hL, rg_length]; omega
  refine forF_th (Q := IsRt _) (fun i e => ∃ o7, e = [some (.im (.tuple [.int ln, .int ld])), some (.im (.tuple [.int hn, .int hd])), some (.im (.int k)), some (.im (.int (tp (k - 1)))), some (.im (.int (tp k))), some (.im (.list (U.map tpD))), some (.ow (.lst (((L.take i).filter (meetV ln ld hn hd)).map .int))), o7, none] ∧ canSet e 7 = true) ⟨none, by simp, by simp⟩ ?_ ?_
  · rintro i z hz e ⟨o7, rfl, c7⟩
    simp only [cs_s] at c7
    have hzL := List.mem_of_getElem? hz
    obtain ⟨z1, z2⟩ := memL z hzL
    have Z1 : isK z := ⟨by omega, by have := K2.2; omega⟩
    have Z2 : isK (z + 1) := ⟨by omega, by have := Int.lt_of_le_of_lt (show z + 1 ≤ 10000 by omega) (show (10000 : Int) < tp 40 by decide); omega⟩
    refine ⟨_, by simp only [gname_ev, cs_s, c7, if_true]; rfl, ?_⟩
    simp [lenU]
    rw [lcF_map (fun p => PyData.bool (crs ln ld hn hd z (z + 1) p))]
    rotate_left
    · intro p hp
      obtain ⟨k1, k2⟩ := memU p hp
      exact ⟨_, by simp; rfl, _, by simp [s_crosses h1 h2 h3 h4 Z1 Z2 k1 k2]; rfl⟩
    have this : fBools (fun bs => PyData.bool (bs.any id)) [.list (U.map fun p => PyData.bool (crs ln ld hn hd z (z + 1) p))] = some (.bool (meetV ln ld hn hd z)) := by
      rw [fBools_map, any_map, anyU z z1 z2]
    have et : (L.take (i + 1)).filter (meetV ln ld hn hd) = (L.take i).filter (meetV ln ld hn hd) ++ (if meetV ln ld hn hd z = true then [z] else []) := by
      rw [List.take_succ, hz, List.filter_append]
      congr 1
      show List.filter (meetV ln ld hn hd) [z] = _
      cases q : meetV ln ld hn hd z <;> simp [q]
    have hlen : ((L.take i).filter (meetV ln ld hn hd)).length < 100000 := by
      have := List.length_filter_le (meetV ln ld hn hd) (L.take i)
      have := List.length_take_le i L
      have := List.length_take_le' i L
      omega
    rw [et]
    cases q : meetV ln ld hn hd z with
    | true =>
      rw [q] at this
      simp [this, hlen]
    | false =>
      rw [q] at this
      simp [this]
  · rintro e ⟨o7, rfl, c7⟩
    rw [List.take_length]
    simp
end FD
set_option Elab.async false
set_option linter.all false
set_option maxRecDepth 100000
set_option maxHeartbeats 4000000
noncomputable section
namespace FD
open PySem L2 TL
theorem isK_of {z : Int} (h : 0 ≤ z) (h' : z ≤ 1000000000000) : isK z := ⟨h, Int.lt_of_le_of_lt h' (by decide)⟩
theorem K_B {b : Int} (h : isB b) : isK b ∧ isK (b + 1) := ⟨isK_of (by have := h.1; omega) (by have := h.2; omega), isK_of (by have := h.1; omega) (by have := h.2; omega)⟩
theorem mul_B {a b : Int} (ha : 0 ≤ a) (ha' : a ≤ 10000) (hb : 0 ≤ b) (hb' : b ≤ 10000) : 0 ≤ a * b ∧ a * b ≤ 100000000 := ⟨Int.mul_nonneg ha hb, Int.mul_le_mul ha' hb' hb (by decide)⟩
theorem K_1 : isK 1 := ⟨by decide, by decide⟩
theorem s_quotients {a b k : Int} (ha : isB a) (hb : isB b) (h1 : 1 ≤ k) (h2 : k ≤ 3) : f_quotients [.int a, .int b, .int k] = .ok (.list ((meetL a (b + 1) (a + 1) b k).map .int)) := by
  refine runF_of ?_
  have h := s_all_meeting (K_B ha).1 (K_B hb).2 (K_B ha).2 (K_B hb).1 h1 (by omega)
  simp [b_quotients, s_check_beginning ha, s_check_beginning hb, s_check_count h1 h2, lineOk, h]
theorem s_can_be_quotient {a b c : Int} (ha : isB a) (hb : isB b) (hc : isB c) : f_can_be_quotient [.int a, .int b, .int c] = .ok (.bool (meetV a (b + 1) (a + 1) b c)) := by
  refine runF_of ?_
  have h := s_meets (K_B ha).1 (K_B hb).2 (K_B ha).2 (K_B hb).1 hc
  simp [b_can_be_quotient, s_check_beginning ha, s_check_beginning hb, s_check_beginning hc, lineOk, h]
theorem s_product_bounds {a b : Int} (ha : isB a) (hb : isB b) : f_product_bounds [.int a, .int b] = .ok (.tuple [.tuple [.int (a * b), .int 1], .tuple [.int ((a + 1) * (b + 1)), .int 1]]) := by
  refine runF_of ?_
  simp [b_product_bounds, lineOk, fMul_i (sm_B ha).1 (sm_B hb).1, fMul_i (sm_B ha).2 (sm_B hb).2]
theorem K_prod {a b : Int} (ha : isB a) (hb : isB b) : isK (a * b) ∧ isK ((a + 1) * (b + 1)) := by
  have := ha.1; have := ha.2; have := hb.1; have := hb.2
  have h1 := mul_B (a := a) (b := b) (by omega) (by omega) (by omega) (by omega)
  have h2 := mul_B (a := a + 1) (b := b + 1) (by omega) (by omega) (by omega) (by omega)
  exact ⟨isK_of h1.1 (by omega), isK_of h2.1 (by omega)⟩
theorem s_products {a b k : Int} (ha : isB a) (hb : isB b) (h1 : 1 ≤ k) (h2 : k ≤ 3) : f_products [.int a, .int b, .int k] = .ok (.list ((meetL (a * b) 1 ((a + 1) * (b + 1)) 1 k).map .int)) := by
  refine runF_of ?_
  have h := s_all_meeting (K_prod ha hb).1 K_1 (K_prod ha hb).2 K_1 h1 (by omega)
  simp [b_products, s_check_beginning ha, s_check_beginning hb, s_check_count h1 h2, lineOk, h, s_product_bounds ha hb]
theorem s_can_be_product {a b c : Int} (ha : isB a) (hb : isB b) (hc : isB c) : f_can_be_product [.int a, .int b, .int c] = .ok (.bool (meetV (a * b) 1 ((a + 1) * (b + 1)) 1 c)) := by
  refine runF_of ?_
  have h := s_meets (K_prod ha hb).1 K_1 (K_prod ha hb).2 K_1 hc
  simp [b_can_be_product, s_check_beginning ha, s_check_beginning hb, s_check_beginning hc, lineOk, h, s_product_bounds ha hb]
/-- a beginning with as many digits as can be -/
def up4 (a : Int) : Int := a * tp (4 - sz a)
theorem up4_le {a : Int} (ha : isB a) : 0 ≤ up4 a ∧ up4 a ≤ 100000000 ∧ 1 ≤ tp (4 - sz a) ∧ tp (4 - sz a) ≤ 10000 := by
  have p := tp_pos (4 - sz a)
  have q := tp_le4 (k := 4 - sz a) (by have := sz_pos a; omega)
  have h := mul_B (a := a) (b := tp (4 - sz a)) (by have := ha.1; omega) (by have := ha.2; omega) (by omega) q
  exact ⟨h.1, h.2, by omega, q⟩
theorem s_sums {a b k : Int} (ha : isB a) (hb : isB b) (h1 : 1 ≤ k) (h2 : k ≤ 3) : f_sums [.int a, .int b, .int k] = .ok (.list ((meetL (up4 a + up4 b) 1 (up4 a + tp (4 - sz a) + up4 b + tp (4 - sz b)) 1 k).map .int)) := by
  refine runF_of ?_
  have pa := sz_B9 ha
  have pb := sz_B9 hb
  have ua := up4_le ha
  have ub := up4_le hb
  have h := s_all_meeting (ln := up4 a + up4 b) (hn := up4 a + tp (4 - sz a) + up4 b + tp (4 - sz b)) (isK_of (by omega) (by omega)) K_1 (isK_of (by omega) (by omega)) K_1 h1 (show k ≤ 4 by omega)
  have t1 := s_ten (k := 4 - sz a) (by omega) (by omega)
  have t2 := s_ten (k := 4 - sz b) (by omega) (by omega)
  have eA : a * tp (4 - sz a) = up4 a := rfl
  have eB : b * tp (4 - sz b) = up4 b := rfl
  simp [b_sums, s_check_beginning ha, s_check_beginning hb, s_check_count h1 h2, lineOk, h, s_size_of (isT_B ha), s_size_of (isT_B hb), t1, t2, fMul_i (sm_B ha).1 (sm_tpk (k := 4 - sz a) (by omega)), fMul_i (sm_B hb).1 (sm_tpk (k := 4 - sz b) (by omega)), eA, eB]
end FD
set_option Elab.async false
set_option linter.all false
set_option maxRecDepth 100000
set_option maxHeartbeats 4000000
noncomputable section
namespace FD
open PySem L2 TL
/-- a stretch moved by s - 13 places meets the values between -/
def cnd (ln ld hn hd one s : Int) : Bool := decide (one * tp s * hd < tp 13 * hn) && decide (tp 13 * ln < (one + 1) * tp s * ld)
theorem cnd_iff {ln ld hn hd one s : Int} : cnd ln ld hn hd one s = true ↔ one * tp s * hd < tp 13 * hn ∧ tp 13 * ln < (one + 1) * tp s * ld := by
  unfold cnd
  simp only [Bool.and_eq_true, decide_eq_true_eq]
theorem lt_cancel {a b t : Int} (h : 0 < t) : a * t < b * t ↔ a < b := ⟨fun q => Int.lt_of_mul_lt_mul_right q (Int.le_of_lt h), fun q => Int.mul_lt_mul_of_pos_right q h⟩
theorem le_cancel {a b t : Int} (h : 0 < t) : a * t ≤ b * t ↔ a ≤ b := ⟨fun q => Int.le_of_mul_le_mul_right q h, fun q => Int.mul_le_mul_of_nonneg_right q (Int.le_of_lt h)⟩
theorem crs_iff {ln ld hn hd f l : Int} {p : Int × Int} : crs ln ld hn hd f l p = true ↔ f * p.1 * hd < hn * p.2 ∧ ln * p.2 < l * p.1 * ld := by
  unfold crs
  simp only [Bool.and_eq_true, decide_eq_true_eq]
theorem crs_down {ln ld hn hd one s : Int} (h : 0 ≤ s) (h' : s ≤ 13) : crs ln ld hn hd one (one + 1) (1, tp (13 - s)) = true ↔ cnd ln ld hn hd one s = true := by
  rw [crs_iff, cnd_iff]
  have e : tp 13 = tp s * tp (13 - s) := by rw [← tp_add h (by omega)]; congr 1; omega
  have p := tp_pos s
  rw [e]
  show one * 1 * hd < hn * tp (13 - s) ∧ ln * tp (13 - s) < (one + 1) * 1 * ld ↔ _
  rw [Int.mul_one, Int.mul_one]
  rw [show one * tp s * hd = one * hd * tp s by ac_rfl, show tp s * tp (13 - s) * hn = hn * tp (13 - s) * tp s by ac_rfl, show tp s * tp (13 - s) * ln = ln * tp (13 - s) * tp s by ac_rfl, show (one + 1) * tp s * ld = (one + 1) * ld * tp s by ac_rfl, lt_cancel p, lt_cancel p]
theorem crs_up {ln ld hn hd one s : Int} (h : 13 ≤ s) : crs ln ld hn hd one (one + 1) (tp (s - 13), 1) = true ↔ cnd ln ld hn hd one s = true := by
  rw [crs_iff, cnd_iff]
  have e : tp s = tp 13 * tp (s - 13) := by rw [← tp_add (by decide) (by omega)]; congr 1; omega
  have p := tp_pos 13
  rw [e]
  show one * tp (s - 13) * hd < hn * 1 ∧ ln * 1 < (one + 1) * tp (s - 13) * ld ↔ _
  rw [Int.mul_one, Int.mul_one]
  rw [show one * (tp 13 * tp (s - 13)) * hd = one * tp (s - 13) * hd * tp 13 by ac_rfl, show tp 13 * hn = hn * tp 13 by ac_rfl, show tp 13 * ln = ln * tp 13 by ac_rfl, show (one + 1) * (tp 13 * tp (s - 13)) * ld = (one + 1) * tp (s - 13) * ld * tp 13 by ac_rfl, lt_cancel p, lt_cancel p]
theorem meetV_iff {ln ld hn hd one : Int} : meetV ln ld hn hd one = true ↔ ∃ s, 1 ≤ s ∧ s ≤ 25 ∧ cnd ln ld hn hd one s = true := by
  unfold meetV
  rw [List.any_eq_true]
  constructor
  · rintro ⟨p, hp, h⟩
    unfold scl at hp
    rcases List.mem_append.mp hp with q | q
    · obtain ⟨k, hk, rfl⟩ := List.mem_map.mp q
      have := List.mem_range.mp hk
      refine ⟨(k : Int) + 1, by omega, by omega, (crs_down (by omega) (by omega)).mp ?_⟩
      rw [show 13 - ((k : Int) + 1) = 12 + (k : Int) * -1 by omega]
      exact h
    · obtain ⟨z, hz, rfl⟩ := List.mem_map.mp q
      have := mem_rg.mp hz
      refine ⟨z + 13, by omega, by omega, (crs_up (by omega)).mp ?_⟩
      rw [show z + 13 - 13 = z by omega]
      exact h
  · rintro ⟨s, h1, h2, h⟩
    rcases Int.lt_or_le s 13 with q | q
    · refine ⟨(1, tp (13 - s)), ?_, (crs_down (by omega) (by omega)).mpr h⟩
      unfold scl
      refine List.mem_append.mpr (.inl (List.mem_map.mpr ⟨(s - 1).toNat, List.mem_range.mpr (by omega), ?_⟩))
      rw [show 12 + (((s - 1).toNat : Nat) : Int) * -1 = 13 - s by omega]
    · refine ⟨(tp (s - 13), 1), ?_, (crs_up q).mpr h⟩
      unfold scl
      exact List.mem_append.mpr (.inr (List.mem_map.mpr ⟨s - 13, mem_rg.mpr ⟨by omega, by omega⟩, rfl⟩))
theorem cnd_of {ln ld hn hd vn vd one s : Int} (hvd : 0 < vd) (h1 : one * tp s * vd ≤ tp 13 * vn) (h2 : tp 13 * vn < (one + 1) * tp s * vd) (hl : ln * vd ≤ vn * ld) (hld : 0 < ld) (hh : vn * hd < hn * vd) (hhd : 0 < hd) : cnd ln ld hn hd one s = true := by
  have p := tp_pos 13
  rw [cnd_iff]
  constructor
  · rw [← lt_cancel hvd]
    have a : one * tp s * vd * hd ≤ tp 13 * vn * hd := (le_cancel hhd).mpr h1
    have b : vn * hd * tp 13 < hn * vd * tp 13 := (lt_cancel p).mpr hh
    rw [show one * tp s * hd * vd = one * tp s * vd * hd by ac_rfl, show tp 13 * hn * vd = hn * vd * tp 13 by ac_rfl]
    rw [show tp 13 * vn * hd = vn * hd * tp 13 by ac_rfl] at a
    omega
  · rw [← lt_cancel hvd]
    have a : tp 13 * vn * ld < (one + 1) * tp s * vd * ld := (lt_cancel hld).mpr h2
    have b : ln * vd * tp 13 ≤ vn * ld * tp 13 := (le_cancel p).mpr hl
    rw [show tp 13 * ln * vd = ln * vd * tp 13 by ac_rfl, show (one + 1) * tp s * ld * vd = (one + 1) * tp s * vd * ld by ac_rfl]
    rw [show tp 13 * vn * ld = vn * ld * tp 13 by ac_rfl] at a
    omega
theorem cnd_scale {c e one s d : Int} (hs : 0 ≤ s) (hd : 0 ≤ d) : cnd (c * tp d) 1 (e * tp d) 1 one (s + d) = cnd c 1 e 1 one s := by
  apply Bool.eq_iff_iff.mpr
  have p := tp_pos d
  rw [cnd_iff, cnd_iff, tp_add hs hd]
  rw [show one * (tp s * tp d) * 1 = one * tp s * 1 * tp d by ac_rfl, show tp 13 * (e * tp d) = tp 13 * e * tp d by ac_rfl, show tp 13 * (c * tp d) = tp 13 * c * tp d by ac_rfl, show (one + 1) * (tp s * tp d) * 1 = (one + 1) * tp s * 1 * tp d by ac_rfl, lt_cancel p, lt_cancel p]
/-- within: what begins with the one begins with the other -/
theorem beg_trans {n b c : Int} (hn : 1 ≤ n) (hb : 1 ≤ b) (hc : 1 ≤ c) (h1 : beg n b = true) (h2 : beg b c = true) : beg n c = true := by
  obtain ⟨j, hj, a1, a2⟩ := (beg_iff hb hn).mp h1
  obtain ⟨i, hi, b1, b2⟩ := (beg_iff hc hb).mp h2
  refine (beg_iff hc hn).mpr ⟨i + j, by omega, ?_, ?_⟩
  · rw [tp_add hi hj, ← Int.mul_assoc]
    exact Int.le_trans (Int.mul_le_mul_of_nonneg_right b1 (Int.le_of_lt (tp_pos j))) a1
  · rw [tp_add hi hj, ← Int.mul_assoc]
    exact Int.lt_of_lt_of_le a2 (Int.mul_le_mul_of_nonneg_right (by omega) (Int.le_of_lt (tp_pos j)))
theorem beg_comp {n b c : Int} (hn : 1 ≤ n) (hb : 1 ≤ b) (hc : 1 ≤ c) (h1 : beg n b = true) (h2 : beg n c = true) (hs : sz c ≤ sz b) : beg b c = true := by
  obtain ⟨j, hj, a1, a2⟩ := (beg_iff hb hn).mp h1
  obtain ⟨i, hi, b1, b2⟩ := (beg_iff hc hn).mp h2
  have e1 : sz n = sz b + j := by
    refine sz_unique (by have := sz_pos b; omega) ?_ ?_
    · rw [show sz b + j - 1 = (sz b - 1) + j by omega, tp_add (by have := sz_pos b; omega) hj]
      exact Int.le_trans (Int.mul_le_mul_of_nonneg_right (sz_lo hb) (Int.le_of_lt (tp_pos j))) a1
    · rw [tp_add (by have := sz_pos b; omega) hj]
      exact Int.lt_of_lt_of_le a2 (Int.mul_le_mul_of_nonneg_right (by have := sz_hi (show 0 ≤ b by omega); omega) (Int.le_of_lt (tp_pos j)))
  have e2 : sz n = sz c + i := by
    refine sz_unique (by have := sz_pos c; omega) ?_ ?_
    · rw [show sz c + i - 1 = (sz c - 1) + i by omega, tp_add (by have := sz_pos c; omega) hi]
      exact Int.le_trans (Int.mul_le_mul_of_nonneg_right (sz_lo hc) (Int.le_of_lt (tp_pos i))) b1
    · rw [tp_add (by have := sz_pos c; omega) hi]
      exact Int.lt_of_lt_of_le b2 (Int.mul_le_mul_of_nonneg_right (by have := sz_hi (show 0 ≤ c by omega); omega) (Int.le_of_lt (tp_pos i)))
  have hij : i = (sz b - sz c) + j := by omega
  have ht : tp i = tp (sz b - sz c) * tp j := by rw [hij, tp_add (by omega) hj]
  rw [ht, ← Int.mul_assoc] at b1 b2
  have pj := tp_pos j
  refine (beg_iff hc hb).mpr ⟨sz b - sz c, by omega, ?_, ?_⟩
  · have : c * tp (sz b - sz c) * tp j < (b + 1) * tp j := Int.lt_of_le_of_lt b1 a2
    have := Int.lt_of_mul_lt_mul_right this (Int.le_of_lt pj)
    omega
  · have : b * tp j < (c + 1) * tp (sz b - sz c) * tp j := Int.lt_of_le_of_lt a1 b2
    exact Int.lt_of_mul_lt_mul_right this (Int.le_of_lt pj)

theorem sz_fst {n k : Int} (hn : 1 ≤ n) (hk : 1 ≤ k) (q : k ≤ sz n) : sz (fst n k) = k ∧ 1 ≤ fst n k := by
  have a := sz_lo hn
  have c := sz_hi (show 0 ≤ n by omega)
  unfold fst
  split
  · rename_i h
    have pj := tp_pos (sz n - k)
    have lo : tp (k - 1) ≤ n / tp (sz n - k) := by
      refine (Int.le_ediv_iff_mul_le pj).mpr ?_
      rw [← tp_add (by omega) (by omega)]
      rw [show k - 1 + (sz n - k) = sz n - 1 by omega]
      exact a
    have hi : n / tp (sz n - k) < tp k := by
      refine (Int.ediv_lt_iff_lt_mul pj).mpr ?_
      rw [← tp_add (by omega) (by omega)]
      rw [show k + (sz n - k) = sz n by omega]
      exact c
    exact ⟨sz_unique hk lo hi, Int.lt_of_lt_of_le (tp_pos _) lo⟩
  · have : sz n = k := by omega
    exact ⟨this, hn⟩
theorem fst_B {n k : Int} (hn : 1 ≤ n) (hk : 1 ≤ k) (hk' : k ≤ 4) : 1 ≤ fst n k ∧ (k ≤ sz n → isB (fst n k)) := by
  by_cases q : k ≤ sz n
  · obtain ⟨h1, h2⟩ := sz_fst hn hk q
    refine ⟨h2, fun _ => ⟨h2, ?_⟩⟩
    have := sz_hi (show 0 ≤ fst n k by omega)
    rw [h1] at this
    have := tp_le4 hk'
    omega
  · refine ⟨?_, fun h => absurd h q⟩
    unfold fst
    rw [if_neg (by omega)]
    exact hn
theorem beg_of_fst {n k : Int} (hn : 1 ≤ n) (hk : 1 ≤ k) (q : k ≤ sz n) : beg n (fst n k) = true := by
  obtain ⟨h1, h2⟩ := sz_fst hn hk q
  refine (beg_fst h2 hn).mp ?_
  rw [h1]
theorem beg_self {b : Int} (hb : 1 ≤ b) : beg b b = true := (beg_iff hb hb).mpr ⟨0, by omega, by rw [tp_zero]; omega, by rw [tp_zero]; omega⟩
end FD
set_option Elab.async false
set_option linter.all false
set_option maxRecDepth 100000
set_option maxHeartbeats 4000000
noncomputable section
namespace FD
open PySem L2 TL
theorem T_pow {b : Int} (hb : isBase b) {k : Nat} (hk : k ≤ 300) : isT (b ^ k) := by
  have h1 := pow_pos' (show 1 ≤ b by have := hb.1; omega) k
  have h2 := pow_le (show 1 ≤ b by have := hb.1; omega) hb.2 k
  have h3 : tp (2 * (k : Int)) ≤ tp 600 := tp_mono (by omega)
  have h4 : tp 600 < tp 630 := tp_lt (by decide) (by decide)
  exact ⟨by omega, by omega⟩
/-- the exponents of powers with so many digits -/
def pwW (b c : Int) : List Int := ((List.range 301).filter fun (i : Nat) => decide (sz (b ^ i) = c)).map fun (i : Nat) => (i : Int)
theorem s_powers_with {b c : Int} (hb : isBase b) (h1 : 1 ≤ c) (h2 : c ≤ 600) : f_powers_with [.int b, .int c] = .ok (.list ((pwW b c).map .int)) := by
  refine runF_of ?_
  have hp := s_powers_of hb (show (0 : Int) ≤ 300 by decide) (by decide)
  have e300 : (300 : Int).toNat = 300 := rfl
  rw [e300] at hp
  simp [b_powers_with, s_check_base hb.1 hb.2, s_check_count h1 h2, hp, enum_pw]
  rw [lcF_of (p := fun (i : Nat) => decide (sz (b ^ i) = c)) (q := fun (i : Nat) => PyData.int i)]
  · simp [pwW, Function.comp_def]
  · intro k hk
    have hk := List.mem_range.mp hk
    refine ⟨_, by simp; rfl, ?_⟩
    simp [s_size_of (T_pow hb (k := k) (by omega))]
theorem mem_pwW {b c z : Int} : z ∈ pwW b c ↔ ∃ i : Nat, z = i ∧ i ≤ 300 ∧ sz (b ^ i) = c := by
  unfold pwW
  rw [List.mem_map]
  constructor
  · rintro ⟨i, h, rfl⟩
    rw [List.mem_filter, List.mem_range, decide_eq_true_iff] at h
    exact ⟨i, rfl, by omega, h.2⟩
  · rintro ⟨i, rfl, h, q⟩
    exact ⟨i, by rw [List.mem_filter, List.mem_range, decide_eq_true_iff]; exact ⟨by omega, q⟩, rfl⟩
theorem any_eqv {xs : List Int} {z : Int} : ((xs.map PyData.int).any fun y => PyData.eqv y (.int z)) = decide (z ∈ xs) := by
  induction xs with
  | nil => rfl
  | cons x xs ih =>
    rw [List.map_cons, List.any_cons, ih]
    show (x == z || decide (z ∈ xs)) = _
    by_cases h : z = x
    · subst h; simp
    · have : (x == z) = false := by rw [beq_eq_false_iff_ne]; exact fun q => h q.symm
      rw [this]
      simp [h]
theorem all_flat {xs : List Int} : ((xs.map PyData.int).all flatD) = true := by
  rw [List.all_map, List.all_eq_true]
  intro x _
  rfl
theorem fIn_ints {n : Bool} {xs : List Int} {z : Int} : fIn n (.int z) (.list (xs.map .int)) = some (.bool (if n then !decide (z ∈ xs) else decide (z ∈ xs))) := by
  unfold fIn
  have : (flatD (.int z) && (xs.map PyData.int).all flatD) = true := by rw [all_flat]; rfl
  simp only [this, if_true, any_eqv]
theorem pow_small {b : Int} (h : 1 ≤ b) (h9 : b ≤ 9) {k : Nat} (hk : k ≤ 60) : b ^ k < tp 60 := by
  have h1 : b ^ k ≤ 9 ^ k := by
    have : ∀ k : Nat, b ^ k ≤ 9 ^ k := by
      intro k
      induction k with
      | zero => simp
      | succ k ih =>
        rw [Int.pow_succ, Int.pow_succ]
        exact Int.mul_le_mul ih h9 (by omega) (by have := pow_pos' (show (1 : Int) ≤ 9 by decide) k; omega)
    exact this k
  have h2 : (9 : Int) ^ k ≤ 9 ^ 60 := by
    have : ∀ j : Nat, (9 : Int) ^ k ≤ 9 ^ (k + j) := by
      intro j
      induction j with
      | zero => simp
      | succ j ih =>
        rw [← Nat.add_assoc, Int.pow_succ]
        have := pow_pos' (show (1 : Int) ≤ 9 by decide) (k + j)
        omega
    have := this (60 - k)
    rw [show k + (60 - k) = 60 by omega] at this
    exact this
  exact Int.lt_of_le_of_lt (Int.le_trans h1 h2) (by decide +kernel)
end FD
set_option Elab.async false
set_option linter.all false
set_option maxRecDepth 100000
set_option maxHeartbeats 4000000
noncomputable section
namespace FD
open PySem L2 TL
theorem s_squares {b k : Int} (hb : isB b) (h1 : 1 ≤ k) (h2 : k ≤ 3) : f_squares [.int b, .int k] = .ok (.list ((meetL (b * b) 1 ((b + 1) * (b + 1)) 1 k).map .int)) := by
  refine runF_of ?_
  have h := s_all_meeting (K_prod hb hb).1 K_1 (K_prod hb hb).2 K_1 h1 (by omega)
  simp [b_squares, s_check_beginning hb, s_check_count h1 h2, lineOk, h, fMul_i (sm_B hb).1 (sm_B hb).1, fMul_i (sm_B hb).2 (sm_B hb).2]
/-- the numbers of so many digits whose squares can begin so -/
def rootL (b k : Int) : List Int := (rg (tp (k - 1)) (tp k)).filter fun r => meetV (r * r) 1 ((r + 1) * (r + 1)) 1 b
theorem s_roots {b k : Int} (hb : isB b) (h1 : 1 ≤ k) (h2 : k ≤ 3) : f_roots [.int b, .int k] = .ok (.list ((rootL b k).map .int)) := by
  refine runF_of ?_
  have t1 := s_ten (k := k - 1) (by omega) (by omega)
  have t2 := s_ten (k := k) (by omega) (by omega)
  have p1 := tp_pos (k - 1)
  have p2 := tp_pos k
  have q1 := tp_le4 (k := k - 1) (by omega)
  have q2 := tp_le4 (k := k) (by omega)
  have r1 : rngOk (tp (k - 1)) = true := rngOk_is (by omega) (by omega)
  have r2 : rngOk (tp k) = true := rngOk_is (by omega) (by omega)
  have ls : scl.length ≤ 100000 := by decide
  obtain ⟨kb, kb1⟩ := K_B hb
  simp [b_roots, args, s_check_beginning hb, s_check_count h1 h2, t1, t2, lineOk, s_scales, ls, r1, r2, rangeD_rg]
  unfold rootL
  generalize hL : rg (tp (k - 1)) (tp k) = L
  have memL : ∀ z, z ∈ L → tp (k - 1) ≤ z ∧ z < tp k := fun z hz => by rw [← hL] at hz; exact mem_rg.mp hz
  have lenL : L.length ≤ 10000 := by rw [← hL, rg_length]; omega
  generalize hp : (fun r : Int => meetV (r * r) 1 ((r + 1) * (r + 1)) 1 b) = p
  refine forF_th (Q := IsRt _) (fun i e => ∃ o4 o5 o6 o7, e = [some (.im (.int b)), some (.im (.int k)), some (.ow (.lst (((L.take i).filter p).map .int))), some (.im (.list (scl.map tpD))), mI o4, mI o5, mI o6, mI o7]) ⟨none, none, none, none, by simp [mI]⟩ ?_ ?_
  · rintro i z hz e ⟨o4, o5, o6, o7, rfl⟩
    have hzL := List.mem_of_getElem? hz
    obtain ⟨z1, z2⟩ := memL z hzL
    have zB : 0 ≤ z * z ∧ z * z ≤ 100000000 := mul_B (by omega) (by omega) (by omega) (by omega)
    have zC : 0 ≤ (z + 1) * (z + 1) ∧ (z + 1) * (z + 1) ≤ 10001 * 10001 := ⟨Int.mul_nonneg (by omega) (by omega), Int.mul_le_mul (by omega) (by omega) (by omega) (by decide)⟩
    have Z1 : isK (z * z) := isK_of zB.1 (by omega)
    have Z2 : isK ((z + 1) * (z + 1)) := isK_of zC.1 (by omega)
    have m1 : sm z = true := sm_K (isK_of (by omega) (by omega))
    have m2 : sm (z + 1) = true := sm_K (isK_of (by omega) (by omega))
    refine ⟨_, by simp; rfl, ?_⟩
    simp [ls, fMul_i m1 m1, fMul_i m2 m2, lineOk]
    rw [lcF_map (fun q => PyData.bool (crs (z * z) 1 ((z + 1) * (z + 1)) 1 b (b + 1) q))]
    rotate_left
    · intro q hq
      obtain ⟨k1, k2⟩ := scl_K q hq
      exact ⟨_, by simp; rfl, _, by simp [s_crosses Z1 K_1 Z2 K_1 kb kb1 k1 k2]; rfl⟩
    have this : fBools (fun bs => PyData.bool (bs.any id)) [.list (scl.map fun q => PyData.bool (crs (z * z) 1 ((z + 1) * (z + 1)) 1 b (b + 1) q))] = some (.bool (p z)) := by
      rw [fBools_map, any_map, ← hp]
      rfl
    have et : (L.take (i + 1)).filter p = (L.take i).filter p ++ (if p z = true then [z] else []) := by
      rw [List.take_succ, hz, List.filter_append]
      congr 1
      show List.filter p [z] = _
      cases q : p z <;> simp [q]
    have hlen : ((L.take i).filter p).length < 100000 := by
      have := List.length_filter_le p (L.take i)
      have := List.length_take_le' i L
      omega
    rw [et]
    cases q : p z with
    | true =>
      rw [q] at this
      simp [this, hlen]
    | false =>
      rw [q] at this
      simp [this]
  · rintro e ⟨o4, o5, o6, o7, rfl⟩
    rw [List.take_length]
    simp
/-- the least whose square is not below -/
def Rt (n r : Int) : Prop := 1 ≤ r ∧ n ≤ r * r ∧ (r - 1) * (r - 1) < n
theorem sq_mono {a b : Int} (h0 : 0 ≤ a) (h : a ≤ b) : a * a ≤ b * b := Int.mul_le_mul h h h0 (by omega)
theorem sq_lt {a b : Int} (h0 : 0 ≤ b) (h : a * a < b * b) : a < b := by
  rcases Int.lt_or_le a b with q | q
  · exact q
  · have := sq_mono h0 q; omega
theorem Rt_lt {n r q : Int} (h : Rt n r) (h0 : 0 ≤ q) : q < r ↔ q * q < n := by
  obtain ⟨h1, h2, h3⟩ := h
  constructor
  · intro k
    have := sq_mono h0 (show q ≤ r - 1 by omega)
    omega
  · intro k
    exact sq_lt (by omega) (by omega)
theorem Rt_le {n r q : Int} (h : Rt n r) (h0 : 0 ≤ q) : r ≤ q ↔ n ≤ q * q := by
  have := Rt_lt h h0
  omega
theorem s_root_from {n r : Int} (hn : 1 ≤ n) (hb : n ≤ tp 80) (h : Rt n r) : f_root_from [.int n] = .ok (.int r) := by
  refine runF_of ?_
  simp [b_root_from, args]
  have hp : tp 80 ≤ 2 ^ 300 := by decide
  refine whF_th (Q := IsRt _) (fun m e => ∃ lo hi o, e = [some (.im (.int n)), some (.im (.int lo)), some (.im (.int hi)), mI o] ∧ 0 ≤ lo ∧ lo < r ∧ r ≤ hi ∧ hi ≤ n ∧ hi - lo ≤ 2 ^ m) 300 ⟨0, n, none, by simp [mI], by decide, by have := h.1; omega, ?_, by omega, by omega⟩ (by decide) ?_
  · refine (Rt_le h (by omega)).mpr ?_
    have := Int.mul_le_mul_of_nonneg_right hn (show (0 : Int) ≤ n by omega)
    omega
  · rintro m e ⟨lo, hi, o, rfl, l0, l1, l2, l3, l4⟩
    by_cases q : hi - lo ≤ 1
    · left
      refine ⟨by simp; omega, ?_⟩
      have : hi = r := by omega
      subst this
      simp
    · right
      have hm : m ≠ 0 := fun z => by subst z; simp at l4; omega
      obtain ⟨m', rfl⟩ : ∃ m', m = m' + 1 := ⟨m - 1, by omega⟩
      have p2 : (2 : Int) ^ (m' + 1) = 2 * 2 ^ m' := by rw [Int.pow_succ]; omega
      rw [p2] at l4
      have m2 : sm 2 = true := sm_of (by decide)
      have hd := fDiv_i (i := lo + hi) (j := 2) (by decide) m2
      generalize hM : (lo + hi) / 2 = M at hd
      have M0 : 0 ≤ M := by omega
      have mM : sm M = true := sm_tp (k := 80) (by decide) (by have := tp_pos 80; omega) (by omega)
      refine ⟨by simp; omega, ?_⟩
      by_cases k : M * M < n
      · have := (Rt_lt h M0).mpr k
        simp [hd, fMul_i mM mM, k]
        exact ⟨m', by omega, M, hi, ⟨rfl, rfl⟩, by omega, by omega, by omega, by omega, by omega⟩
      · have := (Rt_le h M0).mpr (by omega)
        simp [hd, fMul_i mM mM, k]
        exact ⟨m', by omega, lo, M, ⟨rfl, rfl⟩, by omega, by omega, by omega, by omega, by omega⟩
theorem Rt_ex {n : Int} (hn : 1 ≤ n) : ∃ r, Rt n r := by
  have key : ∀ k : Nat, (∃ r, 1 ≤ r ∧ r ≤ (k : Int) ∧ Rt n r) ∨ ((k : Int) * k < n) := by
    intro k
    induction k with
    | zero => right; simpa using (by omega : (0 : Int) < n)
    | succ k ih =>
      rcases ih with ⟨r, h1, h2, h3⟩ | h
      · left; exact ⟨r, h1, by omega, h3⟩
      · rcases Int.lt_or_le (((k + 1 : Nat) : Int) * ((k + 1 : Nat) : Int)) n with q | q
        · right; exact q
        · left
          refine ⟨((k + 1 : Nat) : Int), by omega, by omega, by omega, q, ?_⟩
          rw [show ((k + 1 : Nat) : Int) - 1 = (k : Int) by omega]
          exact h
  rcases key n.toNat with ⟨r, _, _, h⟩ | h
  · exact ⟨r, h⟩
  · exfalso
    rw [show ((n.toNat : Nat) : Int) = n by omega] at h
    have := Int.mul_le_mul_of_nonneg_right hn (show (0 : Int) ≤ n by omega)
    omega

theorem sq_pred (r : Int) : r * r = (r - 1) * (r - 1) + 2 * (r - 1) + 1 := by
  rw [Int.sub_mul, Int.mul_sub, Int.one_mul, Int.mul_one]
  omega
theorem sq_there {b c r : Int} (hb : 1 ≤ b) (hc : 2 * sz b + 2 ≤ c) (h : Rt (sA b c) r) : r * r ≤ sE b c := by
  obtain ⟨h1, h2, h3⟩ := h
  have ps := sz_pos b
  have hT : tp (sz b + 2) ≤ tp (c - sz b) := tp_mono (by omega)
  rw [tp_add (by omega) (by decide), show tp 2 = 100 from rfl] at hT
  rw [sE_A]
  unfold sA at *
  have pT := tp_pos (c - sz b)
  generalize tp (c - sz b) = T at *
  have hb2 := sz_hi (show 0 ≤ b by omega)
  have k1 : b * 100 ≤ T := by omega
  have k2 : b * 100 * T ≤ T * T := Int.mul_le_mul_of_nonneg_right k1 (by omega)
  have k3 : (10 * (r - 1)) * (10 * (r - 1)) < T * T := by
    rw [show (10 * (r - 1)) * (10 * (r - 1)) = 100 * ((r - 1) * (r - 1)) by rw [show (10 * (r - 1)) * (10 * (r - 1)) = (10 * 10) * ((r - 1) * (r - 1)) by ac_rfl]; rfl]
    rw [show b * 100 * T = 100 * (b * T) by ac_rfl] at k2
    omega
  have k4 := sq_lt (by omega) k3
  rw [sq_pred r]
  omega
theorem sA_tpB {b c : Int} (hb : isB b) (hc : sz b ≤ c) (hc' : c ≤ 60) : 1 ≤ sA b c ∧ sA b c ≤ tp 80 ∧ sE b c + 1 ≤ tp 80 := by
  have h1 := sE_lt hb.1 hc
  have h2 := sA_le (b := b) (c := c)
  have h3 := tp_mono (show c ≤ 80 by omega)
  exact ⟨sA_pos hb.1, by omega, by omega⟩
theorem fLen_txt {v : Int} (h : isT v) : fLen [.str (txtOf v)] = some (.int (sz v)) := by
  have e := txt_sz h.1
  have l := sz_T h
  have := lineOk_of (n := (txtOf v).length) (by omega)
  simp [fLen, this, e]
theorem Rt_up {n r : Int} (hn : 1 ≤ n) (h : Rt n r) : r ≤ n := by
  refine (Rt_le h (by omega)).mpr ?_
  have := Int.mul_le_mul_of_nonneg_right hn (show (0 : Int) ≤ n by omega)
  omega
theorem g_least_root {b : Int} (hb : isB b) : ∃ r, f_least_root [.int b] = .ok (.int r) ∧ 1 ≤ r ∧ beg (r * r) b = true ∧ sz (r * r) ≤ 2 * sz b + 2 ∧ ∀ q, 1 ≤ q → q < r → beg (q * q) b = false := by
  obtain ⟨P, hP⟩ : ∃ P : D → Prop, P = fun d => ∃ r, d = .int r ∧ 1 ≤ r ∧ beg (r * r) b = true ∧ sz (r * r) ≤ 2 * sz b + 2 ∧ ∀ q, 1 ≤ q → q < r → beg (q * q) b = false := ⟨_, rfl⟩
  have hb1 := hb.1
  have ps := sz_pos b
  have q4 := sz_B hb
  suffices h : IsRtP P (b_least_root.ev (args [.int b] 5)) by
    obtain ⟨d, h1, h2⟩ := runF_ofP h
    rw [hP] at h2
    obtain ⟨m, rfl, h2⟩ := h2
    exact ⟨m, h1, h2⟩
  have hS0 := s_stretch_of (c := sz b) hb (by omega) (by omega)
  obtain ⟨r0, hr0⟩ := Rt_ex (sA_pos (c := sz b) hb1)
  have a0 := sA_tpB hb (Int.le_refl _) (by omega)
  have hR0 := s_root_from a0.1 a0.2.1 hr0
  simp [b_least_root, args, s_check_beginning hb, fStrI_is (isT_B hb), fLen_txt (isT_B hb), hS0, hR0]
  refine whF_th (Q := IsRtP P) (fun m e => ∃ c r, sz b ≤ c ∧ c ≤ 2 * sz b + 2 ∧ e = [some (.im (.int b)), some (.im (.int c)), some (.im (.int (sA b c))), some (.im (.int (sE b c))), some (.im (.int r))] ∧ Rt (sA b c) r ∧ (m : Int) = 2 * sz b + 3 - c ∧ ∀ q, 1 ≤ q → beg (q * q) b = true → c ≤ sz (q * q)) (sz b + 3).toNat ⟨sz b, r0, by omega, by omega, rfl, hr0, by omega, fun q _ h => beg_sz h⟩ (by omega) ?_
  rintro m e ⟨c, r, h1, h2, rfl, hr, hm, hz⟩
  have a1 := sA_tpB (c := c) hb h1 (by omega)
  have ru := Rt_up a1.1 hr
  have rp := hr.1
  have mr : sm r = true := sm_tp (k := 80) (by decide) (by have := tp_pos 80; omega) (by omega)
  by_cases hl : r * r ≤ sE b c
  · left
    refine ⟨by simp [fMul_i mr mr]; omega, ?_⟩
    have hi := (inS_iff (z := r * r) hb1 h1).mp ⟨hr.2.1, hl⟩
    simp
    rw [hP]
    refine ⟨r, rfl, rp, hi.2.2, by omega, fun q q1 q2 => ?_⟩
    by_cases hq : beg (q * q) b = true
    · exfalso
      have h3 := hz q q1 hq
      have h4 := (Rt_lt hr (by omega)).mp q2
      have q3 : 1 ≤ q * q := by have := Int.mul_le_mul q1 q1 (by decide) (by omega); omega
      rcases Int.lt_or_le c (sz (q * q)) with k | k
      · have e1 := sE_lt hb1 h1
        have e2 := sz_lo q3
        have e3 := tp_mono (show c ≤ sz (q * q) - 1 by omega)
        have e4 := sA_le (b := b) (c := c)
        omega
      · have := (inS_iff (z := q * q) hb1 h1).mpr ⟨q3, by omega, hq⟩
        omega
    · simpa using hq
  · right
    have hc : c < 2 * sz b + 2 := by
      rcases Int.lt_or_le c (2 * sz b + 2) with k | k
      · exact k
      · exact absurd (sq_there hb1 k hr) hl
    have a2 := sA_tpB (c := c + 1) hb (by omega) (by omega)
    obtain ⟨r', hr'⟩ := Rt_ex (sA_pos (c := c + 1) hb1)
    have hS := s_stretch_of (c := c + 1) hb (by omega) (by omega)
    have hR := s_root_from a2.1 a2.2.1 hr'
    refine ⟨by simp [fMul_i mr mr]; omega, [some (.im (.int b)), some (.im (.int (c + 1))), some (.im (.int (sA b (c + 1)))), some (.im (.int (sE b (c + 1)))), some (.im (.int r'))], by simp [hS, hR], m - 1, by omega, c + 1, r', by omega, by omega, rfl, hr', by omega, fun q q1 hq => ?_⟩
    have h3 := hz q q1 hq
    rcases Int.lt_or_le c (sz (q * q)) with k | k
    · omega
    · exfalso
      have q3 : 1 ≤ q * q := by have := Int.mul_le_mul q1 q1 (by decide) (by omega); omega
      have h4 := (inS_iff (z := q * q) hb1 h1).mpr ⟨q3, by omega, hq⟩
      have h5 := (Rt_le hr (by omega)).mpr h4.1
      have h6 := sq_mono (by omega) h5
      omega
theorem s_roots_small {b c : Int} (hb : isB b) (h1 : 1 ≤ c) (hc : c < sz b) : f_roots_with [.int b, .int c] = .err 4 := by
  refine runF_errOf ?_
  have q4 := sz_B hb
  simp [b_roots_with, args, s_check_beginning hb, s_check_count h1 (show c ≤ 60 by omega), fStrI_is (isT_B hb), fLen_txt (isT_B hb), hc]
theorem s_roots_with {b c r1 r2 : Int} (hb : isB b) (hc : sz b ≤ c) (hc' : c ≤ 60) (h1 : Rt (sA b c) r1) (h2 : Rt (sE b c + 1) r2) : f_roots_with [.int b, .int c] = if r1 ≤ r2 - 1 then .ok (.tuple [.int r1, .int (r2 - 1)]) else .err 4 := by
  have ps := sz_pos b
  obtain ⟨a1, a2, a3⟩ := sA_tpB hb hc hc'
  have hS := s_stretch_of (c := c) hb (by omega) (by omega)
  have hR1 := s_root_from a1 a2 h1
  have hR2 := s_root_from (show 1 ≤ sE b c + 1 by have := sA_le (b := b) (c := c); omega) a3 h2
  have hnc : ¬ c < sz b := by omega
  by_cases q : r1 ≤ r2 - 1
  · rw [if_pos q]
    refine runF_of ?_
    simp [b_roots_with, args, s_check_beginning hb, s_check_count (show 1 ≤ c by omega) hc', fStrI_is (isT_B hb), fLen_txt (isT_B hb), hnc, hS, hR1, hR2, show ¬ (r2 - 1 < r1) by omega, lineOk]
  · rw [if_neg q]
    refine runF_errOf ?_
    simp [b_roots_with, args, s_check_beginning hb, s_check_count (show 1 ≤ c by omega) hc', fStrI_is (isT_B hb), fLen_txt (isT_B hb), hnc, hS, hR1, hR2, show r2 - 1 < r1 by omega, lineOk]
/-- what lies between begins so -/
theorem meet_of_z {ln hn one t z : Int} (h1 : 1 ≤ one) (h1' : one ≤ 9999) (hl : 1 ≤ ln) (hh : hn ≤ 1000000000) (ht : 0 ≤ t) (z1 : ln * tp t ≤ z) (z2 : z < hn * tp t) (hz : beg z one = true) : meetV ln 1 hn 1 one = true := by
  have pt := tp_pos t
  have hz1 : 1 ≤ z := by
    have : 1 * 1 ≤ ln * tp t := Int.mul_le_mul hl pt (by decide) (by omega)
    omega
  obtain ⟨i, hi, a1, a2⟩ := (beg_iff h1 hz1).mp hz
  have pi := tp_pos i
  -- how far the two scales lie apart
  have u1 : i - t ≤ 9 := by
    rcases Int.lt_or_le 9 (i - t) with q | q
    · exfalso
      have e : tp i = tp (i - t) * tp t := by rw [← tp_add (by omega) ht]; congr 1; omega
      have e2 := tp_mono (show 10 ≤ i - t by omega)
      have e3 : 1 * tp i ≤ one * tp i := (le_cancel pi).mpr h1
      have e4 : hn * tp t ≤ 1000000000 * tp t := (le_cancel pt).mpr hh
      have e5 : tp 10 * tp t ≤ tp (i - t) * tp t := (le_cancel pt).mpr e2
      have e6 : tp 10 = 10000000000 := rfl
      rw [e6] at e5
      omega
    · exact q
  have u2 : -4 ≤ i - t := by
    rcases Int.lt_or_le (i - t) (-4) with q | q
    · exfalso
      have e : tp t = tp (t - i) * tp i := by rw [← tp_add (by omega) hi]; congr 1; omega
      have e2 := tp_mono (show 4 ≤ t - i by omega)
      have e3 : 1 * tp t ≤ ln * tp t := (le_cancel pt).mpr hl
      have e5 : tp 4 * tp i ≤ tp (t - i) * tp i := (le_cancel pi).mpr e2
      have e4 : (one + 1) * tp i ≤ 10000 * tp i := (le_cancel pi).mpr (by omega)
      have e6 : tp 4 = 10000 := rfl
      rw [e6] at e5
      omega
    · exact q
  refine meetV_iff.mpr ⟨13 + i - t, by omega, by omega, cnd_iff.mpr ?_⟩
  have p13 := tp_pos 13
  have es : tp (13 + i - t) * tp t = tp 13 * tp i := by rw [← tp_add (by omega) ht, ← tp_add (by decide) hi]; congr 1; omega
  constructor
  · rw [Int.mul_one, ← lt_cancel pt, Int.mul_assoc, es, show one * (tp 13 * tp i) = one * tp i * tp 13 by ac_rfl, show tp 13 * hn * tp t = hn * tp t * tp 13 by ac_rfl, lt_cancel p13]
    omega
  · rw [Int.mul_one, ← lt_cancel pt, Int.mul_assoc (one + 1), es, show (one + 1) * (tp 13 * tp i) = (one + 1) * tp i * tp 13 by ac_rfl, show tp 13 * ln * tp t = ln * tp t * tp 13 by ac_rfl, lt_cancel p13]
    omega
theorem z_of_meet {ln hn one t : Int} (h1 : 1 ≤ one) (hl : 1 ≤ ln) (hh : ln < hn) (ht : 0 ≤ t) (h2 : one + 1 ≤ tp t) (h : meetV ln 1 hn 1 one = true) : ∃ z, ln * tp t ≤ z ∧ z < hn * tp t ∧ beg z one = true := by
  obtain ⟨s, s1, s2, hc⟩ := meetV_iff.mp h
  obtain ⟨c1, c2⟩ := cnd_iff.mp hc
  rw [Int.mul_one] at c1 c2
  have pt := tp_pos t
  have ps := tp_pos s
  have p13 := tp_pos 13
  have hi : 0 ≤ s - 13 + t := by
    rcases Int.lt_or_le (s - 13 + t) 0 with q | q
    · exfalso
      have e : tp 13 = tp (13 - s) * tp s := by rw [← tp_add (by omega) (by omega)]; congr 1; omega
      have e2 := tp_mono (show t ≤ 13 - s by omega)
      have e3 : tp 13 * 1 ≤ tp 13 * ln := Int.mul_le_mul_of_nonneg_left hl (by omega)
      have e4 : (one + 1) * tp s ≤ tp (13 - s) * tp s := (le_cancel ps).mpr (by omega)
      omega
    · exact q
  have pi := tp_pos (s - 13 + t)
  have es : tp s * tp t = tp 13 * tp (s - 13 + t) := by rw [← tp_add (by omega) ht, ← tp_add (by decide) hi]; congr 1; omega
  generalize hI : s - 13 + t = i at *
  have k1 : one * tp i < hn * tp t := by
    rw [← lt_cancel p13, show one * tp i * tp 13 = one * (tp 13 * tp i) by ac_rfl, ← es, show one * (tp s * tp t) = one * tp s * tp t by ac_rfl, show hn * tp t * tp 13 = tp 13 * hn * tp t by ac_rfl, lt_cancel pt]
    exact c1
  have k2 : ln * tp t < (one + 1) * tp i := by
    rw [← lt_cancel p13, show (one + 1) * tp i * tp 13 = (one + 1) * (tp 13 * tp i) by ac_rfl, ← es, show (one + 1) * (tp s * tp t) = (one + 1) * tp s * tp t by ac_rfl, show ln * tp t * tp 13 = tp 13 * ln * tp t by ac_rfl, lt_cancel pt]
    exact c2
  have k3 : ln * tp t < hn * tp t := (lt_cancel pt).mpr hh
  have k4 : one * tp i < (one + 1) * tp i := (lt_cancel pi).mpr (by omega)
  have k5 : 1 * 1 ≤ ln * tp t := Int.mul_le_mul hl pt (by decide) (by omega)
  refine ⟨max (ln * tp t) (one * tp i), by omega, by omega, (beg_iff h1 (by omega)).mpr ⟨i, hi, by omega, by omega⟩⟩
theorem fst_rg {n k : Int} (hn : 1 ≤ n) (hk : 1 ≤ k) (h : k ≤ sz n) : tp (k - 1) ≤ fst n k ∧ fst n k < tp k := by
  obtain ⟨h1, h2⟩ := sz_fst hn hk h
  have a := sz_lo h2
  have b := sz_hi (show 0 ≤ fst n k by omega)
  rw [h1] at a b
  exact ⟨a, b⟩
theorem meetL_mem {ln ld hn hd k z : Int} : z ∈ meetL ln ld hn hd k ↔ (tp (k - 1) ≤ z ∧ z < tp k) ∧ meetV ln ld hn hd z = true := by
  unfold meetL
  rw [List.mem_filter, mem_rg]
/-- the first digits of a root are among the roots -/
theorem root_meet {b n k : Int} (hb : isB b) (hn : 1 ≤ n) (hk : 1 ≤ k) (hk' : k ≤ 4) (hs : k ≤ sz n) (h : beg (n * n) b = true) : meetV (fst n k * fst n k) 1 ((fst n k + 1) * (fst n k + 1)) 1 b = true := by
  have hf := (fst_B (n := n) (k := k) hn hk hk').2 hs
  have b1 := beg_of_fst hn hk hs
  obtain ⟨j, hj, a1, a2⟩ := (beg_iff hf.1 hn).mp b1
  generalize fst n k = f at *
  have f1 := hf.1
  have f2 := hf.2
  have pj := tp_pos j
  refine meet_of_z (t := j + j) (z := n * n) hb.1 hb.2 ?_ ?_ (by omega) ?_ ?_ h
  · have := Int.mul_le_mul f1 f1 (by decide) (show (0 : Int) ≤ f by omega); omega
  · have := mul_B (a := f + 1) (b := f + 1) (by omega) (by omega) (by omega) (by omega); omega
  · rw [tp_add hj hj, show f * f * (tp j * tp j) = (f * tp j) * (f * tp j) by ac_rfl]
    exact sq_mono (Int.mul_nonneg (by omega) (by omega)) a1
  · rw [tp_add hj hj, show (f + 1) * (f + 1) * (tp j * tp j) = ((f + 1) * tp j) * ((f + 1) * tp j) by ac_rfl]
    have h1 := sq_mono (show 0 ≤ n by omega) (show n ≤ (f + 1) * tp j - 1 by omega)
    have h2 := sq_pred ((f + 1) * tp j)
    have h3 : 1 * 1 ≤ (f + 1) * tp j := Int.mul_le_mul (by omega) (by omega) (by decide) (by omega)
    omega
theorem fEq_ts {n : Bool} {a b : Int} {y : Str} (h : PyData.strOk y = true) : fEq n (.tuple [.int a, .int b]) (.str y) = some (.bool n) := by
  unfold fEq
  rw [show SeqAt.shaped (.tuple [.int a, .int b]) = true from rfl, show SeqAt.shaped (.str y) = true from by simp [SeqAt.shaped, PyData.canLay0, PyData.depth, h]]
  cases n <;> simp [PyData.eqv]
theorem none_ok : PyData.strOk "none" = true := by decide +kernel
theorem cnt_pos_iff {p : Int → Bool} {a c : Int} : 0 < cnt p a c ↔ ∃ z, a ≤ z ∧ z < c ∧ p z = true := by
  unfold cnt
  constructor
  · intro h
    obtain ⟨z, hz⟩ := List.exists_mem_of_length_pos (l := (rg a c).filter p) (by omega)
    have := List.mem_filter.mp hz
    have h2 := mem_rg.mp this.1
    exact ⟨z, h2.1, h2.2, this.2⟩
  · rintro ⟨z, h1, h2, h3⟩
    have : z ∈ (rg a c).filter p := List.mem_filter.mpr ⟨mem_rg.mpr ⟨h1, h2⟩, h3⟩
    have := List.length_pos_of_mem this
    omega
theorem meet_cnt {ln hn one t : Int} (h1 : 1 ≤ one) (h1' : one ≤ 9999) (hl : 1 ≤ ln) (hlh : ln < hn) (hh : hn ≤ 1000000000) (ht : 0 ≤ t) (h2 : one + 1 ≤ tp t) : decide (0 < C one (hn * tp t - 1) - C one (ln * tp t - 1)) = meetV ln 1 hn 1 one := by
  have pt := tp_pos t
  have k1 : 1 * 1 ≤ ln * tp t := Int.mul_le_mul hl pt (by decide) (by omega)
  have k2 : ln * tp t < hn * tp t := (lt_cancel pt).mpr hlh
  rw [C_btw (b := one) (by omega) (by omega), show hn * tp t - 1 + 1 = hn * tp t by omega]
  apply Bool.eq_iff_iff.mpr
  rw [decide_eq_true_iff, cnt_pos_iff]
  constructor
  · rintro ⟨z, z1, z2, z3⟩
    exact meet_of_z h1 h1' hl hh ht z1 z2 z3
  · intro h
    exact z_of_meet h1 hl hlh ht h2 h
end FD
set_option Elab.async false
set_option linter.all false
set_option maxRecDepth 100000
set_option maxHeartbeats 4000000
noncomputable section
namespace FD
open PySem L2 TL
/-- the product of two numbers with the same u behind -/
def prd (a b m u : Int) : Int := (a * tp m + u) * (b * tp m + u)
theorem prd_lt {a b m u v : Int} (ha : 1 ≤ a) (hb : 1 ≤ b) (h0 : 0 ≤ u) (h : u < v) : prd a b m u < prd a b m v := by
  unfold prd
  have p := tp_pos m
  have h1 : 1 * 1 ≤ a * tp m := Int.mul_le_mul ha p (by decide) (by omega)
  have h2 : 1 * 1 ≤ b * tp m := Int.mul_le_mul hb p (by decide) (by omega)
  have h3 : (a * tp m + u) * (b * tp m + u) ≤ (a * tp m + u) * (b * tp m + v) := Int.mul_le_mul_of_nonneg_left (by omega) (by omega)
  have h4 : (a * tp m + u) * (b * tp m + v) < (a * tp m + v) * (b * tp m + v) := Int.mul_lt_mul_of_pos_right (by omega) (by omega)
  omega
theorem prd_le {a b m u v : Int} (ha : 1 ≤ a) (hb : 1 ≤ b) (h0 : 0 ≤ u) (h : u ≤ v) : prd a b m u ≤ prd a b m v := by
  rcases Int.lt_or_le u v with q | q
  · exact Int.le_of_lt (prd_lt ha hb h0 q)
  · rw [show u = v by omega]; exact Int.le_refl _
theorem prd_0 {a b m : Int} : prd a b m 0 = a * b * tp m * tp m := by
  unfold prd
  rw [Int.add_zero, Int.add_zero]
  ac_rfl
theorem prd_S {a b m : Int} : prd a b m (tp m) = (a + 1) * (b + 1) * tp m * tp m := by
  unfold prd
  rw [show a * tp m + tp m = (a + 1) * tp m by rw [Int.add_mul, Int.one_mul], show b * tp m + tp m = (b + 1) * tp m by rw [Int.add_mul, Int.one_mul]]
  ac_rfl
theorem prd_1 {a b m : Int} (ha : 1 ≤ a) (hb : 1 ≤ b) : 1 ≤ prd a b m 0 := by
  rw [prd_0]
  have p := tp_pos m
  have h1 : 1 * 1 ≤ a * b := Int.mul_le_mul ha hb (by decide) (by omega)
  have h2 : 1 * 1 ≤ a * b * tp m := Int.mul_le_mul (by omega) p (by decide) (by omega)
  have h3 : 1 * 1 ≤ a * b * tp m * tp m := Int.mul_le_mul (by omega) p (by decide) (by omega)
  omega
theorem prd_4 {a b m : Int} (ha : 1 ≤ a) (hb : 1 ≤ b) : prd a b m (tp m) ≤ 4 * prd a b m 0 := by
  rw [prd_0, prd_S]
  have p := tp_pos m
  have h1 : (a + 1) * (b + 1) ≤ (2 * a) * (2 * b) := Int.mul_le_mul (by omega) (by omega) (by omega) (by omega)
  rw [show (2 * a) * (2 * b) = (2 * 2) * (a * b) by ac_rfl] at h1
  have h2 := Int.mul_le_mul_of_nonneg_right h1 (Int.le_of_lt p)
  have h3 := Int.mul_le_mul_of_nonneg_right h2 (Int.le_of_lt p)
  rw [show 2 * 2 * (a * b) * tp m * tp m = (2 * 2) * (a * b * tp m * tp m) by ac_rfl] at h3
  exact h3
def LB (a b c m : Int) (d : D) : Prop := (∃ u, d = .int u ∧ 0 ≤ u ∧ u < tp m ∧ beg (prd a b m u) c = true ∧ ∀ v, 0 ≤ v → v < u → beg (prd a b m v) c = false) ∨ (d = .none ∧ ∀ v, 0 ≤ v → v < tp m → beg (prd a b m v) c = false)
theorem g_least_behind {a b c m : Int} (ha : isB a) (hb : isB b) (hc : isB c) (m0 : 0 ≤ m) (m9 : m ≤ 12) : ∃ d, f_least_behind [.int a, .int b, .int c, .int m] = .ok d ∧ LB a b c m d := by
  suffices h : IsRtP (LB a b c m) (b_least_behind.ev (args [.int a, .int b, .int c, .int m] 11)) from runF_ofP h
  have ha1 := ha.1
  have ha2 := ha.2
  have hb1 := hb.1
  have hb2 := hb.2
  have hc1 := hc.1
  have hc2 := hc.2
  have T := s_ten (k := m) (by omega) (by omega)
  have p := tp_pos m
  have p12 := tp_mono m9
  have e12 : tp 12 = 1000000000000 := rfl
  have mS := sm_tpk (k := m) (by omega)
  have ab := mul_B (a := a) (b := b) (by omega) (by omega) (by omega) (by omega)
  have mab : sm (a * b) = true := sm_K (isK_of ab.1 (by omega))
  have mabS : sm (a * b * tp m) = true := sm_tp (k := 40) (by decide) (by have := tp_pos 40; have := Int.mul_nonneg ab.1 (Int.le_of_lt p); omega) (by
    have h1 : a * b * tp m ≤ 100000000 * 1000000000000 := Int.mul_le_mul ab.2 (by omega) (by omega) (by decide)
    have h2 : (100000000 * 1000000000000 : Int) ≤ tp 40 := by decide
    omega)
  have P0 := prd_1 (m := m) ha1 hb1
  have P4 := prd_4 (m := m) ha1 hb1
  have hF := prd_0 (a := a) (b := b) (m := m)
  have big : prd a b m (tp m) < tp 40 := by
    rw [prd_S]
    have h0 : (a + 1) * (b + 1) ≤ 10000 * 10000 := Int.mul_le_mul (by omega) (by omega) (by omega) (by decide)
    have h1 : (a + 1) * (b + 1) * tp m ≤ 10000 * 10000 * 1000000000000 := Int.mul_le_mul h0 (by omega) (by omega) (by decide)
    have h2 : (a + 1) * (b + 1) * tp m * tp m ≤ 10000 * 10000 * 1000000000000 * 1000000000000 := Int.mul_le_mul h1 (by omega) (by omega) (by decide)
    have h3 : (10000 * 10000 * 1000000000000 * 1000000000000 : Int) < tp 40 := by decide
    omega
  have uT : ∀ {u}, 0 ≤ u → u ≤ tp m → isT (prd a b m u) ∧ 1 ≤ prd a b m u := fun {u} h h' => by
    have h1 := prd_le (m := m) ha1 hb1 (Int.le_refl 0) h
    have h2 := prd_le (m := m) ha1 hb1 h h'
    exact ⟨⟨by omega, Int.lt_trans (show prd a b m u < tp 40 by omega) (by decide)⟩, by omega⟩
  have FT := (uT (Int.le_refl 0) (Int.le_of_lt p)).1
  have SZ := s_size_of FT
  have SC := s_size_of (isT_B hc)
  have pc := sz_B9 hc
  generalize hn0 : sz (prd a b m 0) = n0 at SZ
  have n01 : 1 ≤ n0 := by rw [← hn0]; exact sz_pos _
  have n02 : n0 ≤ 40 := by rw [← hn0]; exact sz_le (by decide) (by omega) (by have := prd_le (m := m) ha1 hb1 (Int.le_refl 0) (Int.le_of_lt p); omega)
  have r1 : rngOk n0 = true := rngOk_is (by omega) (by omega)
  have r2 : rngOk (n0 + 3) = true := rngOk_is (by omega) (by omega)
  have fm : fMul (.int (a * b * tp m)) (.int (tp m)) = some (.int (prd a b m 0)) := by rw [fMul_i mabS mS, hF]
  simp [b_least_behind, args, T, fMul_i (sm_B ha).1 (sm_B hb).1, fMul_i mab mS, fm, SZ, r1, r2, rangeD_rg]
  have lenR : (rg n0 (n0 + 3)).length = 3 := by rw [rg_length]; omega
  have szle : ∀ v, 0 ≤ v → v < tp m → sz (prd a b m v) ≤ n0 + 1 := fun v v0 v1 => by
    have h1 := prd_lt (m := m) ha1 hb1 v0 v1
    have h2 := sz_hi (show 0 ≤ prd a b m 0 by omega)
    rw [hn0] at h2
    have h3 := tp_add (a := n0) (b := 1) (by omega) (by decide)
    have e1 : tp 1 = 10 := rfl
    rw [e1] at h3
    exact sz_le (by omega) (uT v0 (by omega)).1.1 (by omega)
  refine forF_th2 (Q := IsRtP (LB a b c m)) (fun i e => ∃ o6 o7 o8 o9 o10, e = [some (.im (.int a)), some (.im (.int b)), some (.im (.int c)), some (.im (.int m)), some (.im (.int (tp m))), some (.im (.int (prd a b m 0))), mI o6, mI o7, mI o8, mI o9, mI o10] ∧ ∀ v, 0 ≤ v → v < tp m → beg (prd a b m v) c = true → n0 + i ≤ sz (prd a b m v)) ⟨none, none, none, none, none, by simp [mI], fun v v0 v1 hv => ?_⟩ ?_ ?_
  · have h1 := prd_le (m := m) ha1 hb1 (Int.le_refl 0) v0
    have := sz_mono (show 0 ≤ prd a b m 0 by omega) h1
    omega
  · rintro i n hi e ⟨o6, o7, o8, o9, o10, rfl, inv⟩
    refine ⟨_, by simp; rfl, ?_⟩
    obtain ⟨rfl, hlt⟩ := rg_get hi
    generalize hn : n0 + (i : Int) = n at *
    by_cases q1 : n < sz c
    · left
      simp [SC, show ¬ sz c ≤ n by omega]
      intro v v0 v1 hv
      have h1 := inv v v0 v1 hv
      have h2 := beg_sz hv
      omega
    · have T2 := s_ten (k := n - sz c) (by omega) (by omega)
      have mT2 := sm_tpk (k := n - sz c) (by omega)
      have eA : c * tp (n - sz c) = sA c n := rfl
      have nc : sz c ≤ n := by omega
      simp [SC, nc, T2, fMul_i (sm_B hc).1 mT2, eA, fNeg]
      have p300 : tp 12 + 1 ≤ 2 ^ 60 := by decide
      refine whF_th (Q := fun r => IsNx (fun e => (∃ o6 o7 o8 o9 o10, e = [some (.im (.int a)), some (.im (.int b)), some (.im (.int c)), some (.im (.int m)), some (.im (.int (tp m))), some (.im (.int (prd a b m 0))), mI o6, mI o7, mI o8, mI o9, mI o10]) ∧ ∀ v, 0 ≤ v → v < tp m → beg (prd a b m v) c = true → n0 + ((i : Int) + 1) ≤ sz (prd a b m v)) r ∨ (∃ d e2, r = .rt d e2) ∧ IsRtP (LB a b c m) r)
        (fun k e => ∃ lo hi o, e = [some (.im (.int a)), some (.im (.int b)), some (.im (.int c)), some (.im (.int m)), some (.im (.int (tp m))), some (.im (.int (prd a b m 0))), some (.im (.int n)), some (.im (.int (sA c n))), some (.im (.int lo)), some (.im (.int hi)), mI o] ∧ -1 ≤ lo ∧ lo < hi ∧ hi ≤ tp m ∧ (hi < tp m → sA c n ≤ prd a b m hi) ∧ (0 ≤ lo → prd a b m lo < sA c n) ∧ hi - lo ≤ 2 ^ k) 60 ⟨-1, tp m, o10, rfl, by omega, by omega, by omega, by omega, by omega, by omega⟩ (by decide) ?_
      rintro k e ⟨lo, hi, o, rfl, l0, l1, l2, l3, l4, l5⟩
      by_cases w : hi - lo ≤ 1
      · left
        refine ⟨by simp; omega, ?_⟩
        have elo : lo = hi - 1 := by omega
        subst elo
        have low_ : ∀ v, 0 ≤ v → v < hi → prd a b m v < sA c n := fun v v0 v1 => by
          have h1 := prd_le (m := m) ha1 hb1 v0 (show v ≤ hi - 1 by omega)
          have h2 := l4 (by omega)
          omega
        have min_ : ∀ v, 0 ≤ v → v < hi → beg (prd a b m v) c = true → n0 + ((i : Int) + 1) ≤ sz (prd a b m v) := fun v v0 v1 hv => by
          have h1 := inv v v0 (by omega) hv
          rcases Int.lt_or_le n (sz (prd a b m v)) with z | z
          · omega
          · exfalso
            have := (inS_iff hc1 nc).mpr ⟨(uT v0 (by omega)).2, show sz (prd a b m v) = n by omega, hv⟩
            have := low_ v v0 v1
            omega
        by_cases q2 : hi < tp m
        · obtain ⟨U1, U2⟩ := uT (show 0 ≤ hi by omega) (by omega)
          have BG := s_begins_of U1 U2 (isT_B hc) hc1
          have mA : sm (a * tp m + hi) = true := sm_tp (k := 40) (by decide) (by have := tp_pos 40; have := Int.mul_nonneg (show 0 ≤ a by omega) (Int.le_of_lt p); omega) (by
            have h1 : a * tp m ≤ 10000 * 1000000000000 := Int.mul_le_mul (by omega) (by omega) (by omega) (by decide)
            have h2 : (10000 * 1000000000000 + 1000000000000 : Int) ≤ tp 40 := by decide
            omega)
          have mB : sm (b * tp m + hi) = true := sm_tp (k := 40) (by decide) (by have := tp_pos 40; have := Int.mul_nonneg (show 0 ≤ b by omega) (Int.le_of_lt p); omega) (by
            have h1 : b * tp m ≤ 10000 * 1000000000000 := Int.mul_le_mul (by omega) (by omega) (by omega) (by decide)
            have h2 : (10000 * 1000000000000 + 1000000000000 : Int) ≤ tp 40 := by decide
            omega)
          have eP : (a * tp m + hi) * (b * tp m + hi) = prd a b m hi := rfl
          cases q3 : beg (prd a b m hi) c with
          | true =>
            right
            rw [q3] at BG
            have key : ∀ x : F, IsRtP (LB a b c m) x → (∃ d e2, x = .rt d e2) ∧ IsRtP (LB a b c m) x := fun x hx => ⟨by obtain ⟨d, e, h, _⟩ := hx; exact ⟨d, e, h⟩, hx⟩
            refine key _ ?_
            simp [q2, fMul_i (sm_B ha).1 mS, fMul_i (sm_B hb).1 mS, fMul_i mA mB, eP, BG]
            refine .inl ⟨hi, rfl, by omega, q2, q3, fun v v0 v1 => ?_⟩
            cases q4 : beg (prd a b m v) c with
            | false => rfl
            | true =>
              exfalso
              have h1 := min_ v v0 v1 q4
              have h2 := low_ v v0 v1
              have h3 := sE_lt hc1 nc
              have h4 := sA_le (b := c) (c := n)
              have h5 := sz_lo (uT v0 (by omega)).2
              have h6 := tp_mono (show n ≤ sz (prd a b m v) - 1 by omega)
              omega
          | false =>
            left
            rw [q3] at BG
            simp [q2, fMul_i (sm_B ha).1 mS, fMul_i (sm_B hb).1 mS, fMul_i mA mB, eP, BG]
            intro v v0 v1 hv
            rcases Int.lt_or_le v hi with z | z
            · exact min_ v v0 z hv
            · rcases Int.lt_or_le n (sz (prd a b m v)) with y | y
              · omega
              · exfalso
                have h1 := inv v v0 v1 hv
                have h2 := (inS_iff hc1 nc).mpr ⟨(uT v0 (by omega)).2, show sz (prd a b m v) = n by omega, hv⟩
                have h3 := prd_le (m := m) ha1 hb1 (show 0 ≤ hi by omega) z
                have h4 := (inS_iff (z := prd a b m hi) hc1 nc).mp ⟨l3 q2, by omega⟩
                rw [q3] at h4
                exact absurd h4.2.2 (by decide)
        · left
          simp [q2]
          exact fun v v0 v1 hv => min_ v v0 (by omega) hv
      · right
        have hk : k ≠ 0 := fun z => by subst z; simp at l5; omega
        obtain ⟨k', rfl⟩ : ∃ k', k = k' + 1 := ⟨k - 1, by omega⟩
        have p2 : (2 : Int) ^ (k' + 1) = 2 * 2 ^ k' := by rw [Int.pow_succ]; omega
        rw [p2] at l5
        have m2 : sm 2 = true := sm_of (by decide)
        have hd := fDiv_i (i := lo + hi) (j := 2) (by decide) m2
        generalize hM : (lo + hi) / 2 = M at hd
        have M0 : 0 ≤ M := by omega
        have mA : sm (a * tp m + M) = true := sm_tp (k := 40) (by decide) (by have := tp_pos 40; have := Int.mul_nonneg (show 0 ≤ a by omega) (Int.le_of_lt p); omega) (by
            have h1 : a * tp m ≤ 10000 * 1000000000000 := Int.mul_le_mul (by omega) (by omega) (by omega) (by decide)
            have h2 : (10000 * 1000000000000 + 1000000000000 : Int) ≤ tp 40 := by decide
            omega)
        have mB : sm (b * tp m + M) = true := sm_tp (k := 40) (by decide) (by have := tp_pos 40; have := Int.mul_nonneg (show 0 ≤ b by omega) (Int.le_of_lt p); omega) (by
            have h1 : b * tp m ≤ 10000 * 1000000000000 := Int.mul_le_mul (by omega) (by omega) (by omega) (by decide)
            have h2 : (10000 * 1000000000000 + 1000000000000 : Int) ≤ tp 40 := by decide
            omega)
        have eP : (a * tp m + M) * (b * tp m + M) = prd a b m M := rfl
        refine ⟨by simp; omega, ?_⟩
        by_cases z : sA c n ≤ prd a b m M
        · simp [hd, fMul_i (sm_B ha).1 mS, fMul_i (sm_B hb).1 mS, fMul_i mA mB, eP, z]
          exact ⟨k', by omega, lo, M, ⟨rfl, rfl⟩, by omega, by omega, by omega, fun _ => z, l4, by omega⟩
        · simp [hd, fMul_i (sm_B ha).1 mS, fMul_i (sm_B hb).1 mS, fMul_i mA mB, eP, z]
          exact ⟨k', by omega, M, hi, ⟨rfl, rfl⟩, by omega, by omega, by omega, l3, fun _ => by omega, by omega⟩
  · rintro e ⟨o6, o7, o8, o9, o10, rfl, inv⟩
    simp
    refine .inr ⟨rfl, fun v v0 v1 => ?_⟩
    cases q : beg (prd a b m v) c with
    | false => rfl
    | true =>
      have h1 := inv v v0 v1 q
      have h2 := szle v v0 v1
      rw [lenR] at h1
      omega

theorem least_int (p : Int → Prop) : ∀ (k : Nat), p k → ∃ u, 0 ≤ u ∧ u ≤ (k : Int) ∧ p u ∧ ∀ v, 0 ≤ v → v < u → ¬ p v := by
  intro k
  induction k using Nat.strongRecOn with
  | _ k ih =>
    intro hk
    by_cases h : ∃ j : Nat, j < k ∧ p j
    · obtain ⟨j, hj, pj⟩ := h
      obtain ⟨u, h1, h2, h3⟩ := ih j hj pj
      exact ⟨u, h1, by omega, h3⟩
    · refine ⟨k, by omega, Int.le_refl _, hk, fun v v0 v1 pv => h ⟨v.toNat, by omega, ?_⟩⟩
      rw [show ((v.toNat : Nat) : Int) = v by omega]
      exact pv
theorem prd_step {a b m u : Int} : prd a b m u = prd a b m (u - 1) + (a + b) * tp m + 2 * (u - 1) + 1 := by
  unfold prd
  generalize hu : u - 1 = v
  have : u = v + 1 := by omega
  subst this
  rw [show a * tp m + (v + 1) = (a * tp m + v) + 1 by omega, show b * tp m + (v + 1) = (b * tp m + v) + 1 by omega]
  rw [Int.mul_add, Int.add_mul (a * tp m + v) 1, Int.add_mul a b]
  omega
theorem hit9 {a b c : Int} (ha : isB a) (hb : isB b) (hc : isB c) (h : meetV (a * b) 1 ((a + 1) * (b + 1)) 1 c = true) : ∃ u, 0 ≤ u ∧ u < tp 9 ∧ beg (prd a b 9 u) c = true := by
  obtain ⟨s, s1, s2, hs⟩ := meetV_iff.mp h
  obtain ⟨k1, k2⟩ := cnd_iff.mp hs
  rw [Int.mul_one] at k1 k2
  have ha1 := ha.1
  have ha2 := ha.2
  have hb1 := hb.1
  have hb2 := hb.2
  have hc1 := hc.1
  have hc2 := hc.2
  have pab : 1 * 1 ≤ a * b := Int.mul_le_mul ha1 hb1 (by decide) (by omega)
  have p13 := tp_pos 13
  have s10 : 10 ≤ s := by
    rcases Int.lt_or_le s 10 with q | q
    · exfalso
      have h1 := tp_mono (show s ≤ 9 by omega)
      have h2 : (c + 1) * tp s ≤ 10000 * tp s := (le_cancel (tp_pos s)).mpr (by omega)
      have h3 : tp 13 * 1 ≤ tp 13 * (a * b) := Int.mul_le_mul_of_nonneg_left (by omega) (by omega)
      have e9 : tp 9 = 1000000000 := rfl
      have e13 : tp 13 = 10000000000000 := rfl
      omega
    · exact q
  have eS : tp s = tp 9 * tp (s - 9) := by rw [← tp_add (by decide) (by omega)]; congr 1; omega
  have e13 : tp 13 = tp 9 * tp 4 := by rw [← tp_add (by decide) (by decide)]; rfl
  have e4 : tp 4 = 10000 := rfl
  have p9 := tp_pos 9
  have pX := tp_pos (s - 9)
  have i1 : c * tp (s - 9) < 10000 * ((a + 1) * (b + 1)) := by
    rw [← lt_cancel p9, show c * tp (s - 9) * tp 9 = c * (tp 9 * tp (s - 9)) by ac_rfl, ← eS, ← e4, show tp 4 * ((a + 1) * (b + 1)) * tp 9 = (tp 9 * tp 4) * ((a + 1) * (b + 1)) by ac_rfl, ← e13]
    exact k1
  have i2 : 10000 * (a * b) < (c + 1) * tp (s - 9) := by
    rw [← lt_cancel p9, show (c + 1) * tp (s - 9) * tp 9 = (c + 1) * (tp 9 * tp (s - 9)) by ac_rfl, ← eS, ← e4, show tp 4 * (a * b) * tp 9 = (tp 9 * tp 4) * (a * b) by ac_rfl, ← e13]
    exact k2
  have i3 : c * tp (s - 9) < (c + 1) * tp (s - 9) := (lt_cancel pX).mpr (by omega)
  have i4 : a * b < (a + 1) * (b + 1) := by rw [Int.add_mul, Int.mul_add]; omega
  -- everything is a multiple of 10^14
  have e14 : tp 14 = 100000000000000 := rfl
  have e9 : tp 9 = 1000000000 := rfl
  have i5 : tp (s + 5) = tp (s - 9) * tp 14 := by rw [← tp_add (by omega) (by decide)]; congr 1; omega
  have f0 : prd a b 9 0 = 10000 * (a * b) * 100000000000000 := by rw [prd_0, e9]; omega
  have fS : prd a b 9 (tp 9) = 10000 * ((a + 1) * (b + 1)) * 100000000000000 := by rw [prd_S, e9]; omega
  generalize hX : tp (s - 9) = X at *
  generalize hlo : max (10000 * (a * b)) (c * X) = lo
  generalize hhi : min (10000 * ((a + 1) * (b + 1))) ((c + 1) * X) = hi
  obtain ⟨u, u0, u1, u2, u3⟩ := least_int (fun u => lo * 100000000000000 ≤ prd a b 9 u) (tp 9).toNat (by
    rw [show (((tp 9).toNat : Nat) : Int) = tp 9 by omega, fS]; omega)
  have hu : prd a b 9 u < hi * 100000000000000 := by
    by_cases q : u = 0
    · subst q
      rw [f0] at u2 ⊢
      omega
    · have h1 := u3 (u - 1) (by omega) (by omega)
      have h2 := prd_step (a := a) (b := b) (m := 9) (u := u)
      have h3 : (a + b) * tp 9 ≤ 20000 * tp 9 := (le_cancel p9).mpr (by omega)
      omega
  have hlt : u < tp 9 := by
    rcases Int.lt_or_le u (tp 9) with q | q
    · exact q
    · have := prd_le (a := a) (b := b) (m := 9) ha1 hb1 (show 0 ≤ tp 9 by omega) q
      omega
  have h1 := prd_1 (m := 9) ha1 hb1
  have h2 := prd_le (m := 9) ha1 hb1 (Int.le_refl 0) u0
  refine ⟨u, u0, hlt, (beg_iff hc1 (by omega)).mpr ⟨s + 5, by omega, ?_, ?_⟩⟩
  · rw [i5, e14, ← Int.mul_assoc]; omega
  · rw [i5, e14, ← Int.mul_assoc]; omega
def isExa (a b c : Int) (d : D) : Prop := ∃ m u, 0 ≤ m ∧ m ≤ 9 ∧ d = .tuple [.int (a * tp m + u), .int (b * tp m + u)] ∧ 0 ≤ u ∧ u < tp m ∧ beg (prd a b m u) c = true ∧ (∀ v, 0 ≤ v → v < u → beg (prd a b m v) c = false) ∧ ∀ m' v, 0 ≤ m' → m' < m → 0 ≤ v → v < tp m' → beg (prd a b m' v) c = false
theorem s_example_no {a b c : Int} (ha : isB a) (hb : isB b) (hc : isB c) (h : meetV (a * b) 1 ((a + 1) * (b + 1)) 1 c = false) : f_product_example [.int a, .int b, .int c] = .err 4 := by
  refine runF_errOf ?_
  have M := s_meets (K_prod ha hb).1 K_1 (K_prod ha hb).2 K_1 hc
  rw [h] at M
  simp [b_product_example, args, s_check_beginning ha, s_check_beginning hb, s_check_beginning hc, s_product_bounds ha hb, M]
theorem g_example {a b c : Int} (ha : isB a) (hb : isB b) (hc : isB c) (h : meetV (a * b) 1 ((a + 1) * (b + 1)) 1 c = true) : ∃ d, f_product_example [.int a, .int b, .int c] = .ok d ∧ isExa a b c d := by
  suffices hh : IsRtP (isExa a b c) (b_product_example.ev (args [.int a, .int b, .int c] 7)) from runF_ofP hh
  have M := s_meets (K_prod ha hb).1 K_1 (K_prod ha hb).2 K_1 hc
  rw [h] at M
  obtain ⟨u9, h90, h91, h92⟩ := hit9 ha hb hc h
  obtain ⟨d0, L0, B0⟩ := g_least_behind (m := 0) ha hb hc (by decide) (by decide)
  simp [b_product_example, args, s_check_beginning ha, s_check_beginning hb, s_check_beginning hc, s_product_bounds ha hb, M, L0]
  refine whF_th (Q := IsRtP (isExa a b c)) (fun k e => ∃ m d, e = [some (.im (.int a)), some (.im (.int b)), some (.im (.int c)), some (.im (.tuple [.int (a * b), .int 1])), some (.im (.tuple [.int ((a + 1) * (b + 1)), .int 1])), some (.im (.int m)), some (.im d)] ∧ LB a b c m d ∧ 0 ≤ m ∧ m ≤ 9 ∧ (k : Int) = 9 - m ∧ ∀ m' v, 0 ≤ m' → m' < m → 0 ≤ v → v < tp m' → beg (prd a b m' v) c = false) 9 ⟨0, d0, rfl, B0, by decide, by decide, by decide, fun m' v h1 h2 => by omega⟩ (by decide) ?_
  rintro k e ⟨m, d, rfl, hd, m0, m9, hk, hmin⟩
  have T := s_ten (k := m) (by omega) (by omega)
  have mS := sm_tpk (k := m) (by omega)
  rcases hd with ⟨u, rfl, u0, u1, u2, u3⟩ | ⟨rfl, hno⟩
  · left
    refine ⟨by simp, ?_⟩
    simp [T, fMul_i (sm_B ha).1 mS, fMul_i (sm_B hb).1 mS, lineOk]
    exact ⟨m, u, m0, m9, rfl, u0, u1, u2, u3, hmin⟩
  · right
    have m8 : m < 9 := by
      rcases Int.lt_or_le m 9 with q | q
      · exact q
      · have : m = 9 := by omega
        subst this
        have := hno u9 h90 h91
        rw [h92] at this
        cases this
    obtain ⟨d', L', B'⟩ := g_least_behind (m := m + 1) ha hb hc (by omega) (by omega)
    refine ⟨by simp, [some (.im (.int a)), some (.im (.int b)), some (.im (.int c)), some (.im (.tuple [.int (a * b), .int 1])), some (.im (.tuple [.int ((a + 1) * (b + 1)), .int 1])), some (.im (.int (m + 1))), some (.im d')], by simp [L'], k - 1, by omega, m + 1, d', rfl, B', by omega, by omega, by omega, fun m' v h1 h2 h3 h4 => ?_⟩
    rcases Int.lt_or_le m' m with q | q
    · exact hmin m' v h1 q h3 h4
    · have : m' = m := by omega
      subst this
      exact hno v h3 h4
end FD
set_option Elab.async false
set_option linter.all false
set_option maxRecDepth 100000
set_option maxHeartbeats 4000000
noncomputable section
namespace FD
open PySem L2 TL
/-- a number at hand told by its first digits -/
theorem cnd_first {ln ld hn hd vn vd k : Int} (hvn : 1 ≤ vn) (hvd : 0 < vd) (hN : 1 ≤ vn * tp 30 / vd) (hk : 1 ≤ k) (hs : k + 17 ≤ sz (vn * tp 30 / vd)) (hl : ln * vd ≤ vn * ld) (hld : 0 < ld) (hh : vn * hd < hn * vd) (hhd : 0 < hd) :
    cnd ln ld hn hd (fst (vn * tp 30 / vd) k) (sz (vn * tp 30 / vd) - k - 17) = true := by
  generalize hNN : vn * tp 30 / vd = N at hN hs
  have hb := beg_of_fst hN hk (show k ≤ sz N by omega)
  obtain ⟨z1, z2⟩ := sz_fst hN hk (show k ≤ sz N by omega)
  have hin := beg_in z2 hN hb
  unfold sA sE at hin
  rw [z1] at hin
  have a1 := Int.ediv_mul_le (vn * tp 30) (show vd ≠ 0 by omega)
  have a2 := Int.lt_ediv_add_one_mul_self (vn * tp 30) hvd
  rw [hNN] at a1 a2
  generalize fst N k = one at hin z1 z2
  have e1 : tp (sz N - k) = tp (sz N - k - 17) * tp 17 := by rw [← tp_add (by omega) (by decide)]; congr 1; omega
  have e2 : tp 30 = tp 13 * tp 17 := by rw [← tp_add (by decide) (by decide)]; rfl
  have p17 := tp_pos 17
  generalize sz N - k - 17 = s at e1
  rw [e1] at hin
  rw [e2] at a1 a2
  refine cnd_of hvd ?_ ?_ hl hld hh hhd
  · rw [← le_cancel p17]
    have c : one * (tp s * tp 17) * vd ≤ N * vd := (le_cancel hvd).mpr hin.1
    rw [show one * tp s * vd * tp 17 = one * (tp s * tp 17) * vd by ac_rfl, show tp 13 * vn * tp 17 = vn * (tp 13 * tp 17) by ac_rfl]
    omega
  · rw [← lt_cancel p17]
    have c : (N + 1) * vd ≤ (one + 1) * (tp s * tp 17) * vd := (le_cancel hvd).mpr (by omega)
    rw [show (one + 1) * tp s * vd * tp 17 = (one + 1) * (tp s * tp 17) * vd by ac_rfl, show tp 13 * vn * tp 17 = vn * (tp 13 * tp 17) by ac_rfl]
    omega
/-- how many digits A * 10^30 / B has -/
theorem seen_sz {A B : Int} (hA : 1 ≤ A) (hA' : A ≤ 10000000) (hB : 1 ≤ B) (hB' : B ≤ 10000000) (hq : A ≤ 10000 * B) (hq' : B ≤ 10000 * A) : 1 ≤ A * tp 30 / B ∧ 27 ≤ sz (A * tp 30 / B) ∧ sz (A * tp 30 / B) ≤ 35 := by
  have e30 : tp 30 = tp 26 * 10000 := by rw [show (10000 : Int) = tp 4 from rfl, ← tp_add (by decide) (by decide)]; rfl
  have e34 : tp 34 = tp 30 * 10000 := by rw [show (10000 : Int) = tp 4 from rfl, ← tp_add (by decide) (by decide)]; rfl
  have p26 := tp_pos 26
  have lo : tp 26 ≤ A * tp 30 / B := by
    refine (Int.le_ediv_iff_mul_le (by omega)).mpr ?_
    rw [e30]
    have : B * tp 26 ≤ 10000 * A * tp 26 := (le_cancel p26).mpr hq'
    rw [show A * (tp 26 * 10000) = 10000 * A * tp 26 by ac_rfl, Int.mul_comm]
    exact this
  have hi : A * tp 30 / B < tp 35 := by
    have p30 := tp_pos 30
    refine (Int.ediv_lt_iff_lt_mul (by omega)).mpr ?_
    have e35 : tp 35 = tp 30 * 100000 := by rw [show (100000 : Int) = tp 5 from rfl, ← tp_add (by decide) (by decide)]; rfl
    have : A * tp 30 ≤ 10000 * B * tp 30 := (le_cancel p30).mpr hq
    have h2 : 10000 * B * tp 30 < 100000 * B * tp 30 := (lt_cancel p30).mpr (by omega)
    rw [e35, show tp 30 * 100000 * B = 100000 * B * tp 30 by ac_rfl]
    omega
  have h1 : 1 ≤ A * tp 30 / B := by omega
  refine ⟨h1, ?_, sz_le (by decide) (by omega) hi⟩
  have := sz_ge lo
  omega
section
variable {a b k : Int}
theorem prod_in (ha : isB a) (hb : isB b) {z t c : Int} (t0 : 0 ≤ t) (hc : isB c) (z1 : a * b * tp t ≤ z) (z2 : z < (a + 1) * (b + 1) * tp t) (h : beg z c = true) : meetV (a * b) 1 ((a + 1) * (b + 1)) 1 c = true := by
  have ha1 := ha.1
  have ha2 := ha.2
  have hb1 := hb.1
  have hb2 := hb.2
  have h1 : 1 * 1 ≤ a * b := Int.mul_le_mul ha1 hb1 (by decide) (by omega)
  have h2 := mul_B (a := a + 1) (b := b + 1) (by omega) (by omega) (by omega) (by omega)
  exact meet_of_z hc.1 hc.2 (by omega) (by omega) t0 z1 z2 h
theorem prod_mem (ha : isB a) (hb : isB b) {z t : Int} (k1 : 1 ≤ k) (k4 : k ≤ 4) (hz : 1 ≤ z) (hs : k ≤ sz z) (t0 : 0 ≤ t) (z1 : a * b * tp t ≤ z) (z2 : z < (a + 1) * (b + 1) * tp t) : fst z k ∈ meetL (a * b) 1 ((a + 1) * (b + 1)) 1 k :=
  meetL_mem.mpr ⟨fst_rg hz k1 hs, prod_in ha hb t0 ((fst_B hz k1 k4).2 hs) z1 z2 (beg_of_fst hz k1 hs)⟩

theorem prod_ne (ha : isB a) (hb : isB b) (k1 : 1 ≤ k) (k4 : k ≤ 4) : meetL (a * b) 1 ((a + 1) * (b + 1)) 1 k ≠ [] := by
  have ha1 := ha.1
  have hb1 := hb.1
  have e3 : tp 3 = 1000 := rfl
  have pab : 1 * 1 ≤ a * b := Int.mul_le_mul ha1 hb1 (by decide) (by omega)
  have lt1 : a * b < (a + 1) * (b + 1) := by rw [Int.add_mul, Int.mul_add]; omega
  have sC : 4 ≤ sz (a * b * 1000) := by have := sz_ge (n := a * b * 1000) (k := 3) (by rw [e3]; omega); omega
  exact List.ne_nil_of_mem (prod_mem (k := k) ha hb k1 k4 (show 1 ≤ a * b * 1000 by omega) (by omega) (t := 3) (by decide) (by rw [e3]; exact Int.le_refl _) (by rw [e3]; omega))
theorem root_ne (hb : isB b) (k1 : 1 ≤ k) (k4 : k ≤ 2) : rootL b k ≠ [] := by
  have hb1 := hb.1
  have ps := sz_pos b
  obtain ⟨r, hr⟩ := Rt_ex (sA_pos (c := 2 * sz b + 2) hb1)
  have h1 := sq_there hb1 (Int.le_refl _) hr
  have h2 := (inS_iff (z := r * r) hb1 (show sz b ≤ 2 * sz b + 2 by omega)).mp ⟨hr.2.1, h1⟩
  have h3 := sz_lo h2.1
  have h4 := tp_mono (show 3 ≤ sz (r * r) - 1 by omega)
  have e3 : tp 3 = 1000 := rfl
  have r10 : 10 ≤ r := by
    rcases Int.lt_or_le r 10 with q | q
    · have := sq_mono (show 0 ≤ r by have := hr.1; omega) (show r ≤ 10 by omega)
      omega
    · exact q
  have sr : k ≤ sz r := by have := sz_ge (n := r) (k := 1) (by have e : tp 1 = 10 := rfl; omega); omega
  exact List.ne_nil_of_mem (List.mem_filter.mpr ⟨mem_rg.mpr (fst_rg hr.1 k1 sr), root_meet hb hr.1 k1 (by omega) sr h2.2.2⟩)
theorem sum_in (ha : isB a) (hb : isB b) {z t c : Int} (t0 : 0 ≤ t) (hc : isB c) (z1 : (up4 a + up4 b) * tp t ≤ z) (z2 : z < (up4 a + tp (4 - sz a) + up4 b + tp (4 - sz b)) * tp t) (h : beg z c = true) : meetV (up4 a + up4 b) 1 (up4 a + tp (4 - sz a) + up4 b + tp (4 - sz b)) 1 c = true := by
  have ua := up4_le ha
  have ub := up4_le hb
  have u1 : 1 ≤ up4 a := by
    have : 1 * 1 ≤ a * tp (4 - sz a) := Int.mul_le_mul ha.1 ua.2.2.1 (by decide) (by have := ha.1; omega)
    unfold up4; omega
  exact meet_of_z hc.1 hc.2 (by omega) (by omega) t0 z1 z2 h
theorem sum_ne (ha : isB a) (hb : isB b) (k1 : 1 ≤ k) (k4 : k ≤ 4) : meetL (up4 a + up4 b) 1 (up4 a + tp (4 - sz a) + up4 b + tp (4 - sz b)) 1 k ≠ [] := by
  have ua := up4_le ha
  have ub := up4_le hb
  have u1 : 1 ≤ up4 a := by
    have : 1 * 1 ≤ a * tp (4 - sz a) := Int.mul_le_mul ha.1 ua.2.2.1 (by decide) (by have := ha.1; omega)
    unfold up4; omega
  have e3 : tp 3 = 1000 := rfl
  have hs : 4 ≤ sz ((up4 a + up4 b) * 1000) := by have := sz_ge (n := (up4 a + up4 b) * 1000) (k := 3) (by rw [e3]; omega); omega
  have hn : 1 ≤ (up4 a + up4 b) * 1000 := by omega
  exact List.ne_nil_of_mem (meetL_mem.mpr ⟨fst_rg hn k1 (by omega), sum_in ha hb (t := 3) (by decide) ((fst_B hn k1 k4).2 (by omega)) (by rw [e3]; exact Int.le_refl _) (by rw [e3]; omega) (beg_of_fst hn k1 (by omega))⟩)
theorem quot_ne (ha : isB a) (hb : isB b) (k1 : 1 ≤ k) (k4 : k ≤ 4) : meetL a (b + 1) (a + 1) b k ≠ [] := by
  have ha1 := ha.1
  have ha2 := ha.2
  have hb1 := hb.1
  have hb2 := hb.2
  obtain ⟨n1, n2, n3⟩ := seen_sz (A := a) (B := b) ha1 (by omega) hb1 (by omega) (by omega) (by omega)
  have hr := fst_rg n1 k1 (by omega)
  refine List.ne_nil_of_mem (meetL_mem.mpr ⟨hr, meetV_iff.mpr ⟨sz (a * tp 30 / b) - k - 17, by omega, by omega, cnd_first ha1 (by omega) n1 k1 (by omega) ?_ (by omega) ?_ (by omega)⟩⟩)
  · exact Int.mul_le_mul_of_nonneg_left (by omega) (by omega)
  · rw [Int.add_mul]; omega
end
end FD
set_option Elab.async false
set_option linter.all false
set_option maxRecDepth 100000
set_option maxHeartbeats 4000000
noncomputable section
namespace FD
open PySem PySem.Spec PyProof.Rows L2
open Builtin
/-! ### set(xs), xs a list of ints (by the kit's parts for tuples: code_set_led1, check_set_init_1, set_update_ints) -/
abbrev bornSet (w : World) : Obj := { cls := .type "set", dict := none, data := .set #[] 0 (.fresh 0 0 (!w.params.followText "set-order")) }
abbrev SetDone (w : World) (s : Shared) (ns : List Int) (s₂ : Shared) : Prop := ∃ h' tk c, s₂ = { s with heap := h', toks := tk } ∧ SetR w h' s.heap.objs.size (fun j => decide (j ∈ ns)) c ∧ (∀ b o, s.heap.get? b = some o → h'.get? b = some o)
section
variable {P : Program} {w : World} {A : Around} {E : Value → Shared → Prop} {s : Shared}
theorem set_listI {l : Addr} {items : Array Value} (ns : List Int) {Q : Value → Shared → Prop} (hh : A.handled = none) (hl : s.heap.IsList l items) (hit : IntsAre items.toList ns) (hb : ns.length + 1 < scanBound)
    (h : ∀ s₂, SetDone w s ns s₂ → Q (.ref s.heap.objs.size) s₂) :
    wpAny (model P w) A (call (.type "set") [.ref l]) Q E s := by
  have hisz : items.size = ns.length := by
    have q := IntsAre.length hit
    rwa [Array.length_toList] at q
  have hval : ∀ (i : Nat) (v : Value), items[i]? = some v → ∃ k t, ns[i]? = some k ∧ v = .int k t := fun i v hv => by
    have hi : i < ns.length := by rw [← hisz]; exact (Array.getElem?_eq_some_iff.mp hv).1
    obtain ⟨t, e⟩ := PyProof.Rows.IntsAre.int_at hit i v (by rw [Array.getElem?_toList]; exact hv)
    exact ⟨ns[i], t, List.getElem?_eq_getElem hi, by rw [e, List.getD_eq_getElem?_getD, List.getElem?_eq_getElem hi]; rfl⟩
  -- where the set, the list and the iterator lie
  obtain ⟨H1, eH1⟩ : ∃ H1, H1 = s.heap.push (bornSet w) := ⟨_, rfl⟩
  have hS : H1.get? s.heap.objs.size = some (bornSet w) := by rw [eH1]; exact Heap.get?_push_size _ rfl
  have hT : Shared.TypeIs { s with heap := H1 } (.ref s.heap.objs.size) "set" := ⟨_, hS, rfl⟩
  have hz : H1.objs.size = s.heap.objs.size + 1 := by rw [eH1]; exact Heap.size_push ..
  have hold : ∀ b o, s.heap.get? b = some o → H1.get? b = some o := fun b o e => by rw [eH1]; exact Heap.get?_push_of_some _ e
  obtain ⟨c, tl, hmro⟩ := F.called_set.mro
  have hmade := F.called_set.made
  have hsub := F.called_set.sub
  have h1 := F.called_set.notType
  have h2 := F.called_set.canCreate
  have hct := F.typeCall_set_1 (.ref l)
  refine wpAny_call (codeAny_of_tree ?_)
  show wpAny _ _ (callAny (.type "set") _) _ _ _
  refine wpAny_pure ⟨Code.quiet_builtin _ (by decide +kernel), codeAny_builtin F.entry_type_call ?_⟩
  rw [Around.under_plain (weight_type_call_type "set" [.ref l] []) rfl]
  repeat (any_goals (first | assumption | wp_step))
  refine codeAny_mono (code_set_led1 (.ref l) (E := E) (Q₁ := fun obj s₁ => obj = .ref s.heap.objs.size ∧ s₁ = { s with heap := H1 }) ⟨rfl, by rw [eH1]⟩) fun r s₁ hr => ?_
  cases r with
  | error e => exact hr
  | ok fl =>
    cases fl with
    | ret obj =>
      obtain ⟨rfl, rfl⟩ := hr
      have hli := F.called_set.init.lookup
      have hbi := F.called_set.init.bind (.ref s.heap.objs.size)
      repeat (any_goals (first | assumption | wp_step))
      refine codeAny_mono (codeAny_call_builtin (R := wants (fun r s₂ => r = .none ∧ SetDone w s ns s₂) E) F.called_set.init.plain F.entry_set_init (check_set_init_1 hT ?_)) fun r₂ s₂ hr₂ => ?_
      · obtain ⟨⟨ocls, odict, odata, oslots⟩, hol, hcl, nl, hdl⟩ := hl
        simp only at hcl hdl
        subst hcl
        subst hdl
        have hol' := hold _ _ hol
        have hlist : H1.IsList l items := ⟨_, hol', rfl, nl, rfl⟩
        have hsls := F.sub_list_set
        have hslf := F.sub_list_frozenset
        have hne : (Value.type "list" == Value.type "dict") = false := by decide
        have hlS : l < s.heap.objs.size := Heap.lt_size hol
        have hneI : l ≠ H1.objs.size := Nat.ne_of_lt (by rw [hz]; exact Nat.lt_succ_of_lt hlS)
        have hSf : s.heap.objs.size ∉ [H1.objs.size, l] := by
          intro hmem
          rcases List.mem_cons.mp hmem with e | e
          · exact absurd e (Nat.ne_of_lt (by rw [hz]; exact Nat.lt_succ_self _))
          · exact absurd (List.mem_singleton.mp e) (Nat.ne_of_gt hlS)
        have hh3 : A.in1.in1.in1.handled = none := by simp [hh]
        unfold Builtin.«set.__init__» noKeywords Builtin.Frozenset.updateFrom
        generalize hPI : pyIter = PI
        wp_walk
        subst hPI
        refine wpAny_pyIter_list hlist (wpAny_bind (wpAny_runValue ?_))
        refine set_update_ints ((Walks.list hh3 _ l hneI items).toS) s.heap.objs.size hSf ns hisz hb hval (items.size - 0) 0 _ (by omega) (Nat.zero_le _)
          ⟨⟨_, Heap.get?_push_size _ rfl, rfl, rfl⟩, hlist.push _⟩ ⟨0, Nat.le_refl 0, setR_new_at (Heap.get?_push_of_some _ hS)⟩ ?_
        intro s' c' hm hc' hS'
        obtain ⟨h', g2, d', tk', os'⟩ := s'
        have eg : g2 = s.gens := hm.gens
        have ed : d' = s.drawn := hm.drawn
        have eo : os' = s.os := hm.os
        subst eg
        subst ed
        subst eo
        show wpAny _ _ _ _ _ _
        refine wpAny_pure ?_
        show wpAny _ _ (ret Value.none) _ _ _
        refine wpAny_pure ⟨rfl, h', tk', c', rfl, hS', fun b o e => ?_⟩
        have hb0 : b < s.heap.objs.size := Heap.lt_size e
        refine hm.heap b o (fun hmem => ?_) (Heap.get?_push_of_some _ (hold b o e))
        rcases List.mem_cons.mp hmem with e | e
        · exact absurd e (Nat.ne_of_lt hb0)
        · exact absurd (List.mem_singleton.mp e) (Nat.ne_of_lt (by rw [hz]; exact Nat.lt_succ_of_lt hb0))
      · cases r₂ with
        | error e => exact hr₂
        | ok fl₂ =>
          cases fl₂ with
          | ret r =>
            obtain ⟨rfl, done⟩ := hr₂
            repeat (any_goals (first | assumption | wp_step))
            exact h _ done
          | _ => exact hr₂.elim
    | _ => exact hr.elim
end
section
variable {X : Cx}
def rSetL (K : PySem.W.Frag) (w : World) : List V → Hp → VK → Prop := fun xs H Q => ∃ (l : Addr) (ns : List Int), xs = [V.ref l] ∧ SqL K H l (ns.map V.int) ∧ ns.length + 1 < scanBound ∧
  ∀ a n, H a = none → (∀ ms : List Int, ms.Nodup → (∀ k, k ∈ ms ↔ k ∈ ns) → n = ms.length) → Q (.ref a) (upd H a (SetO w a (fun j => decide (j ∈ ns)) n))
theorem cr_setL (hc : X.calm = true) : CallR X (.type "set") (rSetL X.K X.w) := by
  intro pins s σ H xs us Q I r h
  obtain ⟨l, ns, rfl, hl, hb, q⟩ := h
  rw [Vals.ref1 r]
  obtain ⟨its, rv, pl, hz⟩ := I.list hl
  have hn : H s.heap.objs.size = none := I.hok.fresh (Nat.le_refl _)
  refine set_listI (P := X.prog) (w := X.w) ns (I.ok.hd hc) pl.isList (by simpa using ints_of_vals rv) hb fun s₂ ⟨h', tk, c, e, R, k⟩ => ?_
  subst e
  refine ⟨.ref s.heap.objs.size, upd H s.heap.objs.size (SetO X.w s.heap.objs.size (fun j => decide (j ∈ ns)) c), I.laid (t' := tk) k (Nat.le_refl _) (setO_new R), rfl, q _ c hn fun ms nd hm => ?_⟩
  obtain ⟨o, es, ep, t, -, -, -, -, hnd, hmem, -, -, hsz, -⟩ := R
  have : (es.toList.map keyOf).Perm ms := (List.perm_ext_iff_of_nodup hnd nd).mpr fun k => by
    rw [← hmem k, decide_eq_true_iff, hm k]
  have := this.length_eq
  rw [List.length_map, Array.length_toList] at this
  omega
end
/-- a row without what comes again -/
def dd : List Int → List Int
  | [] => []
  | x :: r => if x ∈ r then dd r else x :: dd r
theorem mem_dd : ∀ {xs : List Int} {z : Int}, z ∈ dd xs ↔ z ∈ xs
  | [], z => Iff.rfl
  | x :: r, z => by
    unfold dd
    split
    · rename_i h
      rw [mem_dd (xs := r), List.mem_cons]
      exact ⟨.inr, fun k => k.elim (fun e => e ▸ h) id⟩
    · rw [List.mem_cons, List.mem_cons, mem_dd (xs := r)]
theorem nodup_dd : ∀ xs : List Int, (dd xs).Nodup
  | [] => List.nodup_nil
  | x :: r => by
    unfold dd
    split
    · exact nodup_dd r
    · rename_i h
      exact List.nodup_cons.mpr ⟨fun k => h (mem_dd.mp k), nodup_dd r⟩
/-- sorted(set(xs)) -/
def ssI (ns : List Int) : List Int := sortI (dd ns)
theorem mem_ssI {ns : List Int} {z : Int} : z ∈ ssI ns ↔ z ∈ ns := by
  unfold ssI
  rw [(sortI_perm _).mem_iff, mem_dd]
theorem ssI_rise (ns : List Int) : (ssI ns).Pairwise (· < ·) := by
  have h1 := sortI_sorted (dd ns)
  have h2 : (ssI ns).Nodup := (sortI_perm _).nodup_iff.mpr (nodup_dd ns)
  unfold ssI at h2 ⊢
  exact (h1.and h2).imp fun ⟨a, b⟩ => by omega
theorem ssI_nodup (ns : List Int) : (ssI ns).Nodup := (ssI_rise ns).imp fun h => by omega
def fSS (ns : List Int) : Option (List D) := if lk (decide (ns.length ≤ 4000)) && lk (decide ((ssI ns).length < 64)) then some ((ssI ns).map .int) else none
def CL.sortedSet (a : CE) : CL where
  t := fun G W => fun σ H Q => ∀ w, tCB (rSortedSet w) (tCons (tCB (rSetL G.K w) (tCons (a.t G W) tNil)) tNil) σ H Q
  ev := fun env => (a.ev env).bind fun x e1 => match x with
    | .list ds => R.lift ((intsD ds).bind fSS) e1
    | _ => .bad
  ok := fun {G B σ env H I W Q} S P w => a.ok S (LPost.bind P fun x e1 v H1 I1 S1 ex1 r1 P1 => by
    cases r1 with
    | @lst ad ws es h q =>
      have P1' : LPost G B σ W I1 Q (R.lift ((intsD es).bind fSS) e1) := P1
      cases qi : intsD es with
      | none => rw [qi] at P1'; exact P1'.elim
      | some ns =>
        rw [qi] at P1'
        have := intsD_eq qi
        subst this
        have := q.ints
        subst this
        simp only [Option.bind_some, fSS] at P1'
        split at P1'
        · rename_i c
          rw [Bool.and_eq_true] at c
          have c1 := of_lk c.1
          have c2 := of_lk c.2
          refine ⟨ad, ns, rfl, sqL_fun (S1.ih _ _ h), by unfold scanBound; omega, fun sa n ha hn => ?_⟩
          have en := hn (ssI ns) (ssI_nodup ns) fun k => mem_ssI
          obtain ⟨S2, e2⟩ := S1.alloc (o := SetO w sa (fun j => decide (j ∈ ns)) n) ha
          refine ⟨sa, _, n, rfl, upd_same, by omega, fun ns' p hr hm hl hp => ?_⟩
          have e : ns' = ssI ns := rise_ext hr (ssI_rise ns) fun z => by rw [hm z, decide_eq_true_iff, mem_ssI]
          subst e
          exact P1' p _ _ _ S2 e2 hp (Reps.ofInts _)
        · exact P1'.elim
    | _ => exact P1.elim)
  pu := a.pu
  pok := fun p env d env' h => by
    obtain ⟨x, e1, h1, h⟩ := R.bind_eq_ok h
    split at h
    · rw [(R.lift_eq_ok h).2]; exact a.pok p _ _ _ h1
    · cases h
section
variable {X : Cx} {G : Gm} {W : WX} {e : Expr} {ca : CE} {pos : Pos}
theorem j_sortedSet {p p2 : Pos} {pos2 : Pos} (o : Ok X G W) (hm : X.mg "sorted" = none) (hm2 : X.mg "set" = none) (ha : PE X e (ca.t G W)) (hg : Gl X "sorted" := by rfl) (hg2 : Gl X "set" := by rfl)
    (he : starEach (e :: []) X.env = (false, eval e X.env) :: starEach [] X.env := by rfl) (hpl2 : (backTo pos2 (starEach [] X.env)).any (·.1) = false := by rfl)
    (he2 : starEach [.Call (.Name "set" p2) [e] [] pos2] X.env = (false, eval (.Call (.Name "set" p2) [e] [] pos2) X.env) :: starEach [] X.env := by rfl) (hpl : (backTo pos (starEach [] X.env)).any (·.1) = false := by rfl) :
    PE X (.Call (.Name "sorted" p) [.Call (.Name "set" p2) [e] [] pos2] [] pos) ((CL.sortedSet ca).t G W) := by
  have h1 : CallR X (.type "set") (rSetL G.K X.w) := by rw [← o.hK]; exact cr_setL o.calm
  have h2 := pe_callTy (pos := pos2) (p := p2) h1 hg2 hm2 (by decide +kernel) (pa_cons ha pa_nil he) (by decide) (by decide) he hpl2
  have h3 := pe_callB (pos := pos) (p := p) (cr_sortedSet o.calm) hg hm (by decide +kernel) (pa_cons h2 pa_nil he2) (by decide) (by decide) he2 hpl
  exact ⟨fun pins s σ H Q I q => h3.run pins s σ H Q I (q X.w)⟩
end
@[simp] theorem sortedSet_ev {a : CE} {env : Env} : (CL.sortedSet a).ev env = (a.ev env).bind fun x e1 => match x with
    | .list ds => R.lift ((intsD ds).bind fSS) e1
    | _ => .bad := Eq.trans rfl rfl
theorem fSS_is {ns : List Int} (h1 : ns.length ≤ 4000) (h2 : (ssI ns).length < 64) : fSS ns = some ((ssI ns).map .int) := by
  unfold fSS
  rw [lk_of h1, lk_of h2]
  rfl
/-- what it is, told by its members -/
theorem ssI_eq {ns ms : List Int} (hr : ms.Pairwise (· < ·)) (hm : ∀ z, z ∈ ns ↔ z ∈ ms) : ssI ns = ms := rise_ext (ssI_rise ns) hr fun z => by rw [mem_ssI, hm z]
theorem fSS_eq {ns ms : List Int} (h1 : ns.length ≤ 4000) (hr : ms.Pairwise (· < ·)) (hm : ∀ z, z ∈ ns ↔ z ∈ ms) (h2 : ms.length < 64) : fSS ns = some (ms.map .int) := by
  have e := ssI_eq hr hm
  rw [fSS_is h1 (by rw [e]; exact h2), e]
end FD
set_option Elab.async false
set_option linter.all false
set_option maxRecDepth 100000
set_option maxHeartbeats 4000000
noncomputable section
namespace FD
open PySem L2 TL
/-- a beginning meets if one that is longer by one digit does -/
theorem meet_div {ln ld hn hd w : Int} (hld : 1 ≤ ld) (hld' : ld ≤ 100000) (hhd : 1 ≤ hd) (hln : 1 ≤ ln) (hhn : hn ≤ 1000000000) (h : ln * hd < hn * ld) (w1 : 1 ≤ w) (w2 : w ≤ 9999) :
    meetV ln ld hn hd w = true ↔ ∃ z, 10 * w ≤ z ∧ z ≤ 10 * w + 9 ∧ meetV ln ld hn hd z = true := by
  have p13 := tp_pos 13
  constructor
  · intro hm
    obtain ⟨s, s1, s2, hs⟩ := meetV_iff.mp hm
    obtain ⟨c1, c2⟩ := cnd_iff.mp hs
    have s3 : 2 ≤ s := by
      rcases Int.lt_or_le s 2 with q | q
      · exfalso
        have e : s = 1 := by omega
        subst e
        rw [show tp 1 = 10 from rfl, show tp 13 = 10000000000000 from rfl] at c2
        have h1 : (w + 1) * 10 * ld ≤ 100000 * 100000 := Int.mul_le_mul (by omega) hld' (by omega) (by decide)
        omega
      · exact q
    have eT : tp s = 10 * tp (s - 1) := by
      have := tp_succ (a := s - 1) (by omega)
      rw [show s - 1 + 1 = s by omega] at this
      omega
    rw [eT] at c1 c2
    have pT := tp_pos (s - 1)
    generalize hT : tp (s - 1) = T at *
    obtain ⟨i, i0, i1, i2, i3⟩ := least_int (fun i => tp 13 * ln < (10 * w + i + 1) * T * ld) 9 (by
      show tp 13 * ln < (10 * w + (9 : Nat) + 1) * T * ld
      rw [show (10 * w + ((9 : Nat) : Int) + 1) = (w + 1) * 10 by omega, Int.mul_assoc (w + 1) 10]
      exact c2)
    refine ⟨10 * w + i, by omega, by omega, meetV_iff.mpr ⟨s - 1, by omega, by omega, cnd_iff.mpr ?_⟩⟩
    rw [hT]
    refine ⟨?_, i2⟩
    by_cases q : i = 0
    · subst q
      rw [Int.add_zero, show 10 * w * T * hd = w * (10 * T) * hd by ac_rfl]
      exact c1
    · have h1 := i3 (i - 1) (by omega) (by omega)
      rw [show 10 * w + (i - 1) + 1 = 10 * w + i by omega] at h1
      have h2 : (10 * w + i) * T * ld * hd ≤ tp 13 * ln * hd := (le_cancel hhd).mpr (by omega)
      have h3 : ln * hd * tp 13 < hn * ld * tp 13 := (lt_cancel p13).mpr h
      rw [← lt_cancel hld, show (10 * w + i) * T * hd * ld = (10 * w + i) * T * ld * hd by ac_rfl, show tp 13 * hn * ld = hn * ld * tp 13 by ac_rfl]
      rw [show tp 13 * ln * hd = ln * hd * tp 13 by ac_rfl] at h2
      omega
  · rintro ⟨z, z1, z2, hm⟩
    obtain ⟨s, s1, s2, hs⟩ := meetV_iff.mp hm
    obtain ⟨c1, c2⟩ := cnd_iff.mp hs
    have s24 : s ≤ 24 := by
      rcases Int.lt_or_le 24 s with q | q
      · exfalso
        have e : s = 25 := by omega
        subst e
        have h1 : 1 * tp 25 ≤ z * tp 25 := (le_cancel (tp_pos 25)).mpr (by omega)
        have h2 : z * tp 25 * 1 ≤ z * tp 25 * hd := Int.mul_le_mul_of_nonneg_left hhd (by have := tp_pos 25; omega)
        have h3 : tp 13 * hn ≤ tp 13 * 1000000000 := Int.mul_le_mul_of_nonneg_left hhn (by omega)
        have h4 : tp 13 * 1000000000 < tp 25 := by decide
        omega
      · exact q
    have eT : tp (s + 1) = 10 * tp s := by
      have := tp_succ (a := s) (by omega)
      omega
    have pT := tp_pos s
    refine meetV_iff.mpr ⟨s + 1, by omega, by omega, cnd_iff.mpr ?_⟩
    rw [eT]
    generalize tp s = T at *
    constructor
    · have h1 : 10 * w * T * hd ≤ z * T * hd := Int.mul_le_mul_of_nonneg_right ((le_cancel pT).mpr z1) (by omega)
      rw [show w * (10 * T) * hd = 10 * w * T * hd by ac_rfl]
      omega
    · have h1 : (z + 1) * T * ld ≤ (10 * w + 10) * T * ld := Int.mul_le_mul_of_nonneg_right ((le_cancel pT).mpr (by omega)) (by omega)
      rw [show (w + 1) * (10 * T) * ld = (10 * w + 10) * T * ld by rw [show 10 * w + 10 = (w + 1) * 10 by omega]; ac_rfl]
      omega
theorem div_map (xs : List Int) : (xs.map fun z => PyData.int (z / 10)) = (xs.map (· / 10)).map .int := by rw [List.map_map]; rfl
theorem rg9_len {xs : List Int} (h : ∀ z ∈ xs, 1 ≤ z ∧ z ≤ 9) (hr : xs.Pairwise (· < ·)) : xs.length ≤ 9 := by
  have : xs = (rg 1 10).filter fun z => decide (z ∈ xs) := rise_ext hr (rise_filter (rg_sorted _ _)) fun z => by
    rw [List.mem_filter, mem_rg, decide_eq_true_iff]
    exact ⟨fun k => ⟨by have := h z k; omega, k⟩, fun k => k.2⟩
  rw [this]
  refine Nat.le_trans (List.length_filter_le _ _) ?_
  rw [rg_length]
  decide
theorem meetL_rise {ln ld hn hd k : Int} : (meetL ln ld hn hd k).Pairwise (· < ·) := rise_filter (rg_sorted _ _)
theorem rootL_rise {b k : Int} : (rootL b k).Pairwise (· < ·) := rise_filter (rg_sorted _ _)
theorem meetL_len {ln ld hn hd k : Int} (k4 : k ≤ 4) : (meetL ln ld hn hd k).length ≤ 10000 := by
  refine Nat.le_trans (List.length_filter_le _ _) ?_
  rw [rg_length]
  have := tp_pos (k - 1)
  have := tp_le4 k4
  omega
theorem rootL_len {b k : Int} (k4 : k ≤ 4) : (rootL b k).length ≤ 10000 := by
  refine Nat.le_trans (List.length_filter_le _ _) ?_
  rw [rg_length]
  have := tp_pos (k - 1)
  have := tp_le4 k4
  omega
theorem meetL2_len {ln ld hn hd : Int} : (meetL ln ld hn hd 2).length ≤ 90 := by
  refine Nat.le_trans (List.length_filter_le _ _) ?_
  rw [rg_length]
  decide
theorem rootL2_len {b : Int} : (rootL b 2).length ≤ 90 := by
  refine Nat.le_trans (List.length_filter_le _ _) ?_
  rw [rg_length]
  decide
theorem rg_1 : tp (1 - 1) = 1 ∧ tp 1 = 10 ∧ tp (2 - 1) = 10 ∧ tp 2 = 100 := ⟨rfl, rfl, rfl, rfl⟩
/-- sorted(set(z // 10 ..)) of those with two digits are those with one -/
theorem fSS_meet {ln ld hn hd : Int} (hld : 1 ≤ ld) (hld' : ld ≤ 100000) (hhd : 1 ≤ hd) (hln : 1 ≤ ln) (hhn : hn ≤ 1000000000) (h : ln * hd < hn * ld) :
    fSS ((meetL ln ld hn hd 2).map (· / 10)) = some ((meetL ln ld hn hd 1).map .int) := by
  obtain ⟨t0, t1, t2, t3⟩ := rg_1
  refine fSS_eq (by rw [List.length_map]; have := meetL2_len (ln := ln) (ld := ld) (hn := hn) (hd := hd); omega) meetL_rise (fun z => ?_) ?_
  · rw [List.mem_map, meetL_mem]
    constructor
    · rintro ⟨y, hy, rfl⟩
      obtain ⟨⟨y1, y2⟩, hm⟩ := meetL_mem.mp hy
      refine ⟨⟨by omega, by omega⟩, (meet_div hld hld' hhd hln hhn h (by omega) (by omega)).mpr ⟨y, by omega, by omega, hm⟩⟩
    · rintro ⟨⟨z1, z2⟩, hm⟩
      obtain ⟨y, y1, y2, hy⟩ := (meet_div hld hld' hhd hln hhn h (by omega) (by omega)).mp hm
      exact ⟨y, meetL_mem.mpr ⟨⟨by omega, by omega⟩, hy⟩, by omega⟩
  · have := rg9_len (xs := meetL ln ld hn hd 1) (fun z hz => by have := (meetL_mem.mp hz).1; omega) meetL_rise
    omega
theorem rootL_mem {b k z : Int} : z ∈ rootL b k ↔ (tp (k - 1) ≤ z ∧ z < tp k) ∧ meetV (z * z) 1 ((z + 1) * (z + 1)) 1 b = true := by
  unfold rootL
  rw [List.mem_filter, mem_rg]
theorem sq_1 {r : Int} (h : 1 ≤ r) : 1 ≤ r * r := by have := Int.mul_le_mul h h (by decide) (show (0 : Int) ≤ r by omega); omega
theorem sq_step {r : Int} (h : 0 ≤ r) : r * r < (r + 1) * (r + 1) := by have := sq_pred (r + 1); rw [show r + 1 - 1 = r by omega] at this; omega
theorem root_z {b r t : Int} (hb : isB b) (hr : 1 ≤ r) (hr' : r ≤ 9999) (ht : 4 ≤ t) : meetV (r * r) 1 ((r + 1) * (r + 1)) 1 b = true ↔ ∃ z, r * r * tp t ≤ z ∧ z < (r + 1) * (r + 1) * tp t ∧ beg z b = true := by
  have h1 := sq_1 hr
  have h2 := sq_step (r := r) (by omega)
  have h3 := mul_B (a := r + 1) (b := r + 1) (by omega) (by omega) (by omega) (by omega)
  have h4 := tp_mono ht
  have e4 : tp 4 = 10000 := rfl
  have := hb.2
  exact ⟨fun h => z_of_meet hb.1 h1 h2 (by omega) (by omega) h, fun ⟨z, z1, z2, z3⟩ => meet_of_z hb.1 hb.2 h1 (by omega) (by omega) z1 z2 z3⟩
theorem root_div {b w : Int} (hb : isB b) (w1 : 1 ≤ w) (w2 : w ≤ 99) : meetV (w * w) 1 ((w + 1) * (w + 1)) 1 b = true ↔ ∃ r, 10 * w ≤ r ∧ r ≤ 10 * w + 9 ∧ meetV (r * r) 1 ((r + 1) * (r + 1)) 1 b = true := by
  have e6 : tp 6 = 1000000 := rfl
  have e8 : tp 8 = 100 * tp 6 := rfl
  have p6 := tp_pos 6
  rw [root_z (t := 8) hb w1 (by omega) (by decide)]
  constructor
  · rintro ⟨z, z1, z2, z3⟩
    obtain ⟨i, i0, i1, i2, i3⟩ := least_int (fun i => z < (10 * w + i + 1) * (10 * w + i + 1) * tp 6) 9 (by
      show z < (10 * w + (9 : Nat) + 1) * (10 * w + (9 : Nat) + 1) * tp 6
      rw [show (10 * w + ((9 : Nat) : Int) + 1) = (w + 1) * 10 by omega, show (w + 1) * 10 * ((w + 1) * 10) * tp 6 = (w + 1) * (w + 1) * (10 * 10 * tp 6) by ac_rfl]
      exact z2)
    refine ⟨10 * w + i, by omega, by omega, (root_z (t := 6) hb (by omega) (by omega) (by decide)).mpr ⟨z, ?_, i2, z3⟩⟩
    by_cases q : i = 0
    · subst q
      rw [Int.add_zero, show 10 * w * (10 * w) * tp 6 = w * w * (10 * 10 * tp 6) by ac_rfl]
      exact z1
    · have h1 := i3 (i - 1) (by omega) (by omega)
      rw [show 10 * w + (i - 1) + 1 = 10 * w + i by omega] at h1
      omega
  · rintro ⟨r, r1, r2, hm⟩
    obtain ⟨z, z1, z2, z3⟩ := (root_z (t := 6) hb (by omega) (by omega) (by decide)).mp hm
    refine ⟨z, ?_, ?_, z3⟩
    · have h1 : 10 * w * (10 * w) * tp 6 ≤ r * r * tp 6 := (le_cancel p6).mpr (sq_mono (by omega) r1)
      rw [show 10 * w * (10 * w) * tp 6 = w * w * (10 * 10 * tp 6) by ac_rfl] at h1
      rw [e8]
      exact Int.le_trans h1 z1
    · have h1 : (r + 1) * (r + 1) * tp 6 ≤ (10 * (w + 1)) * (10 * (w + 1)) * tp 6 := (le_cancel p6).mpr (sq_mono (by omega) (by omega))
      rw [show (10 * (w + 1)) * (10 * (w + 1)) * tp 6 = (w + 1) * (w + 1) * (10 * 10 * tp 6) by ac_rfl] at h1
      rw [e8]
      exact Int.lt_of_lt_of_le z2 h1
theorem fSS_root {b : Int} (hb : isB b) : fSS ((rootL b 2).map (· / 10)) = some ((rootL b 1).map .int) := by
  obtain ⟨t0, t1, t2, t3⟩ := rg_1
  refine fSS_eq (by rw [List.length_map]; have := rootL2_len (b := b); omega) rootL_rise (fun z => ?_) ?_
  · rw [List.mem_map, rootL_mem]
    constructor
    · rintro ⟨y, hy, rfl⟩
      obtain ⟨⟨y1, y2⟩, hm⟩ := rootL_mem.mp hy
      exact ⟨⟨by omega, by omega⟩, (root_div hb (by omega) (by omega)).mpr ⟨y, by omega, by omega, hm⟩⟩
    · rintro ⟨⟨z1, z2⟩, hm⟩
      obtain ⟨y, y1, y2, hy⟩ := (root_div hb (by omega) (by omega)).mp hm
      exact ⟨y, rootL_mem.mpr ⟨⟨by omega, by omega⟩, hy⟩, by omega⟩
  · have := rg9_len (xs := rootL b 1) (fun z hz => by have := (rootL_mem.mp hz).1; omega) rootL_rise
    omega
/-- what begins so goes on with one of the longer ones -/
theorem beg_part {z b : Int} (hb : isB b) (h3 : sz b ≤ 3) (hz : 1 ≤ z) (hs : sz b + 1 ≤ sz z) : beg z b = true ↔ ∃ p ∈ longerL b (sz b + 1), beg z p = true := by
  have ps := sz_pos b
  constructor
  · intro h
    have h1 := sz_fst hz (show 1 ≤ sz b + 1 by omega) hs
    have h2 := beg_of_fst hz (show 1 ≤ sz b + 1 by omega) hs
    exact ⟨fst z (sz b + 1), (longerL_mem hb (by omega) (by omega)).mpr ⟨h1.1, h1.2, beg_comp hz h1.2 hb.1 h2 h (by omega)⟩, h2⟩
  · rintro ⟨p, hp, h⟩
    obtain ⟨p1, p2, p3⟩ := (longerL_mem hb (by omega) (by omega)).mp hp
    exact beg_trans hz p2 hb.1 h p3
theorem root_parts {b r : Int} (hb : isB b) (h3 : sz b ≤ 3) (r1 : 1 ≤ r) (r2 : r ≤ 9999) : meetV (r * r) 1 ((r + 1) * (r + 1)) 1 b = true ↔ ∃ p ∈ longerL b (sz b + 1), meetV (r * r) 1 ((r + 1) * (r + 1)) 1 p = true := by
  have ps := sz_pos b
  have big : ∀ z, r * r * tp 8 ≤ z → 1 ≤ z ∧ sz b + 1 ≤ sz z := fun z h => by
    have h1 : 1 * tp 8 ≤ r * r * tp 8 := (le_cancel (tp_pos 8)).mpr (sq_1 r1)
    have := tp_pos 8
    have := sz_ge (n := z) (k := 8) (by omega)
    omega
  rw [root_z (t := 8) hb r1 r2 (by decide)]
  constructor
  · rintro ⟨z, z1, z2, z3⟩
    obtain ⟨hz, hs⟩ := big z z1
    obtain ⟨p, hp, h⟩ := (beg_part hb h3 hz hs).mp z3
    exact ⟨p, hp, (root_z (t := 8) (longerL_B hb (by omega) (by omega) hp) r1 r2 (by decide)).mpr ⟨z, z1, z2, h⟩⟩
  · rintro ⟨p, hp, h⟩
    obtain ⟨z, z1, z2, z3⟩ := (root_z (t := 8) (longerL_B hb (by omega) (by omega) hp) r1 r2 (by decide)).mp h
    obtain ⟨hz, hs⟩ := big z z1
    exact ⟨z, z1, z2, (beg_part hb h3 hz hs).mpr ⟨p, hp, z3⟩⟩
end FD
set_option Elab.async false
set_option linter.all false
set_option maxRecDepth 100000
set_option maxHeartbeats 4000000
noncomputable section
namespace FD
open PySem L2 TL
def isIntV (d : D) (lo hi : Int) : Bool := match d with
  | .int v => decide (lo ≤ v) && decide (v ≤ hi)
  | _ => false
/-- values of built-in types -/
def okD : D → Prop
  | .dict _ => False
  | _ => True
@[simp] theorem ty_ni : (tyName .none).bind (fun n => (kitB n "int").map PyData.bool) = some (.bool false) := Eq.trans rfl rfl
@[simp] theorem ty_si {x : Str} : (tyName (.str x)).bind (fun n => (kitB n "int").map PyData.bool) = some (.bool false) := Eq.trans rfl rfl
@[simp] theorem ty_li {x : List D} : (tyName (.list x)).bind (fun n => (kitB n "int").map PyData.bool) = some (.bool false) := Eq.trans rfl rfl
@[simp] theorem ty_ti {x : List D} : (tyName (.tuple x)).bind (fun n => (kitB n "int").map PyData.bool) = some (.bool false) := Eq.trans rfl rfl
theorem s_is_intD {d : D} {lo hi : Int} (h : okD d) : f_is_int [d, .int lo, .int hi] = .ok (.bool (isIntV d lo hi)) := by
  cases d with
  | int v => exact s_is_int
  | dict _ => exact h.elim
  | none => refine runF_of ?_; simp [b_is_int, args, isIntV]
  | bool b => refine runF_of ?_; simp [b_is_int, args, isIntV]
  | str x => refine runF_of ?_; simp [b_is_int, args, isIntV]
  | list x => refine runF_of ?_; simp [b_is_int, args, isIntV]
  | tuple x => refine runF_of ?_; simp [b_is_int, args, isIntV]

theorem s_is_numberD {d : D} (h : okD d) : f_is_number [d] = .ok (.bool (isIntV d 1 (tp 60 - 1))) := by
  refine runF_of ?_
  have t := s_ten (k := 60) (by decide) (by decide)
  simp [b_is_number, args, t, s_is_intD h]
theorem s_is_beginningD {d : D} (h : okD d) : f_is_beginning [d] = .ok (.bool (isIntV d 1 9999)) := by
  refine runF_of ?_
  simp [b_is_beginning, args, s_is_intD h]
theorem cnD {d : D} (h : okD d) (q : isIntV d 1 (tp 60 - 1) = false) : f_check_number [d] = .err 0 := by
  refine runF_errOf ?_
  simp [b_check_number, args, s_is_numberD h, q]
theorem cbD {d : D} (h : okD d) (q : isIntV d 1 9999 = false) : f_check_beginning [d] = .err 1 := by
  refine runF_errOf ?_
  simp [b_check_beginning, args, s_is_beginningD h, q]
theorem ccD {d : D} {lo hi : Int} (h : okD d) (q : isIntV d lo hi = false) : f_check_count [d, .int lo, .int hi] = .err 2 := by
  refine runF_errOf ?_
  simp [b_check_count, args, s_is_intD h, q]
theorem cn0 : f_check_number [.none] = .err 0 := cnD trivial rfl
theorem cb0 : f_check_beginning [.none] = .err 1 := cbD trivial rfl
theorem cc0 {lo hi : Int} : f_check_count [.none, .int lo, .int hi] = .err 2 := ccD trivial rfl
theorem g1 : f_check_beginning [.int 1] = .ok .none := s_check_beginning ⟨by decide, by decide⟩
theorem g5 : f_check_number [.int 5] = .ok .none := s_check_number ⟨by decide, by decide⟩
theorem g15 : f_check_number [.int 15] = .ok .none := s_check_number ⟨by decide, by decide⟩
theorem gb2 : f_check_base [.int 2] = .ok .none := s_check_base (by decide) (by decide)
theorem gs7 : f_check_step [.int 7] = .ok .none := s_check_step (by decide) (by decide)
theorem e_all_b {d x : D} (c : f_check_beginning [d] = .err 1) : f_check_all [.int 2, d, x] = .err 1 := by
  refine runF_errOf ?_
  simp [b_check_all, args, gb2, c]
theorem e_all_c {d : D} (c : f_check_beginning [d] = .ok .none) : f_check_all [.int 2, d, .none] = .err 2 := by
  refine runF_errOf ?_
  simp [b_check_all, args, gb2, c, cc0]

theorem en0 {d : D} (c : f_check_number [d] = .err 0) : f_digit_count [d] = .err 0 := by
  refine runF_errOf ?_
  simp [b_digit_count, args, c, g1, g5]
theorem en1 {d : D} (c : f_check_number [d] = .err 0) : f_first_digits [d, .none] = .err 0 := by
  refine runF_errOf ?_
  simp [b_first_digits, args, c, g1, g5]
theorem en2 {d : D} (c : f_check_number [d] = .err 0) : f_begins [d, .none] = .err 0 := by
  refine runF_errOf ?_
  simp [b_begins, args, c, g1, g5]
theorem en3 {d : D} (c : f_check_number [d] = .err 0) : f_count_up_to [.int 1, d] = .err 0 := by
  refine runF_errOf ?_
  simp [b_count_up_to, args, c, g1, g5]
theorem en4 {d : D} (c : f_check_number [d] = .err 0) : f_count_between [.int 1, d, .none] = .err 0 := by
  refine runF_errOf ?_
  simp [b_count_between, args, c, g1, g5]
theorem en5 {d : D} (c : f_check_number [d] = .err 0) : f_count_between [.int 1, .int 5, d] = .err 0 := by
  refine runF_errOf ?_
  simp [b_count_between, args, c, g1, g5]
theorem en6 {d : D} (c : f_check_number [d] = .err 0) : f_least_from [.int 1, d] = .err 0 := by
  refine runF_errOf ?_
  simp [b_least_from, args, c, g1, g5]
theorem en7 {d : D} (c : f_check_number [d] = .err 0) : f_last_before [.int 1, d] = .err 0 := by
  refine runF_errOf ?_
  simp [b_last_before, args, c, g1, g5]
theorem en8 {d : D} (c : f_check_number [d] = .err 0) : f_rank_of [.int 1, d] = .err 0 := by
  refine runF_errOf ?_
  simp [b_rank_of, args, c, g1, g5]
theorem eb0 {d : D} (c : f_check_beginning [d] = .err 1) : f_begins [.int 15, d] = .err 1 := by
  refine runF_errOf ?_
  simp [b_begins, args, c, g1, g15, gs7, e_all_b c]
theorem eb1 {d : D} (c : f_check_beginning [d] = .err 1) : f_is_within [d, .none] = .err 1 := by
  refine runF_errOf ?_
  simp [b_is_within, args, c, g1, g15, gs7, e_all_b c]
theorem eb2 {d : D} (c : f_check_beginning [d] = .err 1) : f_is_within [.int 1, d] = .err 1 := by
  refine runF_errOf ?_
  simp [b_is_within, args, c, g1, g15, gs7, e_all_b c]
theorem eb3 {d : D} (c : f_check_beginning [d] = .err 1) : f_are_apart [d, .none] = .err 1 := by
  refine runF_errOf ?_
  simp [b_are_apart, args, c, g1, g15, gs7, e_all_b c]
theorem eb4 {d : D} (c : f_check_beginning [d] = .err 1) : f_are_apart [.int 1, d] = .err 1 := by
  refine runF_errOf ?_
  simp [b_are_apart, args, c, g1, g15, gs7, e_all_b c]
theorem eb5 {d : D} (c : f_check_beginning [d] = .err 1) : f_longer [d, .none] = .err 1 := by
  refine runF_errOf ?_
  simp [b_longer, args, c, g1, g15, gs7, e_all_b c]
theorem eb6 {d : D} (c : f_check_beginning [d] = .err 1) : f_stretch [d, .none] = .err 1 := by
  refine runF_errOf ?_
  simp [b_stretch, args, c, g1, g15, gs7, e_all_b c]
theorem eb7 {d : D} (c : f_check_beginning [d] = .err 1) : f_count_up_to [d, .none] = .err 1 := by
  refine runF_errOf ?_
  simp [b_count_up_to, args, c, g1, g15, gs7, e_all_b c]
theorem eb8 {d : D} (c : f_check_beginning [d] = .err 1) : f_count_between [d, .none, .none] = .err 1 := by
  refine runF_errOf ?_
  simp [b_count_between, args, c, g1, g15, gs7, e_all_b c]
theorem eb9 {d : D} (c : f_check_beginning [d] = .err 1) : f_least_from [d, .none] = .err 1 := by
  refine runF_errOf ?_
  simp [b_least_from, args, c, g1, g15, gs7, e_all_b c]
theorem eb10 {d : D} (c : f_check_beginning [d] = .err 1) : f_last_before [d, .none] = .err 1 := by
  refine runF_errOf ?_
  simp [b_last_before, args, c, g1, g15, gs7, e_all_b c]
theorem eb11 {d : D} (c : f_check_beginning [d] = .err 1) : f_number_at [d, .none] = .err 1 := by
  refine runF_errOf ?_
  simp [b_number_at, args, c, g1, g15, gs7, e_all_b c]
theorem eb12 {d : D} (c : f_check_beginning [d] = .err 1) : f_rank_of [d, .none] = .err 1 := by
  refine runF_errOf ?_
  simp [b_rank_of, args, c, g1, g15, gs7, e_all_b c]
theorem eb13 {d : D} (c : f_check_beginning [d] = .err 1) : f_power_places [.int 2, d, .none] = .err 1 := by
  refine runF_errOf ?_
  simp [b_power_places, args, c, g1, g15, gs7, e_all_b c]
theorem eb14 {d : D} (c : f_check_beginning [d] = .err 1) : f_first_power [.int 2, d, .none] = .err 1 := by
  refine runF_errOf ?_
  simp [b_first_power, args, c, g1, g15, gs7, e_all_b c]
theorem eb15 {d : D} (c : f_check_beginning [d] = .err 1) : f_waits [.int 2, d, .none] = .err 1 := by
  refine runF_errOf ?_
  simp [b_waits, args, c, g1, g15, gs7, e_all_b c]
theorem eb16 {d : D} (c : f_check_beginning [d] = .err 1) : f_longest_wait [.int 2, d, .none] = .err 1 := by
  refine runF_errOf ?_
  simp [b_longest_wait, args, c, g1, g15, gs7, e_all_b c]
theorem eb17 {d : D} (c : f_check_beginning [d] = .err 1) : f_first_multiple [.int 7, d] = .err 1 := by
  refine runF_errOf ?_
  simp [b_first_multiple, args, c, g1, g15, gs7, e_all_b c]
theorem eb18 {d : D} (c : f_check_beginning [d] = .err 1) : f_multiple_places [.int 7, d, .none] = .err 1 := by
  refine runF_errOf ?_
  simp [b_multiple_places, args, c, g1, g15, gs7, e_all_b c]
theorem eb19 {d : D} (c : f_check_beginning [d] = .err 1) : f_count_multiples [.int 7, d, .none] = .err 1 := by
  refine runF_errOf ?_
  simp [b_count_multiples, args, c, g1, g15, gs7, e_all_b c]
theorem eb20 {d : D} (c : f_check_beginning [d] = .err 1) : f_products [d, .none, .none] = .err 1 := by
  refine runF_errOf ?_
  simp [b_products, args, c, g1, g15, gs7, e_all_b c]
theorem eb21 {d : D} (c : f_check_beginning [d] = .err 1) : f_products [.int 1, d, .none] = .err 1 := by
  refine runF_errOf ?_
  simp [b_products, args, c, g1, g15, gs7, e_all_b c]
theorem eb22 {d : D} (c : f_check_beginning [d] = .err 1) : f_can_be_product [d, .none, .none] = .err 1 := by
  refine runF_errOf ?_
  simp [b_can_be_product, args, c, g1, g15, gs7, e_all_b c]
theorem eb23 {d : D} (c : f_check_beginning [d] = .err 1) : f_can_be_product [.int 1, .int 1, d] = .err 1 := by
  refine runF_errOf ?_
  simp [b_can_be_product, args, c, g1, g15, gs7, e_all_b c]
theorem eb24 {d : D} (c : f_check_beginning [d] = .err 1) : f_product_example [.int 1, d, .none] = .err 1 := by
  refine runF_errOf ?_
  simp [b_product_example, args, c, g1, g15, gs7, e_all_b c]
theorem eb25 {d : D} (c : f_check_beginning [d] = .err 1) : f_quotients [d, .none, .none] = .err 1 := by
  refine runF_errOf ?_
  simp [b_quotients, args, c, g1, g15, gs7, e_all_b c]
theorem eb26 {d : D} (c : f_check_beginning [d] = .err 1) : f_can_be_quotient [.int 1, d, .none] = .err 1 := by
  refine runF_errOf ?_
  simp [b_can_be_quotient, args, c, g1, g15, gs7, e_all_b c]
theorem eb27 {d : D} (c : f_check_beginning [d] = .err 1) : f_sums [.int 1, d, .none] = .err 1 := by
  refine runF_errOf ?_
  simp [b_sums, args, c, g1, g15, gs7, e_all_b c]
theorem eb28 {d : D} (c : f_check_beginning [d] = .err 1) : f_squares [d, .none] = .err 1 := by
  refine runF_errOf ?_
  simp [b_squares, args, c, g1, g15, gs7, e_all_b c]
theorem eb29 {d : D} (c : f_check_beginning [d] = .err 1) : f_roots [d, .none] = .err 1 := by
  refine runF_errOf ?_
  simp [b_roots, args, c, g1, g15, gs7, e_all_b c]
theorem eb30 {d : D} (c : f_check_beginning [d] = .err 1) : f_least_root [d] = .err 1 := by
  refine runF_errOf ?_
  simp [b_least_root, args, c, g1, g15, gs7, e_all_b c]
theorem eb31 {d : D} (c : f_check_beginning [d] = .err 1) : f_roots_with [d, .none] = .err 1 := by
  refine runF_errOf ?_
  simp [b_roots_with, args, c, g1, g15, gs7, e_all_b c]
theorem eg1 {d : D} (c : f_check_beginning [d] = .ok .none) : f_is_within [d, .none] = .err 1 := by
  refine runF_errOf ?_
  simp [b_is_within, args, c, g1, g15, gs7, gb2, cn0, cb0, cc0, e_all_c c]
theorem eg3 {d : D} (c : f_check_beginning [d] = .ok .none) : f_are_apart [d, .none] = .err 1 := by
  refine runF_errOf ?_
  simp [b_are_apart, args, c, g1, g15, gs7, gb2, cn0, cb0, cc0, e_all_c c]
theorem eg5 {d : D} (c : f_check_beginning [d] = .ok .none) : f_longer [d, .none] = .err 2 := by
  refine runF_errOf ?_
  simp [b_longer, args, c, g1, g15, gs7, gb2, cn0, cb0, cc0, e_all_c c]
theorem eg6 {d : D} (c : f_check_beginning [d] = .ok .none) : f_stretch [d, .none] = .err 2 := by
  refine runF_errOf ?_
  simp [b_stretch, args, c, g1, g15, gs7, gb2, cn0, cb0, cc0, e_all_c c]
theorem eg7 {d : D} (c : f_check_beginning [d] = .ok .none) : f_count_up_to [d, .none] = .err 0 := by
  refine runF_errOf ?_
  simp [b_count_up_to, args, c, g1, g15, gs7, gb2, cn0, cb0, cc0, e_all_c c]
theorem eg8 {d : D} (c : f_check_beginning [d] = .ok .none) : f_count_between [d, .none, .none] = .err 0 := by
  refine runF_errOf ?_
  simp [b_count_between, args, c, g1, g15, gs7, gb2, cn0, cb0, cc0, e_all_c c]
theorem eg9 {d : D} (c : f_check_beginning [d] = .ok .none) : f_least_from [d, .none] = .err 0 := by
  refine runF_errOf ?_
  simp [b_least_from, args, c, g1, g15, gs7, gb2, cn0, cb0, cc0, e_all_c c]
theorem eg10 {d : D} (c : f_check_beginning [d] = .ok .none) : f_last_before [d, .none] = .err 0 := by
  refine runF_errOf ?_
  simp [b_last_before, args, c, g1, g15, gs7, gb2, cn0, cb0, cc0, e_all_c c]
theorem eg11 {d : D} (c : f_check_beginning [d] = .ok .none) : f_number_at [d, .none] = .err 2 := by
  refine runF_errOf ?_
  simp [b_number_at, args, c, g1, g15, gs7, gb2, cn0, cb0, cc0, e_all_c c]
theorem eg12 {d : D} (c : f_check_beginning [d] = .ok .none) : f_rank_of [d, .none] = .err 0 := by
  refine runF_errOf ?_
  simp [b_rank_of, args, c, g1, g15, gs7, gb2, cn0, cb0, cc0, e_all_c c]
theorem eg13 {d : D} (c : f_check_beginning [d] = .ok .none) : f_power_places [.int 2, d, .none] = .err 2 := by
  refine runF_errOf ?_
  simp [b_power_places, args, c, g1, g15, gs7, gb2, cn0, cb0, cc0, e_all_c c]
theorem eg14 {d : D} (c : f_check_beginning [d] = .ok .none) : f_first_power [.int 2, d, .none] = .err 2 := by
  refine runF_errOf ?_
  simp [b_first_power, args, c, g1, g15, gs7, gb2, cn0, cb0, cc0, e_all_c c]
theorem eg15 {d : D} (c : f_check_beginning [d] = .ok .none) : f_waits [.int 2, d, .none] = .err 2 := by
  refine runF_errOf ?_
  simp [b_waits, args, c, g1, g15, gs7, gb2, cn0, cb0, cc0, e_all_c c]
theorem eg16 {d : D} (c : f_check_beginning [d] = .ok .none) : f_longest_wait [.int 2, d, .none] = .err 2 := by
  refine runF_errOf ?_
  simp [b_longest_wait, args, c, g1, g15, gs7, gb2, cn0, cb0, cc0, e_all_c c]
theorem eg18 {d : D} (c : f_check_beginning [d] = .ok .none) : f_multiple_places [.int 7, d, .none] = .err 2 := by
  refine runF_errOf ?_
  simp [b_multiple_places, args, c, g1, g15, gs7, gb2, cn0, cb0, cc0, e_all_c c]
theorem eg19 {d : D} (c : f_check_beginning [d] = .ok .none) : f_count_multiples [.int 7, d, .none] = .err 2 := by
  refine runF_errOf ?_
  simp [b_count_multiples, args, c, g1, g15, gs7, gb2, cn0, cb0, cc0, e_all_c c]
theorem eg20 {d : D} (c : f_check_beginning [d] = .ok .none) : f_products [d, .none, .none] = .err 1 := by
  refine runF_errOf ?_
  simp [b_products, args, c, g1, g15, gs7, gb2, cn0, cb0, cc0, e_all_c c]
theorem eg21 {d : D} (c : f_check_beginning [d] = .ok .none) : f_products [.int 1, d, .none] = .err 2 := by
  refine runF_errOf ?_
  simp [b_products, args, c, g1, g15, gs7, gb2, cn0, cb0, cc0, e_all_c c]
theorem eg22 {d : D} (c : f_check_beginning [d] = .ok .none) : f_can_be_product [d, .none, .none] = .err 1 := by
  refine runF_errOf ?_
  simp [b_can_be_product, args, c, g1, g15, gs7, gb2, cn0, cb0, cc0, e_all_c c]
theorem eg24 {d : D} (c : f_check_beginning [d] = .ok .none) : f_product_example [.int 1, d, .none] = .err 1 := by
  refine runF_errOf ?_
  simp [b_product_example, args, c, g1, g15, gs7, gb2, cn0, cb0, cc0, e_all_c c]
theorem eg25 {d : D} (c : f_check_beginning [d] = .ok .none) : f_quotients [d, .none, .none] = .err 1 := by
  refine runF_errOf ?_
  simp [b_quotients, args, c, g1, g15, gs7, gb2, cn0, cb0, cc0, e_all_c c]
theorem eg26 {d : D} (c : f_check_beginning [d] = .ok .none) : f_can_be_quotient [.int 1, d, .none] = .err 1 := by
  refine runF_errOf ?_
  simp [b_can_be_quotient, args, c, g1, g15, gs7, gb2, cn0, cb0, cc0, e_all_c c]
theorem eg27 {d : D} (c : f_check_beginning [d] = .ok .none) : f_sums [.int 1, d, .none] = .err 2 := by
  refine runF_errOf ?_
  simp [b_sums, args, c, g1, g15, gs7, gb2, cn0, cb0, cc0, e_all_c c]
theorem eg28 {d : D} (c : f_check_beginning [d] = .ok .none) : f_squares [d, .none] = .err 2 := by
  refine runF_errOf ?_
  simp [b_squares, args, c, g1, g15, gs7, gb2, cn0, cb0, cc0, e_all_c c]
theorem eg29 {d : D} (c : f_check_beginning [d] = .ok .none) : f_roots [d, .none] = .err 2 := by
  refine runF_errOf ?_
  simp [b_roots, args, c, g1, g15, gs7, gb2, cn0, cb0, cc0, e_all_c c]
theorem eg31 {d : D} (c : f_check_beginning [d] = .ok .none) : f_roots_with [d, .none] = .err 2 := by
  refine runF_errOf ?_
  simp [b_roots_with, args, c, g1, g15, gs7, gb2, cn0, cb0, cc0, e_all_c c]
theorem er_add {d : D} (c : f_check_number [d] = .err 0) : f_row_add (.row [1] []) [d] = .err 0 (.row [1] []) := by
  refine runM_errOf ?_
  simp [b_row_add, args, c]
theorem er_places {d : D} (c : f_check_beginning [d] = .err 1) : f_row_places (.row [1] []) [d] = .err 1 (.row [1] []) := by
  refine runM_errOf ?_
  simp [b_row_places, args, c]
end FD
set_option Elab.async false
set_option linter.all false
set_option maxRecDepth 100000
set_option maxHeartbeats 4000000
noncomputable section
namespace FD
open PySem L2 TL
theorem cbaseD {d : D} (h : okD d) (q : isIntV d 2 99 = false) : f_check_base [d] = .err 0 := by
  refine runF_errOf ?_
  simp [b_check_base, args, s_is_intD h, q]
theorem cstepD {d : D} (h : okD d) (q : isIntV d 1 1000000 = false) : f_check_step [d] = .err 0 := by
  refine runF_errOf ?_
  simp [b_check_step, args, s_is_intD h, q]
theorem h1 : f_check_beginning [.int 1] = .ok .none := g1
theorem h2 : f_check_beginning [.int 2] = .ok .none := s_check_beginning ⟨by decide, by decide⟩
theorem hn : f_check_number [.int 12345] = .ok .none := s_check_number ⟨by decide, by decide⟩
theorem hc5 : f_check_count [.int 5, .int 0, .int 300] = .ok .none := s_check_count (by decide) (by decide)
theorem hc1 : f_check_count [.int 1, .int 1, .int 3] = .ok .none := s_check_count (by decide) (by decide)
theorem e_all_n {d : D} (c : f_check_count [d, .int 0, .int 300] = .err 2) : f_check_all [.int 2, .int 1, d] = .err 2 := by
  refine runF_errOf ?_
  simp [b_check_all, args, gb2, h1, c]
theorem e_all_base {d x y : D} (c : f_check_base [d] = .err 0) : f_check_all [d, x, y] = .err 0 := by
  refine runF_errOf ?_
  simp [b_check_all, args, c]
theorem e_all_none {d y : D} (c : f_check_base [d] = .ok .none) : f_check_all [d, .none, y] = .err 1 := by
  refine runF_errOf ?_
  simp [b_check_all, args, c, cb0]
theorem ec0 {d : D} (c : f_check_count [d, .int 1, .int 4] = .err 2) : f_first_digits [.int 12345, d] = .err 2 := by
  refine runF_errOf ?_
  simp [b_first_digits, args, c, h1, h2, hn, hc5, hc1, gb2, gs7]
theorem ec1 {d : D} (c : f_check_count [d, .int 1, .int 4] = .err 2) : f_longer [.int 1, d] = .err 2 := by
  refine runF_errOf ?_
  simp [b_longer, args, c, h1, h2, hn, hc5, hc1, gb2, gs7]
theorem ec2 {d : D} (c : f_check_count [d, .int 1, .int 4] = .err 2) : f_row_first_digits (.row [12345] []) [d] = .err 2 (.row [12345] []) := by
  refine runM_errOf ?_
  simp [b_row_first_digits, args, c]
theorem ec3 {d : D} (c : f_check_count [d, .int 1, .int 3] = .err 2) : f_products [.int 1, .int 2, d] = .err 2 := by
  refine runF_errOf ?_
  simp [b_products, args, c, h1, h2, hn, hc5, hc1, gb2, gs7]
theorem ec4 {d : D} (c : f_check_count [d, .int 1, .int 3] = .err 2) : f_quotients [.int 1, .int 2, d] = .err 2 := by
  refine runF_errOf ?_
  simp [b_quotients, args, c, h1, h2, hn, hc5, hc1, gb2, gs7]
theorem ec5 {d : D} (c : f_check_count [d, .int 1, .int 3] = .err 2) : f_sums [.int 1, .int 2, d] = .err 2 := by
  refine runF_errOf ?_
  simp [b_sums, args, c, h1, h2, hn, hc5, hc1, gb2, gs7]
theorem ec6 {d : D} (c : f_check_count [d, .int 1, .int 3] = .err 2) : f_squares [.int 1, d] = .err 2 := by
  refine runF_errOf ?_
  simp [b_squares, args, c, h1, h2, hn, hc5, hc1, gb2, gs7]
theorem ec7 {d : D} (c : f_check_count [d, .int 1, .int 3] = .err 2) : f_roots [.int 1, d] = .err 2 := by
  refine runF_errOf ?_
  simp [b_roots, args, c, h1, h2, hn, hc5, hc1, gb2, gs7]
theorem ec8 {d : D} (c : f_check_count [d, .int 1, .int 3] = .err 2) : f_never [.int 2, d, .int 5] = .err 2 := by
  refine runF_errOf ?_
  simp [b_never, args, c, h1, h2, hn, hc5, hc1, gb2, gs7]
theorem ec9 {d : D} (c : f_check_count [d, .int 1, .int 60] = .err 2) : f_stretch [.int 1, d] = .err 2 := by
  refine runF_errOf ?_
  simp [b_stretch, args, c, h1, h2, hn, hc5, hc1, gb2, gs7]
theorem ec10 {d : D} (c : f_check_count [d, .int 1, .int 60] = .err 2) : f_count_multiples [.int 7, .int 1, d] = .err 2 := by
  refine runF_errOf ?_
  simp [b_count_multiples, args, c, h1, h2, hn, hc5, hc1, gb2, gs7]
theorem ec11 {d : D} (c : f_check_count [d, .int 1, .int 60] = .err 2) : f_roots_with [.int 1, d] = .err 2 := by
  refine runF_errOf ?_
  simp [b_roots_with, args, c, h1, h2, hn, hc5, hc1, gb2, gs7]
theorem ec12 {d : D} (c : f_check_count [d, .int 0, .int 300] = .err 2) : f_power_places [.int 2, .int 1, d] = .err 2 := by
  refine runF_errOf ?_
  simp [b_power_places, args, c, h1, h2, hn, hc5, hc1, gb2, gs7, e_all_n c]
theorem ec13 {d : D} (c : f_check_count [d, .int 0, .int 300] = .err 2) : f_first_power [.int 2, .int 1, d] = .err 2 := by
  refine runF_errOf ?_
  simp [b_first_power, args, c, h1, h2, hn, hc5, hc1, gb2, gs7, e_all_n c]
theorem ec14 {d : D} (c : f_check_count [d, .int 0, .int 300] = .err 2) : f_waits [.int 2, .int 1, d] = .err 2 := by
  refine runF_errOf ?_
  simp [b_waits, args, c, h1, h2, hn, hc5, hc1, gb2, gs7, e_all_n c]
theorem ec15 {d : D} (c : f_check_count [d, .int 0, .int 300] = .err 2) : f_digit_table [.int 2, d] = .err 2 := by
  refine runF_errOf ?_
  simp [b_digit_table, args, c, h1, h2, hn, hc5, hc1, gb2, gs7, e_all_n c]
theorem ec16 {d : D} (c : f_check_count [d, .int 0, .int 300] = .err 2) : f_never [.int 2, .int 1, d] = .err 2 := by
  refine runF_errOf ?_
  simp [b_never, args, c, h1, h2, hn, hc5, hc1, gb2, gs7, e_all_n c]
theorem ec17 {d : D} (c : f_check_count [d, .int 1, .int 600] = .err 2) : f_powers_with [.int 2, d] = .err 2 := by
  refine runF_errOf ?_
  simp [b_powers_with, args, c, h1, h2, hn, hc5, hc1, gb2, gs7]
theorem ec18 {d : D} (c : f_check_count [d, .int 1, .int 1000] = .err 2) : f_multiple_places [.int 7, .int 1, d] = .err 2 := by
  refine runF_errOf ?_
  simp [b_multiple_places, args, c, h1, h2, hn, hc5, hc1, gb2, gs7]
theorem ec19 {d : D} (c : f_check_count [d, .int 0, .int 1000000000] = .err 2) : f_number_at [.int 1, d] = .err 2 := by
  refine runF_errOf ?_
  simp [b_number_at, args, c, h1, h2, hn, hc5, hc1, gb2, gs7]
theorem es0 {d : D} (c : f_check_base [d] = .err 0) : f_power_places [d, .none, .none] = .err 0 := by
  refine runF_errOf ?_
  simp [b_power_places, args, c, e_all_base c]
theorem eo0 {d : D} (c : f_check_base [d] = .ok .none) : f_power_places [d, .none, .none] = .err 1 := by
  refine runF_errOf ?_
  simp [b_power_places, args, c, cb0, cc0, e_all_none c]
theorem es1 {d : D} (c : f_check_base [d] = .err 0) : f_first_power [d, .none, .none] = .err 0 := by
  refine runF_errOf ?_
  simp [b_first_power, args, c, e_all_base c]
theorem eo1 {d : D} (c : f_check_base [d] = .ok .none) : f_first_power [d, .none, .none] = .err 1 := by
  refine runF_errOf ?_
  simp [b_first_power, args, c, cb0, cc0, e_all_none c]
theorem es2 {d : D} (c : f_check_base [d] = .err 0) : f_waits [d, .none, .none] = .err 0 := by
  refine runF_errOf ?_
  simp [b_waits, args, c, e_all_base c]
theorem eo2 {d : D} (c : f_check_base [d] = .ok .none) : f_waits [d, .none, .none] = .err 1 := by
  refine runF_errOf ?_
  simp [b_waits, args, c, cb0, cc0, e_all_none c]
theorem es3 {d : D} (c : f_check_base [d] = .err 0) : f_longest_wait [d, .none, .none] = .err 0 := by
  refine runF_errOf ?_
  simp [b_longest_wait, args, c, e_all_base c]
theorem eo3 {d : D} (c : f_check_base [d] = .ok .none) : f_longest_wait [d, .none, .none] = .err 1 := by
  refine runF_errOf ?_
  simp [b_longest_wait, args, c, cb0, cc0, e_all_none c]
theorem es4 {d : D} (c : f_check_base [d] = .err 0) : f_digit_table [d, .none] = .err 0 := by
  refine runF_errOf ?_
  simp [b_digit_table, args, c]
theorem eo4 {d : D} (c : f_check_base [d] = .ok .none) : f_digit_table [d, .none] = .err 2 := by
  refine runF_errOf ?_
  simp [b_digit_table, args, c, cb0, cc0]
theorem es5 {d : D} (c : f_check_base [d] = .err 0) : f_never [d, .none, .none] = .err 0 := by
  refine runF_errOf ?_
  simp [b_never, args, c]
theorem eo5 {d : D} (c : f_check_base [d] = .ok .none) : f_never [d, .none, .none] = .err 2 := by
  refine runF_errOf ?_
  simp [b_never, args, c, cb0, cc0]
theorem es6 {d : D} (c : f_check_base [d] = .err 0) : f_powers_with [d, .none] = .err 0 := by
  refine runF_errOf ?_
  simp [b_powers_with, args, c]
theorem eo6 {d : D} (c : f_check_base [d] = .ok .none) : f_powers_with [d, .none] = .err 2 := by
  refine runF_errOf ?_
  simp [b_powers_with, args, c, cb0, cc0]
theorem es7 {d : D} (c : f_check_base [d] = .err 0) : f_row_multiply (.row [1] []) [d] = .err 0 (.row [1] []) := by
  refine runM_errOf ?_
  simp [b_row_multiply, args, c]
theorem es8 {d : D} (c : f_check_step [d] = .err 0) : f_first_multiple [d, .none] = .err 0 := by
  refine runF_errOf ?_
  simp [b_first_multiple, args, c]
theorem eo8 {d : D} (c : f_check_step [d] = .ok .none) : f_first_multiple [d, .none] = .err 1 := by
  refine runF_errOf ?_
  simp [b_first_multiple, args, c, cb0, cc0]
theorem es9 {d : D} (c : f_check_step [d] = .err 0) : f_multiple_places [d, .none, .none] = .err 0 := by
  refine runF_errOf ?_
  simp [b_multiple_places, args, c]
theorem eo9 {d : D} (c : f_check_step [d] = .ok .none) : f_multiple_places [d, .none, .none] = .err 1 := by
  refine runF_errOf ?_
  simp [b_multiple_places, args, c, cb0, cc0]
theorem es10 {d : D} (c : f_check_step [d] = .err 0) : f_count_multiples [d, .none, .none] = .err 0 := by
  refine runF_errOf ?_
  simp [b_count_multiples, args, c]
theorem eo10 {d : D} (c : f_check_step [d] = .ok .none) : f_count_multiples [d, .none, .none] = .err 1 := by
  refine runF_errOf ?_
  simp [b_count_multiples, args, c, cb0, cc0]
end FD
set_option Elab.async false
set_option linter.all false
set_option maxRecDepth 100000
set_option maxHeartbeats 4000000
noncomputable section
namespace FD
open PySem L2 TL
/-! ### neighbouring numbers -/
def goP (a z : Int) : List Int → List (Int × Int)
  | [] => [(a, z)]
  | x :: r => if z + 1 = x then goP a x r else (a, z) :: goP x x r
def partsL : List Int → List (Int × Int)
  | [] => []
  | x :: r => goP x x r
theorem rg_cons {a c : Int} (h : a < c) : rg a c = a :: rg (a + 1) c := by
  refine rise_ext (rg_sorted _ _) ?_ fun z => ?_
  · exact List.pairwise_cons.mpr ⟨fun z hz => by have := mem_rg.mp hz; omega, rg_sorted _ _⟩
  · rw [List.mem_cons, mem_rg, mem_rg]; omega
theorem rg_nil {a c : Int} (h : c ≤ a) : rg a c = [] := by
  unfold rg
  rw [show (c - a).toNat = 0 by omega]
  rfl
theorem rg_snoc {a z : Int} (h : a ≤ z) : rg a (z + 1) = rg a z ++ [z] := by
  rw [rg_split (b := z) h (by omega)]
  congr 1
  rw [rg_cons (by omega), rg_nil (by omega)]
theorem go_flat : ∀ (r : List Int) (a z : Int), a ≤ z → (goP a z r).flatMap (fun p => rg p.1 (p.2 + 1)) = rg a (z + 1) ++ r
  | [], a, z, _ => by simp [goP]
  | x :: r, a, z, h => by
    unfold goP
    split
    · rename_i q
      rw [go_flat r a x (by omega), ← q, rg_snoc (show a ≤ z + 1 by omega)]
      simp
    · rw [List.flatMap_cons, go_flat r x x (Int.le_refl _), rg_snoc (Int.le_refl x), rg_nil (Int.le_refl x)]
      simp
theorem parts_flat : ∀ (xs : List Int), (partsL xs).flatMap (fun p => rg p.1 (p.2 + 1)) = xs
  | [] => rfl
  | x :: r => by
    show (goP x x r).flatMap _ = _
    rw [go_flat r x x (Int.le_refl _), rg_snoc (Int.le_refl x), rg_nil (Int.le_refl x)]
    rfl
theorem go_mem (P : Int → Prop) : ∀ (r : List Int) (a z : Int), a ≤ z → P a → P z → (∀ x ∈ r, P x) → ∀ p ∈ goP a z r, p.1 ≤ p.2 ∧ P p.1 ∧ P p.2
  | [], a, z, h, ha, hz, _, p, hp => by
    rw [List.mem_singleton.mp hp]; exact ⟨h, ha, hz⟩
  | x :: r, a, z, h, ha, hz, hr, p, hp => by
    unfold goP at hp
    split at hp
    · exact go_mem P r a x (by omega) ha (hr x (List.mem_cons_self ..)) (fun y hy => hr y (List.mem_cons_of_mem _ hy)) p hp
    · rcases List.mem_cons.mp hp with rfl | hp
      · exact ⟨h, ha, hz⟩
      · exact go_mem P r x x (Int.le_refl _) (hr x (List.mem_cons_self ..)) (hr x (List.mem_cons_self ..)) (fun y hy => hr y (List.mem_cons_of_mem _ hy)) p hp
theorem parts_mem {P : Int → Prop} : ∀ {xs : List Int}, (∀ x ∈ xs, P x) → ∀ p ∈ partsL xs, p.1 ≤ p.2 ∧ P p.1 ∧ P p.2
  | [], _, p, hp => by cases hp
  | x :: r, h, p, hp => go_mem P r x x (Int.le_refl _) (h x (List.mem_cons_self ..)) (h x (List.mem_cons_self ..)) (fun y hy => h y (List.mem_cons_of_mem _ hy)) p hp
theorem parts_len : ∀ (xs : List Int), (partsL xs).length ≤ xs.length
  | [] => Nat.le_refl _
  | x :: r => by
    have : ∀ (r : List Int) (a z : Int), (goP a z r).length ≤ r.length + 1 := fun r => by
      induction r with
      | nil => intro a z; exact Nat.le_refl _
      | cons y r ih =>
        intro a z
        unfold goP
        split
        · have := ih a y; simp only [List.length_cons]; omega
        · have := ih y y; simp only [List.length_cons]; omega
    exact this r x x
theorem parts_ne {xs : List Int} (h : xs ≠ []) : partsL xs ≠ [] := by
  intro q
  have := parts_flat xs
  rw [q] at this
  exact h this.symm
theorem flat_len {α β : Type} {f : α → List β} : ∀ {l : List α} {p : α}, p ∈ l → (f p).length ≤ (l.flatMap f).length
  | [], p, h => by cases h
  | x :: r, p, h => by
    rw [List.flatMap_cons, List.length_append]
    rcases List.mem_cons.mp h with rfl | h
    · omega
    · have := flat_len (f := f) h; omega
theorem parts_wide {xs : List Int} {p : Int × Int} (h : p ∈ partsL xs) : p.2 + 1 - p.1 ≤ xs.length := by
  have h1 := flat_len (f := fun p : Int × Int => rg p.1 (p.2 + 1)) h
  rw [parts_flat, rg_length] at h1
  omega
/-! ### texts as rows of signs -/
def toL (x : Str) : List Nat := x.cps.toList
theorem toL_ext {x y : Str} (h : toL x = toL y) : x = y := str_ext h
theorem toL_app (x y : Str) : toL (x ++ y) = toL x ++ toL y := by
  show (x.cps ++ y.cps).toList = _
  rw [Array.toList_append]; rfl
theorem toL_len (x : Str) : (toL x).length = x.length := Array.length_toList
def spl (c : Nat) : List Nat → List (List Nat)
  | [] => [[]]
  | x :: r => if x = c then [] :: spl c r else match spl c r with
    | [] => [[x]]
    | p :: q => (x :: p) :: q
def joinN (c : Nat) : List (List Nat) → List Nat
  | [] => []
  | [x] => x
  | x :: y :: r => x ++ c :: joinN c (y :: r)
theorem spl_ne (c : Nat) : ∀ l : List Nat, spl c l ≠ []
  | [] => by simp [spl]
  | x :: r => by
    unfold spl
    split
    · simp
    · split <;> simp
theorem spl_one {c : Nat} : ∀ {p : List Nat}, c ∉ p → spl c p = [p]
  | [], _ => rfl
  | x :: r, h => by
    have h1 : x ≠ c := fun e => h (by rw [e]; exact List.mem_cons_self ..)
    have ih := spl_one (c := c) (p := r) fun m => h (List.mem_cons_of_mem _ m)
    unfold spl
    rw [if_neg h1, ih]
theorem spl_app {c : Nat} : ∀ {p r : List Nat}, c ∉ p → spl c (p ++ c :: r) = p :: spl c r
  | [], r, _ => by simp [spl]
  | x :: p, r, h => by
    have h1 : x ≠ c := fun e => h (by rw [e]; exact List.mem_cons_self ..)
    have ih := spl_app (c := c) (p := p) (r := r) fun m => h (List.mem_cons_of_mem _ m)
    rw [List.cons_append, show spl c (x :: (p ++ c :: r)) = if x = c then [] :: spl c (p ++ c :: r) else match spl c (p ++ c :: r) with | [] => [[x]] | p :: q => (x :: p) :: q from rfl, if_neg h1, ih]
theorem spl_join {c : Nat} : ∀ {ps : List (List Nat)}, ps ≠ [] → (∀ p ∈ ps, c ∉ p) → spl c (joinN c ps) = ps
  | [], h, _ => absurd rfl h
  | [x], _, h => spl_one (h x (List.mem_cons_self ..))
  | x :: y :: r, _, h => by
    have ih := spl_join (c := c) (ps := y :: r) (by simp) fun p hp => h p (List.mem_cons_of_mem _ hp)
    show spl c (x ++ c :: joinN c (y :: r)) = _
    rw [spl_app (h x (List.mem_cons_self ..)), ih]
theorem toL_join (c : Nat) : ∀ ws : List Str, toL (Str.join ⟨#[c]⟩ ws) = joinN c (ws.map toL)
  | [] => rfl
  | [x] => rfl
  | x :: y :: r => by
    have ih := toL_join c (y :: r)
    show toL (x ++ ⟨#[c]⟩ ++ Str.join ⟨#[c]⟩ (y :: r)) = toL x ++ c :: joinN c ((y :: r).map toL)
    rw [toL_app, toL_app, ih]
    show toL x ++ [c] ++ _ = _
    simp
theorem split_ne (x y : Str) : Txt.split x y ≠ [] := by
  unfold Txt.split
  split
  · simp
  · split
    · simp
    · rw [StrLaws.partsBetween_eq]
      obtain ⟨p, r, e⟩ := StrLaws.partsFrom_ne x y.length 0 (Builtin.Str.occurrences x y 0 x.length (x.length + 1))
      rw [e]; simp
theorem split_spl (x : Str) (c : Nat) : (Txt.split x ⟨#[c]⟩).map toL = spl c (toL x) := by
  have h1 := StrLaws.join_split x ⟨#[c]⟩
  have h2 := StrLaws.split_free x c
  rw [← h1, toL_join, h1, spl_join (by simpa using split_ne x ⟨#[c]⟩)]
  intro p hp
  obtain ⟨w, hw, rfl⟩ := List.mem_map.mp hp
  exact h2 w hw
/-- what stands before and behind the first sign -/
def cutN (c : Nat) : List Nat → List Nat × Bool × List Nat
  | [] => ([], false, [])
  | x :: r => if x = c then ([], true, r) else ((x :: (cutN c r).1), (cutN c r).2)
theorem cut_none {c : Nat} : ∀ {l : List Nat}, c ∉ l → cutN c l = (l, false, [])
  | [], _ => rfl
  | x :: r, h => by
    have h1 : x ≠ c := fun e => h (by rw [e]; exact List.mem_cons_self ..)
    unfold cutN
    rw [if_neg h1, cut_none fun m => h (List.mem_cons_of_mem _ m)]
theorem cut_app {c : Nat} : ∀ {p r : List Nat}, c ∉ p → cutN c (p ++ c :: r) = (p, true, r)
  | [], r, _ => by simp [cutN]
  | x :: p, r, h => by
    have h1 : x ≠ c := fun e => h (by rw [e]; exact List.mem_cons_self ..)
    rw [List.cons_append]
    unfold cutN
    rw [if_neg h1, cut_app fun m => h (List.mem_cons_of_mem _ m)]
theorem cut_at {c : Nat} : ∀ {l : List Nat} {i : Nat}, l[i]? = some c → (∀ k, k < i → l[k]? ≠ some c) → cutN c l = (l.take i, true, l.drop (i + 1))
  | [], i, h, _ => by simp at h
  | k :: r, 0, h, _ => by
    have e : k = c := by simpa using h
    subst e
    simp [cutN]
  | k :: r, i + 1, h, hn => by
    have h1 : k ≠ c := fun e => hn 0 (by omega) (by simp [e])
    have ih := cut_at (l := r) (i := i) (by simpa using h) fun j hj => by have := hn (j + 1) (by omega); simpa using this
    unfold cutN
    rw [if_neg h1, ih]
    rfl
theorem partition_cut (x : Str) (c : Nat) : toL (Txt.partition x ⟨#[c]⟩).1 = (cutN c (toL x)).1 ∧ (Txt.partition x ⟨#[c]⟩).2.1 = (if (cutN c (toL x)).2.1 then ⟨#[c]⟩ else ⟨#[]⟩) ∧ toL (Txt.partition x ⟨#[c]⟩).2.2 = (cutN c (toL x)).2.2 := by
  unfold Txt.partition
  rcases StrLaws.occ_head x ⟨#[c]⟩ 1 (Nat.le_refl 1) with ⟨h0, hn⟩ | ⟨i, r, h0, hi, hn⟩
  · have hfree : c ∉ toL x := fun hm => by
      obtain ⟨j, hj⟩ := List.getElem?_of_mem hm
      exact hn j ((StrLaws.subAt_one x c j).mpr hj)
    rw [h0, cut_none hfree]
    exact ⟨rfl, rfl, rfl⟩
  · have hm := (StrLaws.subAt_one x c i).mp hi
    have hl : (toL x).length = x.length := toL_len x
    rw [h0, cut_at (l := toL x) hm fun k hk e => hn k hk ((StrLaws.subAt_one x c k).mpr e)]
    refine ⟨?_, rfl, ?_⟩
    · show (Builtin.Str.strSub x 0 i).cps.toList = _
      rw [StrLaws.strSub_toList]
      rfl
    · show (Builtin.Str.strSub x (i + 1) x.length).cps.toList = _
      rw [StrLaws.strSub_toList]
      exact List.take_of_length_le (by show ((toL x).drop (i + 1)).length ≤ _; simp; omega)
theorem spl_len (c : Nat) : ∀ l : List Nat, (spl c l).length = l.count c + 1
  | [] => rfl
  | x :: r => by
    have ih := spl_len c r
    have hne := spl_ne c r
    unfold spl
    by_cases h : x = c
    · rw [if_pos h, h, List.count_cons_self, List.length_cons, ih]
    · rw [if_neg h, List.count_cons_of_ne h]
      cases q : spl c r with
      | nil => exact absurd q hne
      | cons p t => rw [q] at ih; simpa using ih
theorem partsFrom_len (x : Str) (w : Nat) : ∀ (cuts : List Nat) (a : Nat), (StrLaws.partsFrom x w a cuts).length = cuts.length + 1
  | [], _ => rfl
  | c :: r, a => by
    show (Builtin.Str.strSub x a c :: StrLaws.partsFrom x w (c + w) r).length = _
    rw [List.length_cons, partsFrom_len x w r]
    rfl
theorem count_spl (x : Str) (c : Nat) : Txt.count x ⟨#[c]⟩ = (((toL x).count c : Nat) : Int) := by
  obtain ⟨f, hG, hn⟩ := StrLaws.occ_tight x ⟨#[c]⟩ (Nat.le_refl 1)
  obtain ⟨f', hC⟩ := StrLaws.occ_chain x ⟨#[c]⟩ (x.length + 1)
  have hj := StrLaws.join_partsFrom x ⟨#[c]⟩ _ 0 f' hC
  rw [StrLaws.sub_whole] at hj
  have hfree := StrLaws.parts_free x c _ 0 f hG hn
  have hlen := partsFrom_len x (⟨#[c]⟩ : Str).length (Builtin.Str.occurrences x ⟨#[c]⟩ 0 x.length (x.length + 1)) 0
  show (((Builtin.Str.occurrences x ⟨#[c]⟩ 0 x.length (x.length + 1)).length : Nat) : Int) = _
  generalize hP : StrLaws.partsFrom x (⟨#[c]⟩ : Str).length 0 (Builtin.Str.occurrences x ⟨#[c]⟩ 0 x.length (x.length + 1)) = P at *
  have h1 := congrArg toL hj
  rw [toL_join] at h1
  have h2 := spl_join (c := c) (ps := P.map toL) (by intro h; rw [List.map_eq_nil_iff] at h; rw [h] at hlen; simp at hlen) fun p hp => by
    obtain ⟨w, hw, rfl⟩ := List.mem_map.mp hp
    exact hfree w hw
  rw [h1] at h2
  have h3 := spl_len c (toL x)
  rw [h2, List.length_map, hlen] at h3
  omega
end FD
set_option Elab.async false
set_option linter.all false
set_option maxRecDepth 100000
set_option maxHeartbeats 4000000
noncomputable section
namespace FD
open PySem L2 TL
def isDg (c : Nat) : Bool := decide (48 ≤ c) && decide (c ≤ 57)
def valN (w : List Nat) : Nat := w.foldl (fun a d => a * 10 + (d - 48)) 0
def numN (w : List Nat) : Option Int := if (decide (1 ≤ w.length) && decide (w.length ≤ 4)) && (w.all isDg && !decide (w[0]? = some 48)) then some (valN w : Int) else none
theorem valN_snoc (v : List Nat) (d : Nat) : valN (v ++ [d]) = valN v * 10 + (d - 48) := by
  unfold valN
  rw [List.foldl_append]
  rfl
theorem valN_num (n : Nat) : valN (numL n) = n := by
  induction n using Nat.strongRecOn with
  | _ n ih =>
    by_cases h : n < 10
    · rw [numL_lt h]
      show 0 * 10 + (48 + n - 48) = n
      omega
    · rw [numL_step (by omega), valN_snoc, ih (n / 10) (by omega)]
      omega
theorem head_num {n : Nat} (hn : 1 ≤ n) : ∃ d r, numL n = d :: r ∧ d ≠ 48 := by
  induction n using Nat.strongRecOn with
  | _ n ih =>
    by_cases h : n < 10
    · exact ⟨_, _, numL_lt h, by omega⟩
    · obtain ⟨d, r, h1, h2⟩ := ih (n / 10) (by omega) (by omega)
      exact ⟨d, r ++ [48 + n % 10], by rw [numL_step (by omega), h1]; rfl, h2⟩
theorem dig_num : ∀ (k : Nat) (w : List Nat), w.length = k + 1 → w.all isDg = true → w[0]? ≠ some 48 → w = numL (valN w) ∧ 1 ≤ valN w := by
  intro k
  induction k with
  | zero =>
    intro w hl ha h0
    obtain ⟨d, rfl⟩ := List.length_eq_one_iff.mp hl
    have hd : isDg d = true := by simpa using ha
    unfold isDg at hd
    simp at hd h0
    have e : valN [d] = d - 48 := by show 0 * 10 + (d - 48) = _; omega
    rw [e, numL_lt (by omega)]
    exact ⟨by congr 1; omega, by omega⟩
  | succ k ih =>
    intro w hl ha h0
    rcases List.eq_nil_or_concat w with e | ⟨v, d, e⟩
    · rw [e] at hl; simp at hl
    · rw [List.concat_eq_append] at e
      subst e
      rw [List.length_append] at hl
      have hv : v.length = k + 1 := by simpa using hl
      rw [List.all_append, Bool.and_eq_true] at ha
      have hd : isDg d = true := by simpa using ha.2
      unfold isDg at hd
      simp at hd
      obtain ⟨h1, h2⟩ := ih v hv ha.1 (by rw [List.getElem?_append_left (by omega)] at h0; exact h0)
      rw [valN_snoc, numL_step (by omega), show (valN v * 10 + (d - 48)) / 10 = valN v by omega, show 48 + (valN v * 10 + (d - 48)) % 10 = d by omega, ← h1]
      exact ⟨rfl, by omega⟩
theorem numN_some {w : List Nat} {v : Int} (h : numN w = some v) : ∃ n : Nat, v = n ∧ w = numL n ∧ 1 ≤ n ∧ w.length ≤ 4 := by
  unfold numN at h
  split at h
  · rename_i q
    cases h
    rw [Bool.and_eq_true, Bool.and_eq_true, Bool.and_eq_true] at q
    have q1 := of_decide_eq_true q.1.1
    have q2 := of_decide_eq_true q.1.2
    obtain ⟨h1, h2⟩ := dig_num (w.length - 1) w (by omega) q.2.1 (by simpa using q.2.2)
    exact ⟨_, rfl, h1, h2, q2⟩
  · cases h
theorem numN_num {v : Int} (h : isB v) : numN (numL v.toNat) = some v := by
  have h1 := h.1
  have h2 := h.2
  unfold numN
  have hl : dl v.toNat ≤ 4 := by
    have := (dl_bounds v.toNat).2 (by omega)
    rcases Nat.lt_or_ge 4 (dl v.toNat) with q | q
    · have := Nat.pow_le_pow_right (n := 10) (by decide) (show 4 ≤ dl v.toNat - 1 by omega)
      omega
    · exact q
  have hp := dl_pos v.toNat
  obtain ⟨d, r, e, hd⟩ := head_num (n := v.toNat) (by omega)
  have ha : (numL v.toNat).all isDg = true := List.all_eq_true.mpr fun c hc => by
    have := numL_digits _ c hc
    unfold isDg
    rw [Bool.and_eq_true]
    exact ⟨decide_eq_true (by omega), decide_eq_true (by omega)⟩
  have h0 : (numL v.toNat)[0]? ≠ some 48 := by rw [e]; simpa using hd
  rw [if_pos, valN_num]
  · congr 1; omega
  · rw [ha, Bool.and_eq_true, Bool.and_eq_true]
    exact ⟨⟨decide_eq_true hp, decide_eq_true hl⟩, by simpa using h0⟩
/-! ### words -/
def wordT (p : Int × Int) : List Nat := if p.1 = p.2 then numL p.1.toNat else numL p.1.toNat ++ 45 :: numL p.2.toNat
def textN (xs : List Int) : List Nat := joinN 32 ((partsL xs).map wordT)
def wordN (w : List Nat) : Option (List Int) := match numN (cutN 45 w).1 with
  | none => none
  | some f => match (if (cutN 45 w).2.1 then numN (cutN 45 w).2.2 else some f) with
    | none => none
    | some l => if 20 < l - f then none else some (rg f (l + 1))
def wordsN : List (List Nat) → Option (List Int)
  | [] => some []
  | w :: r => match wordN w with
    | none => none
    | some xs => (wordsN r).map fun ys => xs ++ ys
def rowOk (xs : List Int) : Bool := decide (1 ≤ (xs.length : Int)) && decide ((xs.length : Int) ≤ 20) && xs.all fun x => decide (1 ≤ x) && decide (x ≤ 9999)
def parseN (t : List Nat) : Option (List Int) := match wordsN (spl 32 t) with
  | none => none
  | some L => if rowOk L && decide (textN L = t) then some L else none
theorem rowOk_iff {xs : List Int} : rowOk xs = true ↔ (1 ≤ xs.length ∧ xs.length ≤ 20) ∧ ∀ x ∈ xs, isB x := by
  unfold rowOk
  rw [Bool.and_eq_true, Bool.and_eq_true, List.all_eq_true, decide_eq_true_iff, decide_eq_true_iff]
  constructor
  · rintro ⟨⟨a, b⟩, h⟩
    refine ⟨⟨by omega, by omega⟩, fun x hx => ?_⟩
    have := h x hx
    rw [Bool.and_eq_true] at this
    exact ⟨of_decide_eq_true this.1, of_decide_eq_true this.2⟩
  · rintro ⟨⟨a, b⟩, h⟩
    refine ⟨⟨by omega, by omega⟩, fun x hx => ?_⟩
    rw [Bool.and_eq_true]
    exact ⟨decide_eq_true (h x hx).1, decide_eq_true (h x hx).2⟩
theorem num_no {n c : Nat} (hc : c < 48) : c ∉ numL n := fun h => by have := numL_digits n c h; omega
theorem word_back {p : Int × Int} (h1 : isB p.1) (h2 : isB p.2) (h3 : p.1 ≤ p.2) (h4 : p.2 - p.1 ≤ 20) : wordN (wordT p) = some (rg p.1 (p.2 + 1)) := by
  have n1 : 45 ∉ numL p.1.toNat := num_no (by decide)
  by_cases e : p.1 = p.2
  · have ew : wordT p = numL p.1.toNat := by unfold wordT; rw [if_pos e]
    rw [ew]
    unfold wordN
    rw [cut_none n1]
    simp only [numN_num h1]
    rw [← e]
    simp
  · have ew : wordT p = numL p.1.toNat ++ 45 :: numL p.2.toNat := by unfold wordT; rw [if_neg e]
    rw [ew]
    unfold wordN
    rw [cut_app n1]
    simp only [numN_num h1, numN_num h2, if_true]
    rw [if_neg (by omega)]
theorem words_back : ∀ {ps : List (Int × Int)}, (∀ p ∈ ps, isB p.1 ∧ isB p.2 ∧ p.1 ≤ p.2 ∧ p.2 - p.1 ≤ 20) → wordsN (ps.map wordT) = some (ps.flatMap fun p => rg p.1 (p.2 + 1))
  | [], _ => rfl
  | p :: r, h => by
    obtain ⟨h1, h2, h3, h4⟩ := h p (List.mem_cons_self ..)
    have ih := words_back (ps := r) fun q hq => h q (List.mem_cons_of_mem _ hq)
    show (match wordN (wordT p) with | none => none | some xs => (wordsN (r.map wordT)).map fun ys => xs ++ ys) = _
    rw [word_back h1 h2 h3 h4, ih]
    rfl
theorem word_sp (p : Int × Int) : 32 ∉ wordT p := by
  unfold wordT
  split
  · exact num_no (by decide)
  · intro h
    rcases List.mem_append.mp h with h | h
    · exact num_no (by decide) h
    · rcases List.mem_cons.mp h with h | h
      · cases h
      · exact num_no (by decide) h
theorem parts_row {xs : List Int} (h : rowOk xs = true) : ∀ p ∈ partsL xs, isB p.1 ∧ isB p.2 ∧ p.1 ≤ p.2 ∧ p.2 - p.1 ≤ 20 := fun p hp => by
  obtain ⟨⟨a, b⟩, hb⟩ := rowOk_iff.mp h
  obtain ⟨h1, h2, h3⟩ := parts_mem (P := isB) hb p hp
  have := parts_wide hp
  exact ⟨h2, h3, h1, by omega⟩
theorem parse_text {xs : List Int} (h : rowOk xs = true) : parseN (textN xs) = some xs := by
  unfold parseN
  have hne : xs ≠ [] := by intro e; rw [e] at h; exact absurd (rowOk_iff.mp h).1.1 (by decide)
  have e : spl 32 (textN xs) = (partsL xs).map wordT := by
    unfold textN
    refine spl_join (by simpa using parts_ne hne) fun w hw => ?_
    obtain ⟨p, _, rfl⟩ := List.mem_map.mp hw
    exact word_sp p
  rw [e, words_back (parts_row h), parts_flat]
  simp [h]
theorem parse_is {t : List Nat} {L : List Int} (h : parseN t = some L) : rowOk L = true ∧ textN L = t := by
  unfold parseN at h
  split at h
  · cases h
  · split at h
    · rename_i q
      cases h
      rw [Bool.and_eq_true] at q
      exact ⟨q.1, of_decide_eq_true q.2⟩
    · cases h
end FD
set_option Elab.async false
set_option linter.all false
set_option maxRecDepth 100000
set_option maxHeartbeats 4000000
noncomputable section
namespace FD
open PySem L2 TL
theorem s_places {b g m : Int} (hb : isBase b) (hg : isB g) (h0 : 0 ≤ m) (h : m ≤ 300) : f_places_of [.int b, .int g, .int m] = .ok (.list ((plL b g m.toNat).map .int)) :=
  s_places_of hb hg h0 h fun k hk => T_pow hb (by omega)
theorem s_powplaces {b g m : Int} (hb : isBase b) (hg : isB g) (h0 : 0 ≤ m) (h : m ≤ 300) : f_power_places [.int b, .int g, .int m] = .ok (.list ((plL b g m.toNat).map .int)) :=
  s_power_places hb hg h0 h fun k hk => T_pow hb (by omega)
theorem fIx_0 {x : D} {xs : List D} : fIx (.list (x :: xs)) (.int 0) = some x := fIx_at (k := 0) rfl
theorem fEq_c0 {n : Bool} {x : Int} {xs : List Int} : fEq n (.list (.int x :: xs.map .int)) (.list []) = some (.bool n) := by
  have := fEq_l0 (n := n) (xs := x :: xs)
  simpa using this
def headD (xs : List Int) : D := match xs with
  | [] => .none
  | x :: _ => .int x
theorem s_first_power {b g m : Int} (hb : isBase b) (hg : isB g) (h0 : 0 ≤ m) (h : m ≤ 300) : f_first_power [.int b, .int g, .int m] = .ok (headD (plL b g m.toNat)) := by
  refine runF_of ?_
  have S := s_places hb hg h0 h
  cases hK : plL b g m.toNat with
  | nil =>
    rw [hK] at S
    simp [b_first_power, s_check_all hb hg h0 h, S, lineOk, headD]
  | cons k r =>
    rw [hK] at S
    simp [b_first_power, s_check_all hb hg h0 h, S, lineOk, headD, fIx_0, fEq_c0]
/-- differences from each to the next -/
def gapL (K : List Int) : List Int := List.zipWith (fun a b => b - a) K K.tail
theorem cutD_tail {xs : List D} : cutD xs (some 1) none = xs.tail := by
  unfold cutD
  rw [HT.sIx_none]
  cases xs with
  | nil => rfl
  | cons x r =>
    have : HT.sIx (x :: r).length 0 (some 1) = 1 := by
      rw [show (some (1 : Int)) = some ((1 : Nat) : Int) from rfl, HT.sIx_nat]
      simp
    rw [this]
    simp
theorem zip_map {K L : List Int} : zipD (K.map .int) (L.map .int) = (K.zip L).map fun p => PyData.tuple [.int p.1, .int p.2] := by
  unfold zipD
  induction K generalizing L with
  | nil => rfl
  | cons k K ih =>
    cases L with
    | nil => rfl
    | cons l L => simp [ih]
theorem gap_zip {K : List Int} : (K.zip K.tail).map (fun p => PyData.int (p.2 - p.1)) = (gapL K).map .int := by
  unfold gapL
  generalize K.tail = L
  induction K generalizing L with
  | nil => rfl
  | cons k K ih =>
    cases L with
    | nil => rfl
    | cons l L => simp [ih]
theorem plL_len {b g : Int} {m : Nat} : (plL b g m).length ≤ m + 1 := by
  unfold plL
  rw [List.length_map]
  exact Nat.le_trans (List.length_filter_le _ _) (by rw [List.length_range]; omega)
theorem zip_len {K : List Int} : (K.zip K.tail).length ≤ K.length := by rw [List.length_zip]; omega
theorem s_waits {b g m : Int} (hb : isBase b) (hg : isB g) (h0 : 0 ≤ m) (h : m ≤ 300) : f_waits [.int b, .int g, .int m] = .ok (.list ((gapL (plL b g m.toNat)).map .int)) := by
  refine runF_of ?_
  have S := s_places hb hg h0 h
  have hl := plL_len (b := b) (g := g) (m := m.toNat)
  generalize plL b g m.toNat = K at *
  have e1 : zipD (K.map PyData.int) ((K.map PyData.int).tail) = (K.zip K.tail).map fun p => PyData.tuple [.int p.1, .int p.2] := by rw [← List.map_tail, zip_map]
  have hz := zip_len (K := K)
  have hz' : ((K.zip K.tail).map fun p => PyData.tuple [.int p.1, .int p.2]).length ≤ 100000 := by rw [List.length_map]; omega
  simp [b_waits, s_check_all hb hg h0 h, S, cutD_tail, -List.map_tail, e1]
  rw [if_pos (by simpa using hz'), lcF_map (fun p => PyData.int (p.2 - p.1))]
  · simp [gap_zip]
  · intro p _
    exact ⟨_, by simp; rfl, _, by simp; rfl⟩
theorem indexD_idx {x : Int} : ∀ {xs : List Int}, x ∈ xs → indexD (.int x) (xs.map .int) = some (xs.idxOf x)
  | [], h => by cases h
  | y :: ys, h => by
    show (if PyData.eqv (.int y) (.int x) then some 0 else (indexD (.int x) (ys.map .int)).map (· + 1)) = _
    have e : PyData.eqv (.int y) (.int x) = (y == x) := rfl
    rw [e, List.idxOf_cons]
    cases q : (y == x) with
    | true => rfl
    | false =>
      have hne : y ≠ x := fun z => by subst z; simp at q
      rcases List.mem_cons.mp h with z | z
      · exact absurd z.symm hne
      · rw [indexD_idx z]; rfl
theorem gapL_len {K : List Int} : (gapL K).length = K.length - 1 := by
  unfold gapL
  rw [List.length_zipWith, List.length_tail]
  omega
theorem s_longest_wait {b g m : Int} (hb : isBase b) (hg : isB g) (h0 : 0 ≤ m) (h : m ≤ 300) : f_longest_wait [.int b, .int g, .int m] = if gapL (plL b g m.toNat) = [] then .err 4 else
    .ok (.tuple [.int ((plL b g m.toNat)[(gapL (plL b g m.toNat)).idxOf (maxI (gapL (plL b g m.toNat)))]?.getD 0), .int (maxI (gapL (plL b g m.toNat)))]) := by
  have S := s_places hb hg h0 h
  have hl := plL_len (b := b) (g := g) (m := m.toNat)
  generalize plL b g m.toNat = K at *
  have e1 : zipD (K.map PyData.int) ((K.map PyData.int).tail) = (K.zip K.tail).map fun p => PyData.tuple [.int p.1, .int p.2] := by rw [← List.map_tail, zip_map]
  have hz := zip_len (K := K)
  have hz' : ((K.zip K.tail).map fun p => PyData.tuple [.int p.1, .int p.2]).length ≤ 100000 := by rw [List.length_map]; omega
  have gl := gapL_len (K := K)
  split
  · rename_i hG
    rw [hG] at gl
    have k2 : (K.length : Int) < 2 := by simp at gl; omega
    refine runF_errOf ?_
    simp [b_longest_wait, s_check_all hb hg h0 h, S, k2]
  · rename_i hG
    have k2 : ¬ (K.length : Int) < 2 := by have := List.length_pos_iff.mpr hG; omega
    refine runF_of ?_
    simp [b_longest_wait, s_check_all hb hg h0 h, S, k2, cutD_tail, -List.map_tail, e1]
    rw [if_pos (by simpa using hz'), lcF_map (fun p => PyData.int (p.2 - p.1))]
    · have mx := (maxI_is hG).1
      have mf : fInts (fun ns => if ns = [] then none else some (.int (maxI ns))) [.list ((gapL K).map .int)] = some (.int (maxI (gapL K))) := by
        show (intsD ((gapL K).map .int)).bind _ = _
        rw [intsD_map]
        simp [hG]
      have ix : (gapL K).idxOf (maxI (gapL K)) < K.length := by have := List.idxOf_lt_length_iff.mpr mx; omega
      have fx : fIx (.list (K.map .int)) (.int (((gapL K).idxOf (maxI (gapL K)) : Nat) : Int)) = some (.int (K[(gapL K).idxOf (maxI (gapL K))]?.getD 0)) := fIx_at (by rw [List.getElem?_map, List.getElem?_eq_getElem ix]; rfl)
      simp [gap_zip, mf, flatD, all_flat, indexD_idx mx, fx, lineOk]
    · intro p _
      exact ⟨_, by simp; rfl, _, by simp; rfl⟩

/-! ### lists that are counted in -/
def augIxF (i : Nat) (y : D) (ds : List D) (e2 : Env) (r : R D) : F := match y with
    | .int k => if 0 ≤ k then match ixN ds.length k with
      | some j => match ds[j]? with
        | some (.int p) => r.toF fun x e3 => match x with
          | .int q => match Env.owL e3 i with
            | some ds' => match ixN ds'.length k with
              | some j' => .nx (e3.set i (some (.ow (.lst (ds'.set j' (.int (p + q)))))))
              | none => .bad
            | none => .bad
          | _ => .bad
        | _ => .bad
      | none => .bad
      else .bad
    | _ => .bad
@[simp] theorem augIx_ev {i : Nat} {ix a : CE} {env : Env} : (CS.augIx i ix a).ev env = (R.lift (Env.owL env i) env).toF fun _ e0 => (ix.ev e0).toF fun y e1 => (R.lift (Env.owL e1 i) e1).toF fun ds e2 => augIxF i y ds e2 (a.ev e2) := Eq.trans rfl rfl
theorem ixN_of {n : Nat} {k : Int} (h0 : 0 ≤ k) (h1 : k < n) : ixN n k = some k.toNat := by unfold ixN; rw [if_pos h0, if_pos h1]
theorem augIxF_of {i : Nat} {k q : Int} {ns : List Int} {e : Env} (h0 : 0 ≤ k) (h1 : k < ns.length) (he : Env.owL e i = some (ns.map .int)) :
    augIxF i (.int k) (ns.map .int) e (.ok (.int q) e) = .nx (e.set i (some (.ow (.lst ((ns.set k.toNat (ns[k.toNat]?.getD 0 + q)).map .int))))) := by
  have hk : k.toNat < ns.length := by omega
  unfold augIxF
  simp only [if_pos h0, List.length_map, ixN_of h0 h1, List.getElem?_map, List.getElem?_eq_getElem hk, Option.map_some, R.toF_ok, he, Option.getD_some, List.map_set]
def setIxF (i : Nat) (y x : D) (ds : List D) (e : Env) : F := match y with
    | .int k => match ixN ds.length k with
      | some j => .nx (e.set i (some (.ow (.lst (ds.set j x)))))
      | none => .bad
    | _ => .bad
@[simp] theorem setIx_ev {i : Nat} {ix a : CE} {env : Env} : (CS.setIx i ix a).ev env = (a.ev env).toF fun x e0 => (R.lift (Env.owL e0 i) e0).toF fun _ e1 => (ix.ev e1).toF fun y e2 => (R.lift (Env.owL e2 i) e2).toF fun ds e3 => setIxF i y x ds e3 := Eq.trans rfl rfl
theorem setIxF_of {i : Nat} {k : Int} {x : D} {ds : List D} {e : Env} (h0 : 0 ≤ k) (h1 : k < ds.length) : setIxF i (.int k) x ds e = .nx (e.set i (some (.ow (.lst (ds.set k.toNat x))))) := by
  unfold setIxF
  simp only [ixN_of h0 h1]
/-- how many of the first powers begin with d -/
def tabN (b : Int) (m : Nat) (d : Int) : Int := (((List.range m).filter fun (i : Nat) => decide (fst (b ^ i) 1 = d)).length : Nat)
def tabL (b : Int) (m : Nat) : List Int := (rg 1 10).map fun d => tabN b m d
theorem rg19 : rg 1 10 = [1, 2, 3, 4, 5, 6, 7, 8, 9] := by decide +kernel
theorem tabN_succ {b : Int} {m : Nat} {d : Int} : tabN b (m + 1) d = tabN b m d + (if fst (b ^ m) 1 = d then 1 else 0) := by
  unfold tabN
  rw [List.range_succ, List.filter_append, List.length_append]
  by_cases h : fst (b ^ m) 1 = d <;> simp [h]
theorem tabL_len {b : Int} {m : Nat} : (tabL b m).length = 9 := by unfold tabL; rw [List.length_map, rg19]; rfl
theorem tabL_get {b : Int} {m : Nat} {d : Int} (h1 : 1 ≤ d) (h9 : d ≤ 9) : (tabL b m)[(d - 1).toNat]? = some (tabN b m d) := by
  have : d = 1 ∨ d = 2 ∨ d = 3 ∨ d = 4 ∨ d = 5 ∨ d = 6 ∨ d = 7 ∨ d = 8 ∨ d = 9 := by omega
  unfold tabL
  rw [rg19]
  rcases this with rfl | rfl | rfl | rfl | rfl | rfl | rfl | rfl | rfl <;> rfl
theorem fst1 {v : Int} (h : 1 ≤ v) : 1 ≤ fst v 1 ∧ fst v 1 ≤ 9 := by
  obtain ⟨h1, h2⟩ := sz_fst h (k := 1) (by decide) (sz_pos v)
  have := sz_hi (show 0 ≤ fst v 1 by omega)
  rw [h1] at this
  have e : tp 1 = 10 := rfl
  omega
theorem tab_set {b : Int} {m : Nat} (hb : 1 ≤ b) : (tabL b m).set (fst (b ^ m) 1 - 1).toNat (((tabL b m)[(fst (b ^ m) 1 - 1).toNat]?.getD 0) + 1) = tabL b (m + 1) := by
  obtain ⟨h1, h9⟩ := fst1 (pow_pos' hb m)
  rw [tabL_get h1 h9, Option.getD_some]
  have e : ∀ d, tabN b (m + 1) d = tabN b m d + (if fst (b ^ m) 1 = d then 1 else 0) := fun d => tabN_succ
  have : fst (b ^ m) 1 = 1 ∨ fst (b ^ m) 1 = 2 ∨ fst (b ^ m) 1 = 3 ∨ fst (b ^ m) 1 = 4 ∨ fst (b ^ m) 1 = 5 ∨ fst (b ^ m) 1 = 6 ∨ fst (b ^ m) 1 = 7 ∨ fst (b ^ m) 1 = 8 ∨ fst (b ^ m) 1 = 9 := by omega
  unfold tabL
  rw [rg19]
  simp only [List.map_cons, List.map_nil, e]
  rcases this with q | q | q | q | q | q | q | q | q <;> rw [q] <;> simp
theorem s_digit_table {b m : Int} (hb : isBase b) (h0 : 0 ≤ m) (h : m ≤ 300) : f_digit_table [.int b, .int m] = .ok (.list ((tabL b (m.toNat + 1)).map .int)) := by
  refine runF_of ?_
  have hp := s_powers_of hb h0 h
  have hr : fRepL (.list [.int 0]) (.int 9) = some ((tabL b 0).map .int) := by
    have l9 : lineOk 9 = true := lineOk_of (by decide)
    show (if lk (decide (-100000 ≤ (9 : Int))) && lk (decide ((9 : Int) ≤ 100000)) && lineOk 9 then some (List.replicate 9 [PyData.int 0]).flatten else none) = _
    rw [l9, lk_of (by decide), lk_of (by decide)]
    simp only [Bool.and_self, if_true]
    unfold tabL
    rw [rg19]
    rfl
  simp [b_digit_table, s_check_base hb.1 hb.2, s_check_count h0 h, lineOk, hr, hp]
  unfold pwL
  rw [List.map_map]
  refine forF_th (Q := IsRt _) (fun i e => ∃ o3, e = [some (.im (.int b)), some (.im (.int m)), some (.ow (.lst ((tabL b i).map .int))), mI o3]) ⟨none, rfl⟩ ?_ ?_
  · rintro i x hx e ⟨o3, rfl⟩
    have hi : i < m.toNat + 1 := by have := (List.getElem?_eq_some_iff.mp hx).1; simpa using this
    have ex : x = i := by rw [List.getElem?_range hi] at hx; cases hx; rfl
    subst ex
    refine ⟨_, by simp; rfl, ?_⟩
    have F := s_first_of (k := 1) (T_pow hb (k := x) (by omega)) (by decide)
    obtain ⟨f1, f9⟩ := fst1 (pow_pos' (show 1 ≤ b by have := hb.1; omega) x)
    have A := augIxF_of (i := 2) (k := fst (b ^ x) 1 - 1) (q := 1) (ns := tabL b x) (e := [some (.im (.int b)), some (.im (.int m)), some (.ow (.lst ((tabL b x).map .int))), some (.im (.int (b ^ x)))]) (by omega) (by rw [tabL_len]; omega) (by simp)
    rw [tab_set (by have := hb.1; omega)] at A
    simp at A
    simp [F, A]
  · rintro e ⟨o3, rfl⟩
    simp
/-- the beginnings of k digits that no power has -/
def hasP (b : Int) (m : Nat) (k x : Int) : Bool := (List.range m).any fun (i : Nat) => decide (k ≤ sz (b ^ i)) && decide (fst (b ^ i) k = x)
def nevL (b : Int) (m : Nat) (k : Int) : List Int := (rg (tp (k - 1)) (tp k)).filter fun x => !hasP b m k x
def seenL (b : Int) (m : Nat) (k : Int) : List D := (List.range (tp k).toNat).map fun (x : Nat) => PyData.bool (hasP b m k x)
theorem s_never {b k m : Int} (hb : isBase b) (k1 : 1 ≤ k) (k3 : k ≤ 3) (h0 : 0 ≤ m) (h : m ≤ 300) : f_never [.int b, .int k, .int m] = .ok (.list ((nevL b (m.toNat + 1) k).map .int)) := by
  refine runF_of ?_
  have hp := s_powers_of hb h0 h
  have tk : tp k ≤ 1000 := tp_mono (b := 3) k3
  have tk0 := tp_pos k
  have TK := s_ten (k := k) (by omega) (by omega)
  have TK1 := s_ten (k := k - 1) (by omega) (by omega)
  have tk1 : tp (k - 1) ≤ tp k := tp_mono (by omega)
  have tk10 := tp_pos (k - 1)
  have hr : fRepL (.list [.bool false]) (.int (tp k)) = some (seenL b 0 k) := by
    have l9 : lineOk (tp k).toNat = true := lineOk_of (by omega)
    show (if lk (decide (-100000 ≤ tp k)) && lk (decide (tp k ≤ 100000)) && lineOk ([PyData.bool false].length * (tp k).toNat) then some (List.replicate (tp k).toNat [PyData.bool false]).flatten else none) = _
    rw [show [PyData.bool false].length * (tp k).toNat = (tp k).toNat by simp, l9, lk_of (by omega), lk_of (by omega)]
    simp only [Bool.and_self, if_true]
    unfold seenL hasP
    congr 1
    simp only [List.range_zero, List.any_nil]
    generalize (tp k).toNat = n
    induction n with
    | zero => rfl
    | succ n ih => rw [List.replicate_succ', List.flatten_append, ih, List.range_succ, List.map_append]; rfl
  simp [b_never, s_check_base hb.1 hb.2, s_check_count h0 h, s_check_count k1 k3, lineOk, TK, hr, hp]
  unfold pwL
  rw [List.map_map]
  refine forF_th (Q := IsRt _) (fun i e => ∃ o4, e = [some (.im (.int b)), some (.im (.int k)), some (.im (.int m)), some (.ow (.lst (seenL b i k))), mI o4, none]) ⟨none, rfl⟩ ?_ ?_
  · rintro i x hx e ⟨o4, rfl⟩
    have hi : i < m.toNat + 1 := by have := (List.getElem?_eq_some_iff.mp hx).1; simpa using this
    have ex : x = i := by rw [List.getElem?_range hi] at hx; cases hx; rfl
    subst ex
    refine ⟨_, by simp; rfl, ?_⟩
    have hT := T_pow hb (k := x) (by omega)
    have hP := pow_pos' (show 1 ≤ b by have := hb.1; omega) x
    have S := s_size_of hT
    have F := s_first_of (k := k) hT k1
    have step : ∀ z, hasP b (x + 1) k z = (hasP b x k z || (decide (k ≤ sz (b ^ x)) && decide (fst (b ^ x) k = z))) := fun z => by
      unfold hasP
      rw [List.range_succ, List.any_append]
      simp
    by_cases q : k ≤ sz (b ^ x)
    · obtain ⟨f1, f2⟩ := sz_fst hP k1 q
      have f3 := sz_hi (show 0 ≤ fst (b ^ x) k by omega)
      rw [f1] at f3
      have SS := setIxF_of (i := 3) (k := fst (b ^ x) k) (x := .bool true) (ds := seenL b x k) (e := [some (.im (.int b)), some (.im (.int k)), some (.im (.int m)), some (.ow (.lst (seenL b x k))), some (.im (.int (b ^ x))), none]) (by omega) (by unfold seenL; rw [List.length_map, List.length_range]; omega)
      have e1 : (seenL b x k).set (fst (b ^ x) k).toNat (.bool true) = seenL b (x + 1) k := by
        unfold seenL
        apply List.ext_getElem?
        intro j
        rw [List.getElem?_map, List.getElem?_set]
        by_cases hj : j < (tp k).toNat
        · rw [List.getElem?_range hj]
          simp only [List.length_map, List.length_range, Option.map_some, List.getElem?_map, List.getElem?_range hj, step, q, decide_true, Bool.true_and]
          by_cases hjj : (fst (b ^ x) k).toNat = j
          · have : fst (b ^ x) k = (j : Int) := by omega
            rw [if_pos hjj]
            simp [hjj, hj, this]
          · have : fst (b ^ x) k ≠ (j : Int) := by omega
            rw [if_neg hjj]
            simp [this]
        · rw [List.getElem?_eq_none (l := List.range (tp k).toNat) (by simpa using hj)]
          have : ¬ (fst (b ^ x) k).toNat = j := by omega
          rw [if_neg this, List.getElem?_map, List.getElem?_eq_none (l := List.range (tp k).toNat) (by simpa using hj)]
          rfl
      rw [e1] at SS
      simp at SS
      simp [S, F, q, SS]
    · have e1 : seenL b (x + 1) k = seenL b x k := by
        unfold seenL
        apply List.map_congr_left
        intro j _
        rw [step]
        simp [q]
      have q' : sz (b ^ x) < k := by omega
      rw [e1]
      simp [S, q]
  · rintro e ⟨o4, rfl⟩
    rw [List.length_range]
    have r1 : rngOk (tp (k - 1)) = true := rngOk_is (by omega) (by omega)
    have r2 : rngOk (tp k) = true := rngOk_is (by omega) (by omega)
    have hl : (rangeD (tp (k - 1)) 1 (tp k - tp (k - 1)).toNat).length ≤ 100000 := by rw [rangeD_length]; omega
    simp [TK, TK1, r1, r2]
    rw [if_pos hl, rangeD_rg, lcF_fil (fun x => !hasP b (m.toNat + 1) k x)]
    · simp [nevL]
    · intro x hx
      have hx := mem_rg.mp hx
      have fx : fIx (.list (seenL b (m.toNat + 1) k)) (.int x) = some (.bool (hasP b (m.toNat + 1) k x)) := by
        obtain ⟨n, rfl⟩ : ∃ n : Nat, x = n := ⟨x.toNat, by omega⟩
        refine fIx_at ?_
        unfold seenL
        rw [List.getElem?_map, List.getElem?_range (by omega)]
        rfl
      exact ⟨_, by simp; rfl, _, by simp [fx]; rfl, fun _ => ⟨_, by simp; rfl⟩⟩
end FD
set_option Elab.async false
set_option linter.all false
set_option maxRecDepth 100000
set_option maxHeartbeats 4000000
noncomputable section
namespace FD
open PySem L2 TL
@[simp] theorem ty_ll {ds : List D} : (tyName (.list ds)).bind (fun n => (kitB n "list").map PyData.bool) = some (.bool true) := Eq.trans rfl rfl
@[simp] theorem ty_ss {x : Str} : (tyName (.str x)).bind (fun n => (kitB n "str").map PyData.bool) = some (.bool true) := Eq.trans rfl rfl
theorem shaped_of {ds : List D} (h : ∀ d ∈ ds, PyData.canLay0 d = true ∧ PyData.depth d ≤ 60) : SeqAt.shaped (.list ds) = true := by
  have h1 : PyData.canLayAll0 ds = true := by
    induction ds with
    | nil => simp [PyData.canLayAll0]
    | cons d r ih => simp [PyData.canLayAll0, (h d (List.mem_cons_self ..)).1, ih fun x hx => h x (List.mem_cons_of_mem _ hx)]
  have h2 : PyData.depthAll ds ≤ 60 := by
    induction ds with
    | nil => simp [PyData.depthAll]
    | cons d r ih =>
      simp only [PyData.canLayAll0, Bool.and_eq_true] at h1
      have := ih (fun x hx => h x (List.mem_cons_of_mem _ hx)) h1.2
      have := (h d (List.mem_cons_self ..)).2
      simp only [PyData.depthAll]
      omega
  unfold SeqAt.shaped
  rw [Bool.and_eq_true]
  exact ⟨by simpa [PyData.canLay0] using h1, decide_eq_true (by simp only [PyData.depth]; omega)⟩
theorem fEq_nil {n : Bool} {ds : List D} (h : ∀ d ∈ ds, PyData.canLay0 d = true ∧ PyData.depth d ≤ 60) : fEq n (.list ds) (.list []) = some (.bool (if n then !decide (ds = []) else decide (ds = []))) := by
  unfold fEq
  rw [shaped_of h, shaped_of (ds := []) (by simp)]
  cases ds with
  | nil => simp [PyData.eqv, PyData.eqvAll]
  | cons d r => simp [PyData.eqv, PyData.eqvAll]
theorem tpD_ok (p : Int × Int) : PyData.canLay0 (tpD p) = true ∧ PyData.depth (tpD p) ≤ 60 := by
  unfold tpD
  refine ⟨by simp [PyData.canLay0, PyData.canLayAll0], by simp [PyData.depth, PyData.depthAll]⟩
theorem all_tpD (acc : List (Int × Int)) : ∀ d ∈ acc.map tpD, PyData.canLay0 d = true ∧ PyData.depth d ≤ 60 := fun d hd => by
  obtain ⟨p, _, rfl⟩ := List.mem_map.mp hd
  exact tpD_ok p
theorem atI_app {α : Type} {xs : List α} {x : α} : atI (xs ++ [x]) (-1) = some x := by
  rw [atI_end (by simp)]; simp
theorem setIxF_last {i : Nat} {x y : D} {ds : List D} {e : Env} : setIxF i (.int (-1)) x (ds ++ [y]) e = .nx (e.set i (some (.ow (.lst (ds ++ [x]))))) := by
  have h : ixN (ds ++ [y]).length (-1) = some ds.length := by
    unfold ixN
    rw [if_neg (by omega), if_pos (by simp; omega)]
    congr 1
    simp; omega
  unfold setIxF
  simp only [h]
  rw [List.set_append_right (h := Nat.le_refl _)]
  simp
theorem s_is_row {xs : List Int} (h : xs.length ≤ 100000) : f_is_row [.list (xs.map .int)] = .ok (.bool (rowOk xs)) := by
  refine runF_of ?_
  have LC : lcF (CGc.name 1).g.ev CT.yes.ev (CE.call 1 f_is_beginning (CA.cons (CE.var 1) CA.nil)).ev [some (Sl.im (.list (xs.map .int))), none] (xs.map .int) = some (xs.map fun x => .bool (decide (1 ≤ x) && decide (x ≤ 9999))) := lcF_map _ fun x hx => ⟨_, by simp; rfl, _, by simp [s_is_beginning]; rfl⟩
  have AL : fBools (fun bs => PyData.bool (bs.all id)) [.list (xs.map fun x => .bool (decide (1 ≤ x) && decide (x ≤ 9999)))] = some (.bool (xs.all fun x => decide (1 ≤ x) && decide (x ≤ 9999))) := by
    rw [fBools_map, List.all_map]
    rfl
  have e : rowOk xs = (decide (1 ≤ (xs.length : Int)) && decide ((xs.length : Int) ≤ 20) && xs.all fun x => decide (1 ≤ x) && decide (x ≤ 9999)) := rfl
  rw [e]
  cases q : (decide (1 ≤ (xs.length : Int)) && decide ((xs.length : Int) ≤ 20)) with
  | true => simp [b_is_row, args, h, q, LC, AL]
  | false => simp [b_is_row, args, h, q]
theorem s_parts_of {xs : List Int} (h : xs.length ≤ 10000) : f_parts_of [.list (xs.map .int)] = .ok (.list ((partsL xs).map tpD)) := by
  refine runF_of ?_
  simp [b_parts_of, args, lineOk]
  refine forF_th (Q := IsRt _) (fun i e => ∃ acc o2, e = [some (.im (.list (xs.map .int))), some (.ow (.lst (acc.map tpD))), mI o2] ∧ acc.length ≤ i ∧ (i = 0 → acc = []) ∧ (0 < i → ∃ init a z, acc = init ++ [(a, z)] ∧ partsL xs = init ++ goP a z (xs.drop i))) ⟨[], none, rfl, by simp, by simp, by omega⟩ ?_ ?_
  · rintro i x hx e ⟨acc, o2, rfl, hl, h0, h1⟩
    refine ⟨_, by simp; rfl, ?_⟩
    have hi := (List.getElem?_eq_some_iff.mp hx).1
    have hd : xs.drop i = x :: xs.drop (i + 1) := by
      rw [List.drop_eq_getElem_cons hi]
      congr 1
      exact (List.getElem?_eq_some_iff.mp hx).2
    by_cases q : i = 0
    · have := h0 q
      subst this
      subst q
      simp [lineOk]
      refine ⟨[(x, x)], by simp [tpD], by simp, [], x, x, by simp, ?_⟩
      have e0 : xs = x :: xs.drop 1 := by simpa using hd
      conv => lhs; rw [e0]
      show goP x x (xs.drop 1) = goP x x xs.tail
      rw [List.drop_one]
    · obtain ⟨init, a, z, rfl, hp⟩ := h1 (by omega)
      rw [hd] at hp
      have hlen : (init ++ [(a, z)]).length < 100000 := by omega
      have E0 := fEq_nil (n := true) (all_tpD (init ++ [(a, z)]))
      simp only [List.map_append, List.map_cons, List.map_nil, tpD] at E0
      simp at E0
      simp at hlen
      by_cases w : z + 1 = x
      · simp [lineOk, E0, fNeg, atI_app, tpD, w, setIxF_last]
        refine ⟨init ++ [(a, x)], by simp [tpD], by simp at hl; simp; omega, init, a, x, rfl, ?_⟩
        rw [hp]
        congr 1
        show (if z + 1 = x then _ else _) = _
        rw [if_pos w]
      · simp [lineOk, E0, fNeg, atI_app, tpD, w, hlen]
        refine ⟨init ++ [(a, z)] ++ [(x, x)], by simp [tpD], by simp at hl; simp; omega, init ++ [(a, z)], x, x, rfl, ?_⟩
        rw [hp, List.append_assoc]
        congr 1
        show (if z + 1 = x then _ else _) = _
        rw [if_neg w]
        rfl
  · rintro e ⟨acc, o2, rfl, hl, h0, h1⟩
    have : acc = partsL xs := by
      by_cases q : xs.length = 0
      · rw [h0 q, List.length_eq_zero_iff.mp q]; rfl
      · obtain ⟨init, a, z, rfl, hp⟩ := h1 (by omega)
        rw [hp, List.drop_length]
        rfl
    subst this
    simp

theorem toL_txt {v : Int} (h : 0 ≤ v) : toL (txtOf v) = numL v.toNat := by
  have := tl_txt v.toNat
  rw [show ((v.toNat : Nat) : Int) = v by omega] at this
  exact this
def wordS (p : Int × Int) : Str := ⟨(wordT p).toArray⟩
def textS (xs : List Int) : Str := ⟨(textN xs).toArray⟩
theorem toL_word (p : Int × Int) : toL (wordS p) = wordT p := rfl
theorem toL_text (xs : List Int) : toL (textS xs) = textN xs := rfl
theorem sp_is : (("\x20" : String) : Str) = ⟨#[32]⟩ := by decide +kernel
theorem mi_is : (("-" : String) : Str) = ⟨#[45]⟩ := by decide +kernel
theorem num_len {v : Int} (h : isB v) : (numL v.toNat).length ≤ 4 ∧ 1 ≤ (numL v.toNat).length := by
  have h1 := h.1
  have h2 := h.2
  refine ⟨?_, dl_pos _⟩
  show dl v.toNat ≤ 4
  have := (dl_bounds v.toNat).2 (by omega)
  rcases Nat.lt_or_ge 4 (dl v.toNat) with q | q
  · have := Nat.pow_le_pow_right (n := 10) (by decide) (show 4 ≤ dl v.toNat - 1 by omega)
    omega
  · exact q
theorem word_len {p : Int × Int} (h1 : isB p.1) (h2 : isB p.2) : (wordT p).length ≤ 9 ∧ 1 ≤ (wordT p).length := by
  have a := num_len h1
  have b := num_len h2
  unfold wordT
  split
  · omega
  · simp; omega
theorem strsD_words (ps : List (Int × Int)) : strsD (ps.map fun p => PyData.str (wordS p)) = some (ps.map wordS) := by
  have : (ps.map fun p => PyData.str (wordS p)) = (ps.map wordS).map .str := by rw [List.map_map]; rfl
  rw [this, strsD_map]
theorem fFmt_is {v : Int} (h : isB v) : fFmt (.int v) = some (txtOf v) := by
  have h1 := h.1
  have h2 := h.2
  have hb : v.natAbs < BIGF := by
    have : (10000 : Nat) ≤ BIGF := by
      show 10 ^ 4 ≤ 10 ^ 570
      exact Nat.pow_le_pow_right (by decide) (by decide)
    omega
  unfold fFmt
  simp only [lk_of hb, if_true]
theorem s_text_of {xs : List Int} (h : rowOk xs = true) : f_text_of [.list (xs.map .int)] = .ok (.str (textS xs)) := by
  refine runF_of ?_
  have hr := parts_row h
  obtain ⟨⟨l1, l2⟩, hb⟩ := rowOk_iff.mp h
  have hl := parts_len xs
  have P := s_parts_of (xs := xs) (by omega)
  have hlen : (partsL xs).length ≤ 100000 := by omega
  simp [b_text_of, args, P, hlen]
  rw [lcF_map (fun p => PyData.str (wordS p))]
  rotate_left
  · intro p hp
    obtain ⟨h1, h2, h3, h4⟩ := hr p hp
    obtain ⟨a, z⟩ := p
    refine ⟨_, by simp [tpD]; rfl, ?_⟩
    have a1 := num_len h1
    have z1 := num_len h2
    simp only at h1 h2 a1 z1
    have ta := toL_txt (v := a) (by have := h1.1; omega)
    have tz := toL_txt (v := z) (by have := h2.1; omega)
    by_cases e : a = z
    · subst e
      refine ⟨[some (.im (.list (xs.map .int))), some (.im (.int a)), some (.im (.int a))], ?_⟩
      have ew : txtOf a = wordS (a, a) := toL_ext (by
        rw [ta, toL_word]; unfold wordT; rw [if_pos rfl])
      simp [fStrI_is (isT_B h1), ew]
    · have ew : Str.empty ++ txtOf a ++ ((("-" : String) : Str)) ++ txtOf z = wordS (a, z) := toL_ext (by
        rw [toL_app, toL_app, toL_app, ta, tz, toL_word, mi_is]; unfold wordT; rw [if_neg e]
        show [] ++ numL a.toNat ++ [45] ++ numL z.toNat = _
        simp)
      have n1 := fFmt_is h1
      have n2 := fFmt_is h2
      have lt : (txtOf a).length ≤ 9 ∧ (txtOf z).length ≤ 9 := by
        rw [← toL_len, ← toL_len, ta, tz]; omega
      have lz : (txtOf a).length + 1 + (txtOf z).length ≤ 100000 := by omega
      have la (x y : Str) : (x ++ y).length = x.length + y.length := by rw [← toL_len, toL_app, List.length_append, toL_len, toL_len]
      have le0 : Str.empty.length = 0 := rfl
      have lm : ((("-" : String) : Str)).length = 1 := by rw [mi_is]; rfl
      have k1 : lineOk (Str.empty ++ txtOf a).length = true := lineOk_of (by rw [la]; omega)
      have k2 : lineOk (Str.empty ++ txtOf a ++ ((("-" : String) : Str))).length = true := lineOk_of (by rw [la, la]; omega)
      have k3 : lineOk (Str.empty ++ txtOf a ++ ((("-" : String) : Str)) ++ txtOf z).length = true := lineOk_of (by rw [la, la, la]; omega)
      refine ⟨[some (.im (.list (xs.map .int))), some (.im (.int a)), some (.im (.int z))], ?_⟩
      have k4 : lineOk (wordS (a, z)).length = true := by rw [← ew]; exact k3
      simp [e, n1, n2, k1, k2, k4, ew]
  have hj : fJoin ((("\x20" : String) : Str)) (.list ((partsL xs).map fun p => PyData.str (wordS p))) = some (.str (textS xs)) := by
    unfold fJoin
    simp only [strsD_words, Option.bind_some]
    have hs := StrLaws.sumLen_le (B := 9) ((partsL xs).map wordS) fun y hy => by
      obtain ⟨p, hp, rfl⟩ := List.mem_map.mp hy
      have := word_len (hr p hp).1 (hr p hp).2.1
      rw [← toL_len, toL_word]; omega
    rw [List.length_map] at hs ⊢
    rw [if_pos]
    · congr 2
      apply toL_ext
      rw [toL_text]
      show toL (Builtin.Str.glued _ _) = _
      rw [StrLaws.glued_eq_join, sp_is, toL_join, List.map_map]
      rfl
    · refine decide_eq_true ?_
      have : ((("\x20" : String) : Str)).length = 1 := by rw [sp_is]; rfl
      rw [this]
      omega
  simp [hj]
theorem s_format {xs : List Int} (h : rowOk xs = true) : f_format_beginnings [.list (xs.map .int)] = .ok (.str (textS xs)) := by
  refine runF_of ?_
  obtain ⟨⟨l1, l2⟩, hb⟩ := rowOk_iff.mp h
  have R := s_is_row (xs := xs) (by omega)
  rw [h] at R
  simp [b_format_beginnings, args, R, s_text_of h]
theorem len_str {z : Str} (h : z.length ≤ 100000) : fLen [.str z] = some (.int (toL z).length) := by
  have := lineOk_of h
  rw [toL_len]
  simp [fLen, this]
theorem digs_is (c : Nat) : fInS (.str ⟨#[c]⟩) (.str (("0123456789" : String) : Str)) = some (.bool (isDg c)) := by
  have e : ((("0123456789" : String) : Str)).cps.toList = [48, 49, 50, 51, 52, 53, 54, 55, 56, 57] := by decide +kernel
  show some (PyData.bool (decide (c ∈ ((("0123456789" : String) : Str)).cps.toList))) = _
  rw [e]
  unfold isDg
  congr 2
  apply Bool.eq_iff_iff.mpr
  rw [decide_eq_true_iff, Bool.and_eq_true, decide_eq_true_iff, decide_eq_true_iff]
  simp
  omega
theorem zero_is : (("0" : String) : Str) = ⟨#[48]⟩ := by decide +kernel
theorem s_number_in {w : Str} (hw : ∀ c ∈ toL w, c < 1114112) (hl : w.length ≤ 10000) : f_number_in [.str w] = match numN (toL w) with
    | some v => .ok (.int v)
    | none => .err 3 := by
  have L := len_str (z := w) (by omega)
  have hlL := toL_len w
  have eS : strD w = (toL w).map fun c => PyData.str ⟨#[c]⟩ := rfl
  have LC : lcF (CGc.name 1).g.ev CT.yes.ev (CE.inS (CE.var 1) (CE.str "0123456789")).ev [some (Sl.im (.str w)), none] (strD w) = some ((toL w).map fun c => .bool (isDg c)) := by
    rw [eS]
    exact lcF_map _ fun c hc => ⟨_, by simp; rfl, _, by simp [digs_is]; rfl⟩
  have AL : fBools (fun bs => PyData.bool (bs.all id)) [.list ((toL w).map fun c => .bool (isDg c))] = some (.bool ((toL w).all isDg)) := by
    rw [fBools_map, List.all_map]
    rfl
  have lenS : (strD w).length ≤ 100000 := by rw [eS, List.length_map]; omega
  cases q : (decide (1 ≤ ((toL w).length : Int)) && decide (((toL w).length : Int) ≤ 4)) with
  | false =>
    have e : numN (toL w) = none := by
      unfold numN
      rw [if_neg]
      intro h
      rw [Bool.and_eq_true, Bool.and_eq_true] at h
      have h1 := of_decide_eq_true h.1.1
      have h2 := of_decide_eq_true h.1.2
      rw [decide_eq_true (show 1 ≤ ((toL w).length : Int) by omega), decide_eq_true (show ((toL w).length : Int) ≤ 4 by omega)] at q
      cases q
    rw [e]
    refine runF_errOf ?_
    simp [b_number_in, args, L, q]
  | true =>
    have q' := q
    rw [Bool.and_eq_true] at q'
    have q1 := of_decide_eq_true q'.1
    have q2 := of_decide_eq_true q'.2
    have g1 : (decide (1 ≤ (toL w).length) && decide ((toL w).length ≤ 4)) = true := by
      rw [decide_eq_true (show 1 ≤ (toL w).length by omega), decide_eq_true (show (toL w).length ≤ 4 by omega)]; rfl
    cases qa : (toL w).all isDg with
    | false =>
      have e : numN (toL w) = none := by
        unfold numN
        rw [if_neg]
        rw [qa, g1]
        simp
      rw [e]
      rw [qa] at AL
      refine runF_errOf ?_
      simp [b_number_in, args, L, q, LC, AL, lenS]
    | true =>
      rw [qa] at AL
      obtain ⟨d, r, hdr⟩ : ∃ d r, toL w = d :: r := by
        cases h : toL w with
        | nil => rw [h] at q1; simp at q1
        | cons d r => exact ⟨d, r, rfl⟩
      have IX : fIx (.str w) (.int 0) = some (.str ⟨#[d]⟩) := by
        have hk := lineOk_of (n := w.length) (by omega)
        show (if lineOk w.length = true then (atI w.cps.toList 0).map fun c => PyData.str ⟨#[c]⟩ else none) = _
        rw [if_pos hk, show w.cps.toList = d :: r from hdr, atI_0]
        rfl
      have dok : PyData.strOk ⟨#[d]⟩ = true := strOk_of fun c hc => by
        have : c = d := by simpa using hc
        rw [this]
        exact hw d (by rw [hdr]; exact List.mem_cons_self ..)
      have zok : PyData.strOk (("0" : String) : Str) = true := by decide +kernel
      have EQ := fEq_ss (n := false) dok zok
      by_cases z : d = 48
      · have e : numN (toL w) = none := by
          unfold numN
          rw [if_neg]
          rw [qa, g1, hdr, z]
          simp
        rw [e]
        rw [decide_eq_true (show (⟨#[d]⟩ : Str) = (("0" : String) : Str) by rw [zero_is, z])] at EQ
        refine runF_errOf ?_
        simp [b_number_in, args, L, q, LC, AL, lenS, IX, EQ]
      · have h0 : (toL w)[0]? ≠ some 48 := by rw [hdr]; simpa using z
        have e : numN (toL w) = some (valN (toL w) : Int) := by
          unfold numN
          rw [if_pos]
          rw [qa, g1, decide_eq_false h0]
          rfl
        obtain ⟨h1, h2⟩ := dig_num ((toL w).length - 1) (toL w) (by omega) qa h0
        have hwt : w = txtOf ((valN (toL w) : Nat) : Int) := toL_ext (by
          rw [toL_txt (by omega)]
          exact h1)
        have hd : dl (valN (toL w)) ≤ 640 := by
          have : dl (valN (toL w)) = (toL w).length := by unfold dl; rw [← h1]
          omega
        have IN := intOf_txt hd
        rw [← hwt] at IN
        rw [e]
        rw [decide_eq_false (show ¬ (⟨#[d]⟩ : Str) = (("0" : String) : Str) by rw [zero_is]; intro k; apply z; have := congrArg toL k; simpa [toL] using this)] at EQ
        refine runF_of ?_
        simp [b_number_in, args, L, q, LC, AL, lenS, IX, EQ, IN]
end FD
set_option Elab.async false
set_option linter.all false
set_option maxRecDepth 100000
set_option maxHeartbeats 4000000
noncomputable section
namespace FD
open PySem L2 TL
theorem nm1 : ("multiply" : Str) ≠ "past" ∧ ("multiply" : Str) ≠ "line" := by decide +kernel
theorem nm5 : ("first_digits" : Str) ≠ "past" ∧ ("first_digits" : Str) ≠ "line" := by decide +kernel
theorem ng1 : f_check_number [.int 1] = .ok .none := s_check_number ⟨by decide, by decide⟩
theorem ask_ok1 {w : Int} {d x : D} (h : f_law_counted [.int w, d] = .ok x) : f_law_asked [.int 1, .int w, d] = .ok (.str (("done" : String) : Str)) := by
  refine runF_of ?_
  simp [b_law_asked, args, h]
theorem ask_er1 {w : Int} {d : D} {k : Nat} (h : f_law_counted [.int w, d] = .err k) (hk : k < 5) : f_law_asked [.int 1, .int w, d] = .ok (.str (errN k)) := by
  refine runF_of ?_
  simp [b_law_asked, args, h, s_law_error hk, hk]
theorem ask_ok2 {w : Int} {d x : D} (h : f_law_based [.int w, d] = .ok x) : f_law_asked [.int 2, .int w, d] = .ok (.str (("done" : String) : Str)) := by
  refine runF_of ?_
  simp [b_law_asked, args, h]
theorem ask_er2 {w : Int} {d : D} {k : Nat} (h : f_law_based [.int w, d] = .err k) (hk : k < 5) : f_law_asked [.int 2, .int w, d] = .ok (.str (errN k)) := by
  refine runF_of ?_
  simp [b_law_asked, args, h, s_law_error hk, hk]
def highs : List Int := [4, 4, 4, 3, 3, 3, 3, 3, 3, 60, 60, 60, 300, 300, 300, 300, 300, 600, 1000, 1000000000]
def lows : List Int := [1, 1, 1, 1, 1, 1, 1, 1, 1, 1, 1, 1, 0, 0, 0, 0, 0, 1, 1, 0]
theorem bc0 {d : D} (c : f_check_count [d, .int 1, .int 4] = .err 2) : f_law_asked [.int 1, .int 0, d] = .ok (.str (("count" : String) : Str)) := by
  have H : f_law_counted [.int 0, d] = .err 2 := by
    refine runF_errOf ?_
    simp [b_law_counted, b_law_counted_1, b_law_counted_2, b_law_counted_3, b_law_counted_4, b_law_counted_5, b_law_counted_6, b_law_counted_7, b_law_counted_8, b_law_counted_9, b_law_counted_10, b_law_counted_11, b_law_counted_12, args, ec0 c, hn, nm5.1, nm5.2]
  exact ask_er1 H (by decide)
theorem bc1 {d : D} (c : f_check_count [d, .int 1, .int 4] = .err 2) : f_law_asked [.int 1, .int 1, d] = .ok (.str (("count" : String) : Str)) := by
  have H : f_law_counted [.int 1, d] = .err 2 := by
    refine runF_errOf ?_
    simp [b_law_counted, b_law_counted_1, b_law_counted_2, b_law_counted_3, b_law_counted_4, b_law_counted_5, b_law_counted_6, b_law_counted_7, b_law_counted_8, b_law_counted_9, b_law_counted_10, b_law_counted_11, b_law_counted_12, args, ec1 c, hn, nm5.1, nm5.2]
  exact ask_er1 H (by decide)
theorem bc2 {d : D} (c : f_check_count [d, .int 1, .int 4] = .err 2) : f_law_asked [.int 1, .int 2, d] = .ok (.str (("count" : String) : Str)) := by
  have H : f_law_counted [.int 2, d] = .err 2 := by
    refine runF_errOf ?_
    simp [b_law_counted, b_law_counted_1, b_law_counted_2, b_law_counted_3, b_law_counted_4, b_law_counted_5, b_law_counted_6, b_law_counted_7, b_law_counted_8, b_law_counted_9, b_law_counted_10, b_law_counted_11, b_law_counted_12, args, ec2 c, hn, nm5.1, nm5.2]
  exact ask_er1 H (by decide)
theorem bc3 {d : D} (c : f_check_count [d, .int 1, .int 3] = .err 2) : f_law_asked [.int 1, .int 3, d] = .ok (.str (("count" : String) : Str)) := by
  have H : f_law_counted [.int 3, d] = .err 2 := by
    refine runF_errOf ?_
    simp [b_law_counted, b_law_counted_1, b_law_counted_2, b_law_counted_3, b_law_counted_4, b_law_counted_5, b_law_counted_6, b_law_counted_7, b_law_counted_8, b_law_counted_9, b_law_counted_10, b_law_counted_11, b_law_counted_12, args, ec3 c, hn, nm5.1, nm5.2]
  exact ask_er1 H (by decide)
theorem bc4 {d : D} (c : f_check_count [d, .int 1, .int 3] = .err 2) : f_law_asked [.int 1, .int 4, d] = .ok (.str (("count" : String) : Str)) := by
  have H : f_law_counted [.int 4, d] = .err 2 := by
    refine runF_errOf ?_
    simp [b_law_counted, b_law_counted_1, b_law_counted_2, b_law_counted_3, b_law_counted_4, b_law_counted_5, b_law_counted_6, b_law_counted_7, b_law_counted_8, b_law_counted_9, b_law_counted_10, b_law_counted_11, b_law_counted_12, args, ec4 c, hn, nm5.1, nm5.2]
  exact ask_er1 H (by decide)
theorem bc5 {d : D} (c : f_check_count [d, .int 1, .int 3] = .err 2) : f_law_asked [.int 1, .int 5, d] = .ok (.str (("count" : String) : Str)) := by
  have H : f_law_counted [.int 5, d] = .err 2 := by
    refine runF_errOf ?_
    simp [b_law_counted, b_law_counted_1, b_law_counted_2, b_law_counted_3, b_law_counted_4, b_law_counted_5, b_law_counted_6, b_law_counted_7, b_law_counted_8, b_law_counted_9, b_law_counted_10, b_law_counted_11, b_law_counted_12, args, ec5 c, hn, nm5.1, nm5.2]
  exact ask_er1 H (by decide)
theorem bc6 {d : D} (c : f_check_count [d, .int 1, .int 3] = .err 2) : f_law_asked [.int 1, .int 6, d] = .ok (.str (("count" : String) : Str)) := by
  have H : f_law_counted [.int 6, d] = .err 2 := by
    refine runF_errOf ?_
    simp [b_law_counted, b_law_counted_1, b_law_counted_2, b_law_counted_3, b_law_counted_4, b_law_counted_5, b_law_counted_6, b_law_counted_7, b_law_counted_8, b_law_counted_9, b_law_counted_10, b_law_counted_11, b_law_counted_12, args, ec6 c, hn, nm5.1, nm5.2]
  exact ask_er1 H (by decide)
theorem bc7 {d : D} (c : f_check_count [d, .int 1, .int 3] = .err 2) : f_law_asked [.int 1, .int 7, d] = .ok (.str (("count" : String) : Str)) := by
  have H : f_law_counted [.int 7, d] = .err 2 := by
    refine runF_errOf ?_
    simp [b_law_counted, b_law_counted_1, b_law_counted_2, b_law_counted_3, b_law_counted_4, b_law_counted_5, b_law_counted_6, b_law_counted_7, b_law_counted_8, b_law_counted_9, b_law_counted_10, b_law_counted_11, b_law_counted_12, args, ec7 c, hn, nm5.1, nm5.2]
  exact ask_er1 H (by decide)
theorem bc8 {d : D} (c : f_check_count [d, .int 1, .int 3] = .err 2) : f_law_asked [.int 1, .int 8, d] = .ok (.str (("count" : String) : Str)) := by
  have H : f_law_counted [.int 8, d] = .err 2 := by
    refine runF_errOf ?_
    simp [b_law_counted, b_law_counted_1, b_law_counted_2, b_law_counted_3, b_law_counted_4, b_law_counted_5, b_law_counted_6, b_law_counted_7, b_law_counted_8, b_law_counted_9, b_law_counted_10, b_law_counted_11, b_law_counted_12, args, ec8 c, hn, nm5.1, nm5.2]
  exact ask_er1 H (by decide)
theorem bc9 {d : D} (c : f_check_count [d, .int 1, .int 60] = .err 2) : f_law_asked [.int 1, .int 9, d] = .ok (.str (("count" : String) : Str)) := by
  have H : f_law_counted [.int 9, d] = .err 2 := by
    refine runF_errOf ?_
    simp [b_law_counted, b_law_counted_1, b_law_counted_2, b_law_counted_3, b_law_counted_4, b_law_counted_5, b_law_counted_6, b_law_counted_7, b_law_counted_8, b_law_counted_9, b_law_counted_10, b_law_counted_11, b_law_counted_12, args, ec9 c, hn, nm5.1, nm5.2]
  exact ask_er1 H (by decide)
theorem bc10 {d : D} (c : f_check_count [d, .int 1, .int 60] = .err 2) : f_law_asked [.int 1, .int 10, d] = .ok (.str (("count" : String) : Str)) := by
  have H : f_law_counted [.int 10, d] = .err 2 := by
    refine runF_errOf ?_
    simp [b_law_counted, b_law_counted_1, b_law_counted_2, b_law_counted_3, b_law_counted_4, b_law_counted_5, b_law_counted_6, b_law_counted_7, b_law_counted_8, b_law_counted_9, b_law_counted_10, b_law_counted_11, b_law_counted_12, args, ec10 c, hn, nm5.1, nm5.2]
  exact ask_er1 H (by decide)
theorem bc11 {d : D} (c : f_check_count [d, .int 1, .int 60] = .err 2) : f_law_asked [.int 1, .int 11, d] = .ok (.str (("count" : String) : Str)) := by
  have H : f_law_counted [.int 11, d] = .err 2 := by
    refine runF_errOf ?_
    simp [b_law_counted, b_law_counted_1, b_law_counted_2, b_law_counted_3, b_law_counted_4, b_law_counted_5, b_law_counted_6, b_law_counted_7, b_law_counted_8, b_law_counted_9, b_law_counted_10, b_law_counted_11, b_law_counted_12, args, ec11 c, hn, nm5.1, nm5.2]
  exact ask_er1 H (by decide)
theorem bc12 {d : D} (c : f_check_count [d, .int 0, .int 300] = .err 2) : f_law_asked [.int 1, .int 12, d] = .ok (.str (("count" : String) : Str)) := by
  have H : f_law_powers [.int 12, d] = .err 2 := by
    refine runF_errOf ?_
    simp [b_law_powers, b_law_powers_1, b_law_powers_2, b_law_powers_3, b_law_powers_4, b_law_powers_5, b_law_powers_6, b_law_powers_7, args, ec12 c]
  have H : f_law_counted [.int 12, d] = .err 2 := by
    refine runF_errOf ?_
    simp [b_law_counted, b_law_counted_1, b_law_counted_2, b_law_counted_3, b_law_counted_4, b_law_counted_5, b_law_counted_6, b_law_counted_7, b_law_counted_8, b_law_counted_9, b_law_counted_10, b_law_counted_11, b_law_counted_12, args, H]
  exact ask_er1 H (by decide)
theorem bc13 {d : D} (c : f_check_count [d, .int 0, .int 300] = .err 2) : f_law_asked [.int 1, .int 13, d] = .ok (.str (("count" : String) : Str)) := by
  have H : f_law_powers [.int 13, d] = .err 2 := by
    refine runF_errOf ?_
    simp [b_law_powers, b_law_powers_1, b_law_powers_2, b_law_powers_3, b_law_powers_4, b_law_powers_5, b_law_powers_6, b_law_powers_7, args, ec13 c]
  have H : f_law_counted [.int 13, d] = .err 2 := by
    refine runF_errOf ?_
    simp [b_law_counted, b_law_counted_1, b_law_counted_2, b_law_counted_3, b_law_counted_4, b_law_counted_5, b_law_counted_6, b_law_counted_7, b_law_counted_8, b_law_counted_9, b_law_counted_10, b_law_counted_11, b_law_counted_12, args, H]
  exact ask_er1 H (by decide)
theorem bc14 {d : D} (c : f_check_count [d, .int 0, .int 300] = .err 2) : f_law_asked [.int 1, .int 14, d] = .ok (.str (("count" : String) : Str)) := by
  have H : f_law_powers [.int 14, d] = .err 2 := by
    refine runF_errOf ?_
    simp [b_law_powers, b_law_powers_1, b_law_powers_2, b_law_powers_3, b_law_powers_4, b_law_powers_5, b_law_powers_6, b_law_powers_7, args, ec14 c]
  have H : f_law_counted [.int 14, d] = .err 2 := by
    refine runF_errOf ?_
    simp [b_law_counted, b_law_counted_1, b_law_counted_2, b_law_counted_3, b_law_counted_4, b_law_counted_5, b_law_counted_6, b_law_counted_7, b_law_counted_8, b_law_counted_9, b_law_counted_10, b_law_counted_11, b_law_counted_12, args, H]
  exact ask_er1 H (by decide)
theorem bc15 {d : D} (c : f_check_count [d, .int 0, .int 300] = .err 2) : f_law_asked [.int 1, .int 15, d] = .ok (.str (("count" : String) : Str)) := by
  have H : f_law_powers [.int 15, d] = .err 2 := by
    refine runF_errOf ?_
    simp [b_law_powers, b_law_powers_1, b_law_powers_2, b_law_powers_3, b_law_powers_4, b_law_powers_5, b_law_powers_6, b_law_powers_7, args, ec15 c]
  have H : f_law_counted [.int 15, d] = .err 2 := by
    refine runF_errOf ?_
    simp [b_law_counted, b_law_counted_1, b_law_counted_2, b_law_counted_3, b_law_counted_4, b_law_counted_5, b_law_counted_6, b_law_counted_7, b_law_counted_8, b_law_counted_9, b_law_counted_10, b_law_counted_11, b_law_counted_12, args, H]
  exact ask_er1 H (by decide)
theorem bc16 {d : D} (c : f_check_count [d, .int 0, .int 300] = .err 2) : f_law_asked [.int 1, .int 16, d] = .ok (.str (("count" : String) : Str)) := by
  have H : f_law_powers [.int 16, d] = .err 2 := by
    refine runF_errOf ?_
    simp [b_law_powers, b_law_powers_1, b_law_powers_2, b_law_powers_3, b_law_powers_4, b_law_powers_5, b_law_powers_6, b_law_powers_7, args, ec16 c]
  have H : f_law_counted [.int 16, d] = .err 2 := by
    refine runF_errOf ?_
    simp [b_law_counted, b_law_counted_1, b_law_counted_2, b_law_counted_3, b_law_counted_4, b_law_counted_5, b_law_counted_6, b_law_counted_7, b_law_counted_8, b_law_counted_9, b_law_counted_10, b_law_counted_11, b_law_counted_12, args, H]
  exact ask_er1 H (by decide)
theorem bc17 {d : D} (c : f_check_count [d, .int 1, .int 600] = .err 2) : f_law_asked [.int 1, .int 17, d] = .ok (.str (("count" : String) : Str)) := by
  have H : f_law_powers [.int 17, d] = .err 2 := by
    refine runF_errOf ?_
    simp [b_law_powers, b_law_powers_1, b_law_powers_2, b_law_powers_3, b_law_powers_4, b_law_powers_5, b_law_powers_6, b_law_powers_7, args, ec17 c]
  have H : f_law_counted [.int 17, d] = .err 2 := by
    refine runF_errOf ?_
    simp [b_law_counted, b_law_counted_1, b_law_counted_2, b_law_counted_3, b_law_counted_4, b_law_counted_5, b_law_counted_6, b_law_counted_7, b_law_counted_8, b_law_counted_9, b_law_counted_10, b_law_counted_11, b_law_counted_12, args, H]
  exact ask_er1 H (by decide)
theorem bc18 {d : D} (c : f_check_count [d, .int 1, .int 1000] = .err 2) : f_law_asked [.int 1, .int 18, d] = .ok (.str (("count" : String) : Str)) := by
  have H : f_law_powers [.int 18, d] = .err 2 := by
    refine runF_errOf ?_
    simp [b_law_powers, b_law_powers_1, b_law_powers_2, b_law_powers_3, b_law_powers_4, b_law_powers_5, b_law_powers_6, b_law_powers_7, args, ec18 c]
  have H : f_law_counted [.int 18, d] = .err 2 := by
    refine runF_errOf ?_
    simp [b_law_counted, b_law_counted_1, b_law_counted_2, b_law_counted_3, b_law_counted_4, b_law_counted_5, b_law_counted_6, b_law_counted_7, b_law_counted_8, b_law_counted_9, b_law_counted_10, b_law_counted_11, b_law_counted_12, args, H]
  exact ask_er1 H (by decide)
theorem bc19 {d : D} (c : f_check_count [d, .int 0, .int 1000000000] = .err 2) : f_law_asked [.int 1, .int 19, d] = .ok (.str (("count" : String) : Str)) := by
  have H : f_law_powers [.int 19, d] = .err 2 := by
    refine runF_errOf ?_
    simp [b_law_powers, b_law_powers_1, b_law_powers_2, b_law_powers_3, b_law_powers_4, b_law_powers_5, b_law_powers_6, b_law_powers_7, args, ec19 c]
  have H : f_law_counted [.int 19, d] = .err 2 := by
    refine runF_errOf ?_
    simp [b_law_counted, b_law_counted_1, b_law_counted_2, b_law_counted_3, b_law_counted_4, b_law_counted_5, b_law_counted_6, b_law_counted_7, b_law_counted_8, b_law_counted_9, b_law_counted_10, b_law_counted_11, b_law_counted_12, args, H]
  exact ask_er1 H (by decide)
theorem bs0 {d : D} (c : f_check_base [d] = .err 0) : f_law_asked [.int 2, .int 0, d] = .ok (.str (("number" : String) : Str)) := by
  have H : f_law_based [.int 0, d] = .err 0 := by
    refine runF_errOf ?_
    simp [b_law_based, b_law_based_1, b_law_based_2, b_law_based_3, b_law_based_4, b_law_based_5, b_law_based_6, b_law_based_7, b_law_based_8, b_law_based_9, args, es0 c, ng1, nm1.1, nm1.2]
  exact ask_er2 H (by decide)
theorem bo0 {d : D} (c : f_check_base [d] = .ok .none) : f_law_asked [.int 2, .int 0, d] = .ok (.str (("beginning" : String) : Str)) := by
  have H : f_law_based [.int 0, d] = .err 1 := by
    refine runF_errOf ?_
    simp [b_law_based, b_law_based_1, b_law_based_2, b_law_based_3, b_law_based_4, b_law_based_5, b_law_based_6, b_law_based_7, b_law_based_8, b_law_based_9, args, eo0 c]
  exact ask_er2 H (by decide)
theorem bs1 {d : D} (c : f_check_base [d] = .err 0) : f_law_asked [.int 2, .int 1, d] = .ok (.str (("number" : String) : Str)) := by
  have H : f_law_based [.int 1, d] = .err 0 := by
    refine runF_errOf ?_
    simp [b_law_based, b_law_based_1, b_law_based_2, b_law_based_3, b_law_based_4, b_law_based_5, b_law_based_6, b_law_based_7, b_law_based_8, b_law_based_9, args, es1 c, ng1, nm1.1, nm1.2]
  exact ask_er2 H (by decide)
theorem bo1 {d : D} (c : f_check_base [d] = .ok .none) : f_law_asked [.int 2, .int 1, d] = .ok (.str (("beginning" : String) : Str)) := by
  have H : f_law_based [.int 1, d] = .err 1 := by
    refine runF_errOf ?_
    simp [b_law_based, b_law_based_1, b_law_based_2, b_law_based_3, b_law_based_4, b_law_based_5, b_law_based_6, b_law_based_7, b_law_based_8, b_law_based_9, args, eo1 c]
  exact ask_er2 H (by decide)
theorem bs2 {d : D} (c : f_check_base [d] = .err 0) : f_law_asked [.int 2, .int 2, d] = .ok (.str (("number" : String) : Str)) := by
  have H : f_law_based [.int 2, d] = .err 0 := by
    refine runF_errOf ?_
    simp [b_law_based, b_law_based_1, b_law_based_2, b_law_based_3, b_law_based_4, b_law_based_5, b_law_based_6, b_law_based_7, b_law_based_8, b_law_based_9, args, es2 c, ng1, nm1.1, nm1.2]
  exact ask_er2 H (by decide)
theorem bo2 {d : D} (c : f_check_base [d] = .ok .none) : f_law_asked [.int 2, .int 2, d] = .ok (.str (("beginning" : String) : Str)) := by
  have H : f_law_based [.int 2, d] = .err 1 := by
    refine runF_errOf ?_
    simp [b_law_based, b_law_based_1, b_law_based_2, b_law_based_3, b_law_based_4, b_law_based_5, b_law_based_6, b_law_based_7, b_law_based_8, b_law_based_9, args, eo2 c]
  exact ask_er2 H (by decide)
theorem bs3 {d : D} (c : f_check_base [d] = .err 0) : f_law_asked [.int 2, .int 3, d] = .ok (.str (("number" : String) : Str)) := by
  have H : f_law_based [.int 3, d] = .err 0 := by
    refine runF_errOf ?_
    simp [b_law_based, b_law_based_1, b_law_based_2, b_law_based_3, b_law_based_4, b_law_based_5, b_law_based_6, b_law_based_7, b_law_based_8, b_law_based_9, args, es3 c, ng1, nm1.1, nm1.2]
  exact ask_er2 H (by decide)
theorem bo3 {d : D} (c : f_check_base [d] = .ok .none) : f_law_asked [.int 2, .int 3, d] = .ok (.str (("beginning" : String) : Str)) := by
  have H : f_law_based [.int 3, d] = .err 1 := by
    refine runF_errOf ?_
    simp [b_law_based, b_law_based_1, b_law_based_2, b_law_based_3, b_law_based_4, b_law_based_5, b_law_based_6, b_law_based_7, b_law_based_8, b_law_based_9, args, eo3 c]
  exact ask_er2 H (by decide)
theorem bs4 {d : D} (c : f_check_base [d] = .err 0) : f_law_asked [.int 2, .int 4, d] = .ok (.str (("number" : String) : Str)) := by
  have H : f_law_based [.int 4, d] = .err 0 := by
    refine runF_errOf ?_
    simp [b_law_based, b_law_based_1, b_law_based_2, b_law_based_3, b_law_based_4, b_law_based_5, b_law_based_6, b_law_based_7, b_law_based_8, b_law_based_9, args, es4 c, ng1, nm1.1, nm1.2]
  exact ask_er2 H (by decide)
theorem bo4 {d : D} (c : f_check_base [d] = .ok .none) : f_law_asked [.int 2, .int 4, d] = .ok (.str (("count" : String) : Str)) := by
  have H : f_law_based [.int 4, d] = .err 2 := by
    refine runF_errOf ?_
    simp [b_law_based, b_law_based_1, b_law_based_2, b_law_based_3, b_law_based_4, b_law_based_5, b_law_based_6, b_law_based_7, b_law_based_8, b_law_based_9, args, eo4 c]
  exact ask_er2 H (by decide)
theorem bs5 {d : D} (c : f_check_base [d] = .err 0) : f_law_asked [.int 2, .int 5, d] = .ok (.str (("number" : String) : Str)) := by
  have H : f_law_based [.int 5, d] = .err 0 := by
    refine runF_errOf ?_
    simp [b_law_based, b_law_based_1, b_law_based_2, b_law_based_3, b_law_based_4, b_law_based_5, b_law_based_6, b_law_based_7, b_law_based_8, b_law_based_9, args, es5 c, ng1, nm1.1, nm1.2]
  exact ask_er2 H (by decide)
theorem bo5 {d : D} (c : f_check_base [d] = .ok .none) : f_law_asked [.int 2, .int 5, d] = .ok (.str (("count" : String) : Str)) := by
  have H : f_law_based [.int 5, d] = .err 2 := by
    refine runF_errOf ?_
    simp [b_law_based, b_law_based_1, b_law_based_2, b_law_based_3, b_law_based_4, b_law_based_5, b_law_based_6, b_law_based_7, b_law_based_8, b_law_based_9, args, eo5 c]
  exact ask_er2 H (by decide)
theorem bs6 {d : D} (c : f_check_base [d] = .err 0) : f_law_asked [.int 2, .int 6, d] = .ok (.str (("number" : String) : Str)) := by
  have H : f_law_based [.int 6, d] = .err 0 := by
    refine runF_errOf ?_
    simp [b_law_based, b_law_based_1, b_law_based_2, b_law_based_3, b_law_based_4, b_law_based_5, b_law_based_6, b_law_based_7, b_law_based_8, b_law_based_9, args, es6 c, ng1, nm1.1, nm1.2]
  exact ask_er2 H (by decide)
theorem bo6 {d : D} (c : f_check_base [d] = .ok .none) : f_law_asked [.int 2, .int 6, d] = .ok (.str (("count" : String) : Str)) := by
  have H : f_law_based [.int 6, d] = .err 2 := by
    refine runF_errOf ?_
    simp [b_law_based, b_law_based_1, b_law_based_2, b_law_based_3, b_law_based_4, b_law_based_5, b_law_based_6, b_law_based_7, b_law_based_8, b_law_based_9, args, eo6 c]
  exact ask_er2 H (by decide)
theorem bs7 {d : D} (c : f_check_base [d] = .err 0) : f_law_asked [.int 2, .int 7, d] = .ok (.str (("number" : String) : Str)) := by
  have H : f_law_based [.int 7, d] = .err 0 := by
    refine runF_errOf ?_
    simp [b_law_based, b_law_based_1, b_law_based_2, b_law_based_3, b_law_based_4, b_law_based_5, b_law_based_6, b_law_based_7, b_law_based_8, b_law_based_9, args, es7 c, ng1, nm1.1, nm1.2]
  exact ask_er2 H (by decide)
theorem bs8 {d : D} (c : f_check_step [d] = .err 0) : f_law_asked [.int 2, .int 8, d] = .ok (.str (("number" : String) : Str)) := by
  have H : f_law_based [.int 8, d] = .err 0 := by
    refine runF_errOf ?_
    simp [b_law_based, b_law_based_1, b_law_based_2, b_law_based_3, b_law_based_4, b_law_based_5, b_law_based_6, b_law_based_7, b_law_based_8, b_law_based_9, args, es8 c, ng1, nm1.1, nm1.2]
  exact ask_er2 H (by decide)
theorem bo8 {d : D} (c : f_check_step [d] = .ok .none) : f_law_asked [.int 2, .int 8, d] = .ok (.str (("beginning" : String) : Str)) := by
  have H : f_law_based [.int 8, d] = .err 1 := by
    refine runF_errOf ?_
    simp [b_law_based, b_law_based_1, b_law_based_2, b_law_based_3, b_law_based_4, b_law_based_5, b_law_based_6, b_law_based_7, b_law_based_8, b_law_based_9, args, eo8 c]
  exact ask_er2 H (by decide)
theorem bs9 {d : D} (c : f_check_step [d] = .err 0) : f_law_asked [.int 2, .int 9, d] = .ok (.str (("number" : String) : Str)) := by
  have H : f_law_based [.int 9, d] = .err 0 := by
    refine runF_errOf ?_
    simp [b_law_based, b_law_based_1, b_law_based_2, b_law_based_3, b_law_based_4, b_law_based_5, b_law_based_6, b_law_based_7, b_law_based_8, b_law_based_9, args, es9 c, ng1, nm1.1, nm1.2]
  exact ask_er2 H (by decide)
theorem bo9 {d : D} (c : f_check_step [d] = .ok .none) : f_law_asked [.int 2, .int 9, d] = .ok (.str (("beginning" : String) : Str)) := by
  have H : f_law_based [.int 9, d] = .err 1 := by
    refine runF_errOf ?_
    simp [b_law_based, b_law_based_1, b_law_based_2, b_law_based_3, b_law_based_4, b_law_based_5, b_law_based_6, b_law_based_7, b_law_based_8, b_law_based_9, args, eo9 c]
  exact ask_er2 H (by decide)
theorem bs10 {d : D} (c : f_check_step [d] = .err 0) : f_law_asked [.int 2, .int 10, d] = .ok (.str (("number" : String) : Str)) := by
  have H : f_law_based [.int 10, d] = .err 0 := by
    refine runF_errOf ?_
    simp [b_law_based, b_law_based_1, b_law_based_2, b_law_based_3, b_law_based_4, b_law_based_5, b_law_based_6, b_law_based_7, b_law_based_8, b_law_based_9, args, es10 c, ng1, nm1.1, nm1.2]
  exact ask_er2 H (by decide)
theorem bo10 {d : D} (c : f_check_step [d] = .ok .none) : f_law_asked [.int 2, .int 10, d] = .ok (.str (("beginning" : String) : Str)) := by
  have H : f_law_based [.int 10, d] = .err 1 := by
    refine runF_errOf ?_
    simp [b_law_based, b_law_based_1, b_law_based_2, b_law_based_3, b_law_based_4, b_law_based_5, b_law_based_6, b_law_based_7, b_law_based_8, b_law_based_9, args, eo10 c]
  exact ask_er2 H (by decide)
theorem bo7 {v : Int} (h : 2 ≤ v) (h' : v ≤ 99) : f_law_asked [.int 2, .int 7, .int v] = .ok (.str (("done" : String) : Str)) := by
  have M := r_multiply (l := []) (p := []) (v := 1) (c := v) (by decide) (by decide) ⟨by decide, by decide⟩
  rw [if_pos ⟨h, h'⟩, if_pos ⟨by omega, Int.lt_of_le_of_lt (show 1 * v ≤ 99 by omega) (by decide)⟩] at M
  have H : f_law_based [.int 7, .int v] = .ok (.int (1 * v)) := by
    refine runF_of ?_
    simp only [List.nil_append] at M
    simp [b_law_based, b_law_based_1, b_law_based_2, b_law_based_3, b_law_based_4, b_law_based_5, b_law_based_6, b_law_based_7, b_law_based_8, b_law_based_9, args, ng1, nm1.1, nm1.2, M]
  exact ask_ok2 H
theorem bd0 {c : Int} (h0 : 1 ≤ c) (h1 : c ≤ 4) : f_law_asked [.int 1, .int 0, .int c] = .ok (.str (("done" : String) : Str)) := by
  have B1 : isB 1 := ⟨by decide, by decide⟩
  have B2 : isB 2 := ⟨by decide, by decide⟩
  have b2 : isBase 2 := ⟨by decide, by decide⟩
  have S := s_first_digits (v := 12345) (k := c) ⟨by decide, by decide⟩ h0 h1
  have H : ∃ x, f_law_counted [.int 0, .int c] = .ok x := by
    suffices h : IsRtP (fun _ => True) (b_law_counted.ev (args [.int 0, .int c] 2)) from (runF_ofP h).imp fun _ h => h.1
    simp [b_law_counted, b_law_counted_1, b_law_counted_2, b_law_counted_3, b_law_counted_4, b_law_counted_5, b_law_counted_6, b_law_counted_7, b_law_counted_8, b_law_counted_9, b_law_counted_10, b_law_counted_11, b_law_counted_12, args, S, hn, nm5.1, nm5.2]
  obtain ⟨x, H⟩ := H
  exact ask_ok1 H
theorem bd1 {c : Int} (h0 : 1 ≤ c) (h1 : c ≤ 4) : f_law_asked [.int 1, .int 1, .int c] = .ok (.str (("done" : String) : Str)) := by
  have B1 : isB 1 := ⟨by decide, by decide⟩
  have B2 : isB 2 := ⟨by decide, by decide⟩
  have b2 : isBase 2 := ⟨by decide, by decide⟩
  have S := s_longer (b := 1) (k := c) B1 h0 h1
  have H : ∃ x, f_law_counted [.int 1, .int c] = .ok x := by
    suffices h : IsRtP (fun _ => True) (b_law_counted.ev (args [.int 1, .int c] 2)) from (runF_ofP h).imp fun _ h => h.1
    simp [b_law_counted, b_law_counted_1, b_law_counted_2, b_law_counted_3, b_law_counted_4, b_law_counted_5, b_law_counted_6, b_law_counted_7, b_law_counted_8, b_law_counted_9, b_law_counted_10, b_law_counted_11, b_law_counted_12, args, S, hn, nm5.1, nm5.2]
  obtain ⟨x, H⟩ := H
  exact ask_ok1 H
theorem bd2 {c : Int} (h0 : 1 ≤ c) (h1 : c ≤ 4) : f_law_asked [.int 1, .int 2, .int c] = .ok (.str (("done" : String) : Str)) := by
  have B1 : isB 1 := ⟨by decide, by decide⟩
  have B2 : isB 2 := ⟨by decide, by decide⟩
  have b2 : isBase 2 := ⟨by decide, by decide⟩
  have S := r_first_digits (l := []) (v := 12345) (p := []) (k := c) ⟨by decide, by decide⟩ h0 h1
  simp only [List.nil_append] at S
  have H : ∃ x, f_law_counted [.int 2, .int c] = .ok x := by
    suffices h : IsRtP (fun _ => True) (b_law_counted.ev (args [.int 2, .int c] 2)) from (runF_ofP h).imp fun _ h => h.1
    simp [b_law_counted, b_law_counted_1, b_law_counted_2, b_law_counted_3, b_law_counted_4, b_law_counted_5, b_law_counted_6, b_law_counted_7, b_law_counted_8, b_law_counted_9, b_law_counted_10, b_law_counted_11, b_law_counted_12, args, S, hn, nm5.1, nm5.2]
  obtain ⟨x, H⟩ := H
  exact ask_ok1 H
theorem bd3 {c : Int} (h0 : 1 ≤ c) (h1 : c ≤ 3) : f_law_asked [.int 1, .int 3, .int c] = .ok (.str (("done" : String) : Str)) := by
  have B1 : isB 1 := ⟨by decide, by decide⟩
  have B2 : isB 2 := ⟨by decide, by decide⟩
  have b2 : isBase 2 := ⟨by decide, by decide⟩
  have S := s_products (k := c) B1 B2 h0 h1
  have H : ∃ x, f_law_counted [.int 3, .int c] = .ok x := by
    suffices h : IsRtP (fun _ => True) (b_law_counted.ev (args [.int 3, .int c] 2)) from (runF_ofP h).imp fun _ h => h.1
    simp [b_law_counted, b_law_counted_1, b_law_counted_2, b_law_counted_3, b_law_counted_4, b_law_counted_5, b_law_counted_6, b_law_counted_7, b_law_counted_8, b_law_counted_9, b_law_counted_10, b_law_counted_11, b_law_counted_12, args, S, hn, nm5.1, nm5.2]
  obtain ⟨x, H⟩ := H
  exact ask_ok1 H
theorem bd4 {c : Int} (h0 : 1 ≤ c) (h1 : c ≤ 3) : f_law_asked [.int 1, .int 4, .int c] = .ok (.str (("done" : String) : Str)) := by
  have B1 : isB 1 := ⟨by decide, by decide⟩
  have B2 : isB 2 := ⟨by decide, by decide⟩
  have b2 : isBase 2 := ⟨by decide, by decide⟩
  have S := s_quotients (k := c) B1 B2 h0 h1
  have H : ∃ x, f_law_counted [.int 4, .int c] = .ok x := by
    suffices h : IsRtP (fun _ => True) (b_law_counted.ev (args [.int 4, .int c] 2)) from (runF_ofP h).imp fun _ h => h.1
    simp [b_law_counted, b_law_counted_1, b_law_counted_2, b_law_counted_3, b_law_counted_4, b_law_counted_5, b_law_counted_6, b_law_counted_7, b_law_counted_8, b_law_counted_9, b_law_counted_10, b_law_counted_11, b_law_counted_12, args, S, hn, nm5.1, nm5.2]
  obtain ⟨x, H⟩ := H
  exact ask_ok1 H
theorem bd5 {c : Int} (h0 : 1 ≤ c) (h1 : c ≤ 3) : f_law_asked [.int 1, .int 5, .int c] = .ok (.str (("done" : String) : Str)) := by
  have B1 : isB 1 := ⟨by decide, by decide⟩
  have B2 : isB 2 := ⟨by decide, by decide⟩
  have b2 : isBase 2 := ⟨by decide, by decide⟩
  have S := s_sums (k := c) B1 B2 h0 h1
  have H : ∃ x, f_law_counted [.int 5, .int c] = .ok x := by
    suffices h : IsRtP (fun _ => True) (b_law_counted.ev (args [.int 5, .int c] 2)) from (runF_ofP h).imp fun _ h => h.1
    simp [b_law_counted, b_law_counted_1, b_law_counted_2, b_law_counted_3, b_law_counted_4, b_law_counted_5, b_law_counted_6, b_law_counted_7, b_law_counted_8, b_law_counted_9, b_law_counted_10, b_law_counted_11, b_law_counted_12, args, S, hn, nm5.1, nm5.2]
  obtain ⟨x, H⟩ := H
  exact ask_ok1 H
theorem bd6 {c : Int} (h0 : 1 ≤ c) (h1 : c ≤ 3) : f_law_asked [.int 1, .int 6, .int c] = .ok (.str (("done" : String) : Str)) := by
  have B1 : isB 1 := ⟨by decide, by decide⟩
  have B2 : isB 2 := ⟨by decide, by decide⟩
  have b2 : isBase 2 := ⟨by decide, by decide⟩
  have S := s_squares (k := c) B1 h0 h1
  have H : ∃ x, f_law_counted [.int 6, .int c] = .ok x := by
    suffices h : IsRtP (fun _ => True) (b_law_counted.ev (args [.int 6, .int c] 2)) from (runF_ofP h).imp fun _ h => h.1
    simp [b_law_counted, b_law_counted_1, b_law_counted_2, b_law_counted_3, b_law_counted_4, b_law_counted_5, b_law_counted_6, b_law_counted_7, b_law_counted_8, b_law_counted_9, b_law_counted_10, b_law_counted_11, b_law_counted_12, args, S, hn, nm5.1, nm5.2]
  obtain ⟨x, H⟩ := H
  exact ask_ok1 H
theorem bd7 {c : Int} (h0 : 1 ≤ c) (h1 : c ≤ 3) : f_law_asked [.int 1, .int 7, .int c] = .ok (.str (("done" : String) : Str)) := by
  have B1 : isB 1 := ⟨by decide, by decide⟩
  have B2 : isB 2 := ⟨by decide, by decide⟩
  have b2 : isBase 2 := ⟨by decide, by decide⟩
  have S := s_roots (k := c) B1 h0 h1
  have H : ∃ x, f_law_counted [.int 7, .int c] = .ok x := by
    suffices h : IsRtP (fun _ => True) (b_law_counted.ev (args [.int 7, .int c] 2)) from (runF_ofP h).imp fun _ h => h.1
    simp [b_law_counted, b_law_counted_1, b_law_counted_2, b_law_counted_3, b_law_counted_4, b_law_counted_5, b_law_counted_6, b_law_counted_7, b_law_counted_8, b_law_counted_9, b_law_counted_10, b_law_counted_11, b_law_counted_12, args, S, hn, nm5.1, nm5.2]
  obtain ⟨x, H⟩ := H
  exact ask_ok1 H
theorem bd8 {c : Int} (h0 : 1 ≤ c) (h1 : c ≤ 3) : f_law_asked [.int 1, .int 8, .int c] = .ok (.str (("done" : String) : Str)) := by
  have B1 : isB 1 := ⟨by decide, by decide⟩
  have B2 : isB 2 := ⟨by decide, by decide⟩
  have b2 : isBase 2 := ⟨by decide, by decide⟩
  have S := s_never (b := 2) (k := c) (m := 5) ⟨by decide, by decide⟩ h0 h1 (by decide) (by decide)
  have H : ∃ x, f_law_counted [.int 8, .int c] = .ok x := by
    suffices h : IsRtP (fun _ => True) (b_law_counted.ev (args [.int 8, .int c] 2)) from (runF_ofP h).imp fun _ h => h.1
    simp [b_law_counted, b_law_counted_1, b_law_counted_2, b_law_counted_3, b_law_counted_4, b_law_counted_5, b_law_counted_6, b_law_counted_7, b_law_counted_8, b_law_counted_9, b_law_counted_10, b_law_counted_11, b_law_counted_12, args, S, hn, nm5.1, nm5.2]
  obtain ⟨x, H⟩ := H
  exact ask_ok1 H
theorem bd9 {c : Int} (h0 : 1 ≤ c) (h1 : c ≤ 60) : f_law_asked [.int 1, .int 9, .int c] = .ok (.str (("done" : String) : Str)) := by
  have B1 : isB 1 := ⟨by decide, by decide⟩
  have B2 : isB 2 := ⟨by decide, by decide⟩
  have b2 : isBase 2 := ⟨by decide, by decide⟩
  have S := s_stretch (b := 1) (c := c) B1 h0 h1
  rw [show sz 1 = 1 by decide +kernel, if_pos h0] at S
  have H : ∃ x, f_law_counted [.int 9, .int c] = .ok x := by
    suffices h : IsRtP (fun _ => True) (b_law_counted.ev (args [.int 9, .int c] 2)) from (runF_ofP h).imp fun _ h => h.1
    simp [b_law_counted, b_law_counted_1, b_law_counted_2, b_law_counted_3, b_law_counted_4, b_law_counted_5, b_law_counted_6, b_law_counted_7, b_law_counted_8, b_law_counted_9, b_law_counted_10, b_law_counted_11, b_law_counted_12, args, S, hn, nm5.1, nm5.2]
  obtain ⟨x, H⟩ := H
  exact ask_ok1 H
theorem bd10 {c : Int} (h0 : 1 ≤ c) (h1 : c ≤ 60) : f_law_asked [.int 1, .int 10, .int c] = .ok (.str (("done" : String) : Str)) := by
  have B1 : isB 1 := ⟨by decide, by decide⟩
  have B2 : isB 2 := ⟨by decide, by decide⟩
  have b2 : isBase 2 := ⟨by decide, by decide⟩
  have S := s_count_multiples (n := 7) (b := 1) (c := c) ⟨by decide, by decide⟩ B1 h0 h1
  have H : ∃ x, f_law_counted [.int 10, .int c] = .ok x := by
    suffices h : IsRtP (fun _ => True) (b_law_counted.ev (args [.int 10, .int c] 2)) from (runF_ofP h).imp fun _ h => h.1
    simp [b_law_counted, b_law_counted_1, b_law_counted_2, b_law_counted_3, b_law_counted_4, b_law_counted_5, b_law_counted_6, b_law_counted_7, b_law_counted_8, b_law_counted_9, b_law_counted_10, b_law_counted_11, b_law_counted_12, args, S, hn, nm5.1, nm5.2]
  obtain ⟨x, H⟩ := H
  exact ask_ok1 H
theorem bd11 {c : Int} (h0 : c = 1 ∨ c = 60) : f_law_asked [.int 1, .int 11, .int c] = .ok (.str (("done" : String) : Str)) := by
  have B1 : isB 1 := ⟨by decide, by decide⟩
  have z1 : sz 1 = 1 := by decide +kernel
  have S : ∃ x, f_roots_with [.int 1, .int c] = .ok x := by
    obtain ⟨r1, q1⟩ := Rt_ex (sA_pos (b := 1) (c := c) (by decide))
    have hle := sA_le (b := 1) (c := c)
    obtain ⟨r2, q2⟩ := Rt_ex (n := sE 1 c + 1) (by have := sA_pos (b := 1) (c := c) (by decide); omega)
    have R := s_roots_with B1 (show sz 1 ≤ c by omega) (by omega) q1 q2
    have le : r1 * r1 ≤ sE 1 c := by
      rcases h0 with rfl | rfl
      · have e : sA 1 1 = 1 := by decide +kernel
        have : r1 = 1 := by
          rw [e] at q1
          have := (Rt_le q1 (show (0 : Int) ≤ 1 by decide)).mpr (by decide)
          have := q1.1
          omega
        subst this
        decide +kernel
      · exact sq_there (by decide) (by rw [z1]; decide) q1
    have lt := (Rt_lt q2 (by have := q1.1; omega)).mpr (show r1 * r1 < sE 1 c + 1 by omega)
    rw [if_pos (show r1 ≤ r2 - 1 by omega)] at R
    exact ⟨_, R⟩
  obtain ⟨x, S⟩ := S
  have H : f_law_counted [.int 11, .int c] = .ok x := by
    refine runF_of ?_
    simp [b_law_counted, b_law_counted_1, b_law_counted_2, b_law_counted_3, b_law_counted_4, b_law_counted_5, b_law_counted_6, b_law_counted_7, b_law_counted_8, b_law_counted_9, b_law_counted_10, b_law_counted_11, b_law_counted_12, args, S]
  exact ask_ok1 H
theorem bd12 {c : Int} (h0 : 0 ≤ c) (h1 : c ≤ 300) : f_law_asked [.int 1, .int 12, .int c] = .ok (.str (("done" : String) : Str)) := by
  have B1 : isB 1 := ⟨by decide, by decide⟩
  have B2 : isB 2 := ⟨by decide, by decide⟩
  have b2 : isBase 2 := ⟨by decide, by decide⟩
  have S := s_powplaces (b := 2) (g := 1) (m := c) b2 B1 h0 h1
  have H : ∃ x, f_law_powers [.int 12, .int c] = .ok x := by
    suffices h : IsRtP (fun _ => True) (b_law_powers.ev (args [.int 12, .int c] 2)) from (runF_ofP h).imp fun _ h => h.1
    simp [b_law_powers, b_law_powers_1, b_law_powers_2, b_law_powers_3, b_law_powers_4, b_law_powers_5, b_law_powers_6, b_law_powers_7, args, S, hn, nm5.1, nm5.2]
  obtain ⟨x, H⟩ := H
  have H : f_law_counted [.int 12, .int c] = .ok x := by
    refine runF_of ?_
    simp [b_law_counted, b_law_counted_1, b_law_counted_2, b_law_counted_3, b_law_counted_4, b_law_counted_5, b_law_counted_6, b_law_counted_7, b_law_counted_8, b_law_counted_9, b_law_counted_10, b_law_counted_11, b_law_counted_12, args, H]
  exact ask_ok1 H
theorem bd13 {c : Int} (h0 : 0 ≤ c) (h1 : c ≤ 300) : f_law_asked [.int 1, .int 13, .int c] = .ok (.str (("done" : String) : Str)) := by
  have B1 : isB 1 := ⟨by decide, by decide⟩
  have B2 : isB 2 := ⟨by decide, by decide⟩
  have b2 : isBase 2 := ⟨by decide, by decide⟩
  have S := s_first_power (b := 2) (g := 1) (m := c) b2 B1 h0 h1
  have H : ∃ x, f_law_powers [.int 13, .int c] = .ok x := by
    suffices h : IsRtP (fun _ => True) (b_law_powers.ev (args [.int 13, .int c] 2)) from (runF_ofP h).imp fun _ h => h.1
    simp [b_law_powers, b_law_powers_1, b_law_powers_2, b_law_powers_3, b_law_powers_4, b_law_powers_5, b_law_powers_6, b_law_powers_7, args, S, hn, nm5.1, nm5.2]
  obtain ⟨x, H⟩ := H
  have H : f_law_counted [.int 13, .int c] = .ok x := by
    refine runF_of ?_
    simp [b_law_counted, b_law_counted_1, b_law_counted_2, b_law_counted_3, b_law_counted_4, b_law_counted_5, b_law_counted_6, b_law_counted_7, b_law_counted_8, b_law_counted_9, b_law_counted_10, b_law_counted_11, b_law_counted_12, args, H]
  exact ask_ok1 H
theorem bd14 {c : Int} (h0 : 0 ≤ c) (h1 : c ≤ 300) : f_law_asked [.int 1, .int 14, .int c] = .ok (.str (("done" : String) : Str)) := by
  have B1 : isB 1 := ⟨by decide, by decide⟩
  have B2 : isB 2 := ⟨by decide, by decide⟩
  have b2 : isBase 2 := ⟨by decide, by decide⟩
  have S := s_waits (b := 2) (g := 1) (m := c) b2 B1 h0 h1
  have H : ∃ x, f_law_powers [.int 14, .int c] = .ok x := by
    suffices h : IsRtP (fun _ => True) (b_law_powers.ev (args [.int 14, .int c] 2)) from (runF_ofP h).imp fun _ h => h.1
    simp [b_law_powers, b_law_powers_1, b_law_powers_2, b_law_powers_3, b_law_powers_4, b_law_powers_5, b_law_powers_6, b_law_powers_7, args, S, hn, nm5.1, nm5.2]
  obtain ⟨x, H⟩ := H
  have H : f_law_counted [.int 14, .int c] = .ok x := by
    refine runF_of ?_
    simp [b_law_counted, b_law_counted_1, b_law_counted_2, b_law_counted_3, b_law_counted_4, b_law_counted_5, b_law_counted_6, b_law_counted_7, b_law_counted_8, b_law_counted_9, b_law_counted_10, b_law_counted_11, b_law_counted_12, args, H]
  exact ask_ok1 H
theorem bd15 {c : Int} (h0 : 0 ≤ c) (h1 : c ≤ 300) : f_law_asked [.int 1, .int 15, .int c] = .ok (.str (("done" : String) : Str)) := by
  have B1 : isB 1 := ⟨by decide, by decide⟩
  have B2 : isB 2 := ⟨by decide, by decide⟩
  have b2 : isBase 2 := ⟨by decide, by decide⟩
  have S := s_digit_table (b := 2) (m := c) b2 h0 h1
  have H : ∃ x, f_law_powers [.int 15, .int c] = .ok x := by
    suffices h : IsRtP (fun _ => True) (b_law_powers.ev (args [.int 15, .int c] 2)) from (runF_ofP h).imp fun _ h => h.1
    simp [b_law_powers, b_law_powers_1, b_law_powers_2, b_law_powers_3, b_law_powers_4, b_law_powers_5, b_law_powers_6, b_law_powers_7, args, S, hn, nm5.1, nm5.2]
  obtain ⟨x, H⟩ := H
  have H : f_law_counted [.int 15, .int c] = .ok x := by
    refine runF_of ?_
    simp [b_law_counted, b_law_counted_1, b_law_counted_2, b_law_counted_3, b_law_counted_4, b_law_counted_5, b_law_counted_6, b_law_counted_7, b_law_counted_8, b_law_counted_9, b_law_counted_10, b_law_counted_11, b_law_counted_12, args, H]
  exact ask_ok1 H
theorem bd16 {c : Int} (h0 : 0 ≤ c) (h1 : c ≤ 300) : f_law_asked [.int 1, .int 16, .int c] = .ok (.str (("done" : String) : Str)) := by
  have B1 : isB 1 := ⟨by decide, by decide⟩
  have B2 : isB 2 := ⟨by decide, by decide⟩
  have b2 : isBase 2 := ⟨by decide, by decide⟩
  have S := s_never (b := 2) (k := 1) (m := c) b2 (by decide) (by decide) h0 h1
  have H : ∃ x, f_law_powers [.int 16, .int c] = .ok x := by
    suffices h : IsRtP (fun _ => True) (b_law_powers.ev (args [.int 16, .int c] 2)) from (runF_ofP h).imp fun _ h => h.1
    simp [b_law_powers, b_law_powers_1, b_law_powers_2, b_law_powers_3, b_law_powers_4, b_law_powers_5, b_law_powers_6, b_law_powers_7, args, S, hn, nm5.1, nm5.2]
  obtain ⟨x, H⟩ := H
  have H : f_law_counted [.int 16, .int c] = .ok x := by
    refine runF_of ?_
    simp [b_law_counted, b_law_counted_1, b_law_counted_2, b_law_counted_3, b_law_counted_4, b_law_counted_5, b_law_counted_6, b_law_counted_7, b_law_counted_8, b_law_counted_9, b_law_counted_10, b_law_counted_11, b_law_counted_12, args, H]
  exact ask_ok1 H
theorem bd17 {c : Int} (h0 : 1 ≤ c) (h1 : c ≤ 600) : f_law_asked [.int 1, .int 17, .int c] = .ok (.str (("done" : String) : Str)) := by
  have B1 : isB 1 := ⟨by decide, by decide⟩
  have B2 : isB 2 := ⟨by decide, by decide⟩
  have b2 : isBase 2 := ⟨by decide, by decide⟩
  have S := s_powers_with (b := 2) (c := c) b2 h0 h1
  have H : ∃ x, f_law_powers [.int 17, .int c] = .ok x := by
    suffices h : IsRtP (fun _ => True) (b_law_powers.ev (args [.int 17, .int c] 2)) from (runF_ofP h).imp fun _ h => h.1
    simp [b_law_powers, b_law_powers_1, b_law_powers_2, b_law_powers_3, b_law_powers_4, b_law_powers_5, b_law_powers_6, b_law_powers_7, args, S, hn, nm5.1, nm5.2]
  obtain ⟨x, H⟩ := H
  have H : f_law_counted [.int 17, .int c] = .ok x := by
    refine runF_of ?_
    simp [b_law_counted, b_law_counted_1, b_law_counted_2, b_law_counted_3, b_law_counted_4, b_law_counted_5, b_law_counted_6, b_law_counted_7, b_law_counted_8, b_law_counted_9, b_law_counted_10, b_law_counted_11, b_law_counted_12, args, H]
  exact ask_ok1 H
theorem bd18 {c : Int} (h0 : 1 ≤ c) (h1 : c ≤ 1000) : f_law_asked [.int 1, .int 18, .int c] = .ok (.str (("done" : String) : Str)) := by
  have B1 : isB 1 := ⟨by decide, by decide⟩
  have B2 : isB 2 := ⟨by decide, by decide⟩
  have b2 : isBase 2 := ⟨by decide, by decide⟩
  have S := s_multiple_places (n := 7) (b := 1) (k := c) ⟨by decide, by decide⟩ B1 h0 h1
  have H : ∃ x, f_law_powers [.int 18, .int c] = .ok x := by
    suffices h : IsRtP (fun _ => True) (b_law_powers.ev (args [.int 18, .int c] 2)) from (runF_ofP h).imp fun _ h => h.1
    simp [b_law_powers, b_law_powers_1, b_law_powers_2, b_law_powers_3, b_law_powers_4, b_law_powers_5, b_law_powers_6, b_law_powers_7, args, S, hn, nm5.1, nm5.2]
  obtain ⟨x, H⟩ := H
  have H : f_law_counted [.int 18, .int c] = .ok x := by
    refine runF_of ?_
    simp [b_law_counted, b_law_counted_1, b_law_counted_2, b_law_counted_3, b_law_counted_4, b_law_counted_5, b_law_counted_6, b_law_counted_7, b_law_counted_8, b_law_counted_9, b_law_counted_10, b_law_counted_11, b_law_counted_12, args, H]
  exact ask_ok1 H
theorem bd19 {c : Int} (h0 : 0 ≤ c) (h1 : c ≤ 1000000000) : f_law_asked [.int 1, .int 19, .int c] = .ok (.str (("done" : String) : Str)) := by
  have B1 : isB 1 := ⟨by decide, by decide⟩
  have B2 : isB 2 := ⟨by decide, by decide⟩
  have b2 : isBase 2 := ⟨by decide, by decide⟩
  obtain ⟨m, S, _⟩ := g_number_at (b := 1) (r := c) B1 h0 h1
  have H : ∃ x, f_law_powers [.int 19, .int c] = .ok x := by
    suffices h : IsRtP (fun _ => True) (b_law_powers.ev (args [.int 19, .int c] 2)) from (runF_ofP h).imp fun _ h => h.1
    simp [b_law_powers, b_law_powers_1, b_law_powers_2, b_law_powers_3, b_law_powers_4, b_law_powers_5, b_law_powers_6, b_law_powers_7, args, S, hn, nm5.1, nm5.2]
  obtain ⟨x, H⟩ := H
  have H : f_law_counted [.int 19, .int c] = .ok x := by
    refine runF_of ?_
    simp [b_law_counted, b_law_counted_1, b_law_counted_2, b_law_counted_3, b_law_counted_4, b_law_counted_5, b_law_counted_6, b_law_counted_7, b_law_counted_8, b_law_counted_9, b_law_counted_10, b_law_counted_11, b_law_counted_12, args, H]
  exact ask_ok1 H
end FD
set_option Elab.async false
set_option linter.all false
set_option maxRecDepth 100000
set_option maxHeartbeats 4000000
noncomputable section
namespace FD
open PySem L2 TL
@[simp] theorem ty_nl : (tyName .none).bind (fun n => (kitB n "list").map PyData.bool) = some (.bool false) := Eq.trans rfl rfl
@[simp] theorem ty_il {i : Int} : (tyName (.int i)).bind (fun n => (kitB n "list").map PyData.bool) = some (.bool false) := Eq.trans rfl rfl
@[simp] theorem ty_tl {x : List D} : (tyName (.tuple x)).bind (fun n => (kitB n "list").map PyData.bool) = some (.bool false) := Eq.trans rfl rfl
theorem s_is_rowD {ds : List D} (h : ds.length ≤ 100000) (ok : ∀ d ∈ ds, okD d) : f_is_row [.list ds] = .ok (.bool (decide (1 ≤ (ds.length : Int)) && decide ((ds.length : Int) ≤ 20) && ds.all fun d => isIntV d 1 9999)) := by
  refine runF_of ?_
  have LC : lcF (CGc.name 1).g.ev CT.yes.ev (CE.call 1 f_is_beginning (CA.cons (CE.var 1) CA.nil)).ev [some (Sl.im (.list ds)), none] ds = some (ds.map fun d => .bool (isIntV d 1 9999)) := by
    have := lcF_map (f := fun d : D => d) (g := (CGc.name 1).g.ev) (e := (CE.call 1 f_is_beginning (CA.cons (CE.var 1) CA.nil)).ev) (env := [some (Sl.im (.list ds)), none]) (xs := ds) (fun d => .bool (isIntV d 1 9999)) fun d hd => ⟨_, by simp; rfl, _, by simp [s_is_beginningD (ok d hd)]; rfl⟩
    rwa [List.map_id'] at this
  have AL : fBools (fun bs => PyData.bool (bs.all id)) [.list (ds.map fun d => .bool (isIntV d 1 9999))] = some (.bool (ds.all fun d => isIntV d 1 9999)) := by
    rw [fBools_map, List.all_map]
    rfl
  cases q : (decide (1 ≤ (ds.length : Int)) && decide ((ds.length : Int) ≤ 20)) with
  | true => simp [b_is_row, args, h, q, LC, AL]
  | false => simp [b_is_row, args, h, q]
theorem ask_er3 {d : D} (h : f_format_beginnings [d] = .err 1) : f_law_asked [.int 3, .int 0, d] = .ok (.str (("beginning" : String) : Str)) := by
  refine runF_of ?_
  simp [b_law_asked, args, h, s_law_error (k := 1) (by decide)]
  rfl
theorem fmt_no {d : D} (h : f_is_row [d] = .ok (.bool false)) : f_format_beginnings [d] = .err 1 := by
  refine runF_errOf ?_
  simp [b_format_beginnings, args, h]
theorem row_no {d : D} (h : (tyName d).bind (fun n => (kitB n "list").map PyData.bool) = some (.bool false)) : f_is_row [d] = .ok (.bool false) := by
  refine runF_of ?_
  simp [b_is_row, args, h]
theorem lw {m : Int} (h0 : 0 ≤ m) (h : m ≤ 300) : f_law_asked [.int 3, .int 1, .int m] = .ok (.str (if gapL (plL 2 9 m.toNat) = [] then (("none" : String) : Str) else (("done" : String) : Str))) := by
  have S := s_longest_wait (b := 2) (g := 9) (m := m) ⟨by decide, by decide⟩ ⟨by decide, by decide⟩ h0 h
  refine runF_of ?_
  by_cases q : gapL (plL 2 9 m.toNat) = []
  · rw [if_pos q] at S ⊢
    simp [b_law_asked, args, S, s_law_error (k := 4) (by decide)]
    rfl
  · rw [if_neg q] at S ⊢
    simp [b_law_asked, args, S]
theorem gaps : gapL (plL 2 9 53) = [] ∧ gapL (plL 2 9 62) = [] ∧ gapL (plL 2 9 63) ≠ [] := by decide +kernel
theorem lw_c {d : D} (c : f_check_count [d, .int 0, .int 300] = .err 2) : f_law_asked [.int 3, .int 1, d] = .ok (.str (("count" : String) : Str)) := by
  have A : f_check_all [.int 2, .int 9, d] = .err 2 := by
    refine runF_errOf ?_
    simp [b_check_all, args, gb2, s_check_beginning (v := 9) ⟨by decide, by decide⟩, c]
  have S : f_longest_wait [.int 2, .int 9, d] = .err 2 := by
    refine runF_errOf ?_
    simp [b_longest_wait, args, A]
  refine runF_of ?_
  simp [b_law_asked, args, S, s_law_error (k := 2) (by decide)]
  rfl
theorem st2 : f_law_asked [.int 3, .int 2, .int 2] = .ok (.str (("none" : String) : Str)) ∧ f_law_asked [.int 3, .int 2, .int 3] = .ok (.str (("done" : String) : Str)) := by
  have S2 := s_stretch (b := 123) (c := 2) ⟨by decide, by decide⟩ (by decide) (by decide)
  have S3 := s_stretch (b := 123) (c := 3) ⟨by decide, by decide⟩ (by decide) (by decide)
  rw [show sz 123 = 3 by decide +kernel] at S2 S3
  rw [if_neg (by decide)] at S2
  rw [if_pos (by decide)] at S3
  constructor
  · refine runF_of ?_
    simp [b_law_asked, args, S2, s_law_error (k := 4) (by decide)]
    rfl
  · refine runF_of ?_
    simp [b_law_asked, args, S3]
theorem pe {v : Int} (hv : isB v) : f_law_asked [.int 3, .int 4, .int v] = .ok (.str (if meetV 4 1 9 1 v = true then (("done" : String) : Str) else (("none" : String) : Str))) := by
  have B2 : isB 2 := ⟨by decide, by decide⟩
  refine runF_of ?_
  by_cases q : meetV 4 1 9 1 v = true
  · obtain ⟨d, S, _⟩ := g_example B2 B2 hv q
    rw [if_pos q]
    simp [b_law_asked, args, S]
  · have S := s_example_no B2 B2 hv (by simpa using q)
    rw [if_neg q]
    simp [b_law_asked, args, S, s_law_error (k := 4) (by decide)]
    rfl
theorem pe_v : meetV 4 1 9 1 3 = false ∧ meetV 4 1 9 1 4 = true ∧ meetV 4 1 9 1 8 = true ∧ meetV 4 1 9 1 9 = false := by decide +kernel
end FD
set_option Elab.async false
set_option linter.all false
set_option maxRecDepth 100000
set_option maxHeartbeats 4000000
noncomputable section
namespace FD
open PySem L2 TL
theorem nm2 : ("add" : Str) ≠ "past" ∧ ("add" : Str) ≠ "line" := by decide +kernel
theorem nm3 : ("undo" : Str) ≠ "past" ∧ ("undo" : Str) ≠ "line" := by decide +kernel
theorem nm4 : ("number" : Str) ≠ "past" ∧ ("number" : Str) ≠ "line" := by decide +kernel
theorem r2 : f_law_asked [.int 3, .int 3, .int 1] = .ok (.str (("none" : String) : Str)) ∧ ∀ c : Int, 2 ≤ c → c ≤ 5 → f_law_asked [.int 3, .int 3, .int c] = .ok (.str (("done" : String) : Str)) := by
  have B2 : isB 2 := ⟨by decide, by decide⟩
  have z2 : sz 2 = 1 := by decide +kernel
  constructor
  · have R := s_roots_with (c := 1) (r1 := 2) (r2 := 2) B2 (by rw [z2]; decide) (by decide) ⟨by decide, by decide +kernel, by decide +kernel⟩ ⟨by decide, by decide +kernel, by decide +kernel⟩
    rw [if_neg (by decide)] at R
    refine runF_of ?_
    simp [b_law_asked, args, R, s_law_error (k := 4) (by decide)]
    rfl
  · intro c c2 c5
    have go : ∀ r1 r2 : Int, Rt (sA 2 c) r1 → Rt (sE 2 c + 1) r2 → r1 ≤ r2 - 1 → f_law_asked [.int 3, .int 3, .int c] = .ok (.str (("done" : String) : Str)) := fun r1 r2 q1 q2 q3 => by
      have R := s_roots_with B2 (by rw [z2]; omega) (by omega) q1 q2
      rw [if_pos q3] at R
      refine runF_of ?_
      simp [b_law_asked, args, R]
    have : c = 2 ∨ c = 3 ∨ c = 4 ∨ c = 5 := by omega
    rcases this with rfl | rfl | rfl | rfl
    · exact go 5 6 ⟨by decide, by decide +kernel, by decide +kernel⟩ ⟨by decide, by decide +kernel, by decide +kernel⟩ (by decide)
    · exact go 15 18 ⟨by decide, by decide +kernel, by decide +kernel⟩ ⟨by decide, by decide +kernel, by decide +kernel⟩ (by decide)
    · exact go 45 55 ⟨by decide, by decide +kernel, by decide +kernel⟩ ⟨by decide, by decide +kernel, by decide +kernel⟩ (by decide)
    · exact go 142 174 ⟨by decide, by decide +kernel, by decide +kernel⟩ ⟨by decide, by decide +kernel, by decide +kernel⟩ (by decide)
theorem pe_b {d : D} (c : f_check_beginning [d] = .err 1) : f_law_asked [.int 3, .int 4, d] = .ok (.str (("beginning" : String) : Str)) := by
  have S : f_product_example [.int 2, .int 2, d] = .err 1 := by
    refine runF_errOf ?_
    simp [b_product_example, args, h2, c]
  refine runF_of ?_
  simp [b_law_asked, args, S, s_law_error (k := 1) (by decide)]
  rfl
theorem er_addD {l p : List Int} {d : D} (c : f_check_number [d] = .err 0) : f_row_add (.row l p) [d] = .err 0 (.row l p) := by
  refine runM_errOf ?_
  simp [b_row_add, args, c]
theorem er_mulD {l p : List Int} {d : D} (c : f_check_base [d] = .err 0) : f_row_multiply (.row l p) [d] = .err 0 (.row l p) := by
  refine runM_errOf ?_
  simp [b_row_multiply, args, c]
def outL : List Str := (["number", "number", "number", "number", "number", "number", "number", "number", "number", "none"] : List String).map Str.ofString
/-- what each of the ten calls raises -/
theorem row_calls {n : Int} (hn : n = tp 59 * 5) : isN n ∧ f_row_add (.row [n] []) [.int (tp 60)] = .err 0 (.row [n] []) ∧ f_row_add (.row [n] []) [.int n] = .err 0 (.row [n] []) ∧
    (∀ d, f_check_base [d] = .err 0 → f_row_multiply (.row [n] []) [d] = .err 0 (.row [n] [])) ∧ f_row_multiply (.row [n] []) [.int 2] = .err 0 (.row [n] []) ∧ (∀ d, f_check_number [d] = .err 0 → f_row_add (.row [n] []) [d] = .err 0 (.row [n] [])) ∧ f_row_undo (.row [n] []) [] = .err 4 (.row [n] []) ∧
    f_row_add (.row [n] []) [.int (n - 1)] = .ok (.int (tp 60 - 1)) (.row [n, tp 60 - 1] [n]) := by
  have e : tp 60 = 10 * tp 59 := by decide
  have p := tp_pos 59
  have hN : isN n := ⟨by omega, by omega⟩
  have A := r_add (l := []) (p := []) (v := n) (c := n) (by decide) (by decide)
  rw [if_pos hN, if_neg (by unfold isN; omega)] at A
  have M := r_multiply (l := []) (p := []) (v := n) (c := 2) (by decide) (by decide) hN
  rw [if_pos ⟨by decide, by decide⟩, if_neg (by unfold isN; omega)] at M
  have A2 := r_add (l := []) (p := []) (v := n) (c := n - 1) (by decide) (by decide)
  rw [if_pos ⟨by omega, by omega⟩, if_pos (by unfold isN; omega), show n + (n - 1) = tp 60 - 1 by omega] at A2
  exact ⟨hN, er_addD (cnD trivial (by simp [isIntV]; try omega)), A, fun d c => er_mulD c, M, fun d c => er_addD c, r_undo0, A2⟩
end FD
set_option Elab.async false
set_option linter.all false
set_option maxRecDepth 100000
set_option maxHeartbeats 4000000
noncomputable section
namespace FD
open PySem L2 TL
theorem forF_thD {Q : F → Prop} {g : D → Env → Option Env} {b : Env → F} {xs : List D} {env : Env} {k : Env → F} (P : Nat → Env → Prop) (h0 : P 0 env)
    (st : ∀ i x, xs[i]? = some x → ∀ e, P i e → ∃ e1, g x e = some e1 ∧ IsNx (P (i + 1)) (b e1)) (hk : ∀ e, P xs.length e → Q (k e)) : Q ((forF g b xs env).bind k) := by
  have := forF_th (Q := Q) (f := fun d : D => d) (g := g) (b := b) (xs := xs) (env := env) (k := k) P h0 st hk
  rwa [List.map_id'] at this
theorem tryAF_err {i j k : Nat} {ds : List D} {e : Env} (hk : k < 5) (ho : Env.owL e j = some ds) (hl : ds.length < 100000) (hc : canSet (e.set j (some (.ow (.lst (ds ++ [.str (errN k)]))))) i = true) : tryAF i j f_law_error (.err k e) = .nx ((e.set j (some (.ow (.lst (ds ++ [.str (errN k)]))))).set i none) := by
  simp only [tryAF, lk_of hk, if_true, ho, s_law_error hk, lk_of hl, hc, Bool.and_self]
theorem rep9 : fRepL (.list [.str (("number" : String) : Str)]) (.int 9) = some ((List.replicate 9 (("number" : String) : Str)).map .str) := by
  have h2 := lk_of (show -100000 ≤ (9 : Int) by decide)
  have h3 := lk_of (show (9 : Int) ≤ 100000 by decide)
  have h4 : lineOk 9 = true := lineOk_of (by decide)
  show (if lk (decide (-100000 ≤ (9 : Int))) && lk (decide ((9 : Int) ≤ 100000)) && lineOk 9 then _ else _) = _
  rw [h2, h3, h4]
  rfl
theorem eqvAll_strs : ∀ xs : List Str, PyData.eqvAll (xs.map .str) (xs.map .str) = true
  | [] => rfl
  | x :: xs => by simp [PyData.eqvAll, PyData.eqv, eqvAll_strs xs]
theorem fEq_strs {n : Bool} {xs : List Str} (h : ∀ x ∈ xs, PyData.strOk x = true) : fEq n (.list (xs.map .str)) (.list (xs.map .str)) = some (.bool (!n)) := by
  have sh : SeqAt.shaped (.list (xs.map PyData.str)) = true := shaped_of fun d hd => by
    obtain ⟨x, hx, rfl⟩ := List.mem_map.mp hd
    exact ⟨by simp [PyData.canLay0, h x hx], by simp [PyData.depth]⟩
  unfold fEq
  rw [sh]
  cases n <;> simp [PyData.eqv, eqvAll_strs]
theorem eq_out : fEq false (.list (outL.map .str)) (.list (outL.map .str)) = some (.bool true) := fEq_strs (by decide +kernel)
theorem s_row : f_law_row [] = .ok (.bool true) := by
  refine runF_of ?_
  obtain ⟨n, hn⟩ : ∃ n, n = tp 59 * 5 := ⟨_, rfl⟩
  obtain ⟨nN, C0, C1, C2, C3, C4, C5, C6⟩ := row_calls hn
  have t59 := s_lten (k := 59) (by decide) (by decide)
  have t60 := s_lten (k := 60) (by decide) (by decide)
  have m5 : sm 5 = true := sm_of (by decide)
  have m59 := sm_tpk (k := 59) (by decide)
  have FM := fMul_i m59 m5
  rw [← hn] at FM
  have cn := s_check_number nN
  have NU := r_number (l := []) (v := n) (p := [])
  simp only [List.nil_append] at NU
  have LE := r_len (l := [n]) (p := [])
  have LE2 := r_len (l := [n, tp 60 - 1]) (p := [n])
  simp [b_law_row, args, t59, FM, cn, lineOk, t60, fCat]
  generalize hCL : PyData.list [.tuple [.int 0, .int 1], .tuple [.int 0, .int 100], .tuple [.int 0, .bool true], .tuple [.int 0, .none], .tuple [.int 0, .int 2], .tuple [.int 1, .int 0], .tuple [.int 1, .none], .tuple [.int 2, .int 0]] = CL
  obtain ⟨Inv, hInv⟩ : ∃ Inv : Nat → Env → Prop, Inv = (fun i e => ∃ (acc : List Str) (o3 o4 : Option D), e = [some (.ow (.row [n] [])), some (.ow (.lst (acc.map .str))), some (.im CL), mI o3, mI o4, none] ∧ acc = outL.take i) := ⟨_, rfl⟩
  refine forF_thD (Q := IsRt _) Inv (by rw [hInv]; exact ⟨[], none, none, rfl, rfl⟩) ?_ ?_
  · intro i d hd e he
    rw [hInv] at he
    obtain ⟨acc, o3, o4, rfl, hacc⟩ := he
    have hi := (List.getElem?_eq_some_iff.mp hd).1
    simp at hi
    have hl : (acc.map PyData.str).length < 100000 := by
      rw [List.length_map, hacc, List.length_take]
      omega
    have next : ∀ k : Nat, outL[i]? = some (errN k) → acc ++ [errN k] = outL.take (i + 1) := fun k h => by
      rw [List.take_succ, h, ← hacc]; rfl
    -- what the body does once the call has raised
    have fin : ∀ (k : Nat) (x y : D), k < 5 → outL[i]? = some (errN k) → IsNx (Inv (i + 1)) (.nx [some (.ow (.row [n] [])), some (.ow (.lst (acc.map .str ++ [.str (errN k)]))), some (.im CL), some (.im x), some (.im y), none]) := fun k x y hk h => by
      rw [hInv]
      exact ⟨_, rfl, acc ++ [errN k], some x, some y, by simp [mI], next k h⟩
    have TA : ∀ (k : Nat) (x y : D), k < 5 → tryAF 5 1 f_law_error (.err k [some (.ow (.row [n] [])), some (.ow (.lst (acc.map .str))), some (.im CL), some (.im x), some (.im y), none]) = .nx [some (.ow (.row [n] [])), some (.ow (.lst (acc.map .str ++ [.str (errN k)]))), some (.im CL), some (.im x), some (.im y), none] := fun k x y hk => by
      rw [tryAF_err hk (ds := acc.map .str) (by simp) hl (by simp)]
      simp
    have cb1 : f_check_base [.int 1] = .err 0 := cbaseD trivial (by simp [isIntV])
    have cb100 : f_check_base [.int 100] = .err 0 := cbaseD trivial (by simp [isIntV])
    have cbT : f_check_base [.bool true] = .err 0 := cbaseD trivial rfl
    have cbN : f_check_base [.none] = .err 0 := cbaseD trivial rfl
    have cn00 : f_check_number [.int 0] = .err 0 := cnD trivial (by simp [isIntV])
    have : i = 0 ∨ i = 1 ∨ i = 2 ∨ i = 3 ∨ i = 4 ∨ i = 5 ∨ i = 6 ∨ i = 7 ∨ i = 8 ∨ i = 9 := by omega
    rcases this with rfl | rfl | rfl | rfl | rfl | rfl | rfl | rfl | rfl | rfl
    all_goals
      simp at hd
      subst hd
      refine ⟨_, by simp; rfl, ?_⟩
      simp [nm1.1, nm1.2, nm2.1, nm2.2, nm3.1, nm3.2, nm4.1, nm4.2, C0, C1, C2 _ cb1, C2 _ cb100, C2 _ cbT, C2 _ cbN, C3, C4 _ cn00, C4 _ cn0, C5, TA, NU, LE, t59, FM, -isNx_nx]
      exact fin _ _ _ (by decide) rfl
  · intro e he
    rw [hInv] at he
    obtain ⟨acc, o3, o4, rfl, hacc⟩ := he
    have hacc : acc = outL := by rw [hacc]; rfl
    subst hacc
    have RP := rep9
    have EQ := eq_out
    have CAT : fCat (.list ((List.replicate 9 (("number" : String) : Str)).map .str)) (.list [.str (("none" : String) : Str)]) = some (.list (outL.map .str)) := by
      have h4 : lineOk 10 = true := lineOk_of (by decide)
      show (if lineOk 10 = true then _ else _) = _
      rw [if_pos h4]
      rfl
    generalize outL.map PyData.str = OL at *
    generalize (List.replicate 9 (("number" : String) : Str)).map PyData.str = RL at *
    simp [RP, CAT, EQ, lineOk, t59, FM, nm2.1, nm2.2, C6, t60, LE2]
end FD
set_option Elab.async false
set_option linter.all false
set_option maxRecDepth 100000
set_option maxHeartbeats 4000000
noncomputable section
namespace FD
open PySem L2 TL
theorem eqS {n : Bool} {ds : List D} {xs : List Str} (e : ds = xs.map .str) (h : ∀ x ∈ xs, PyData.strOk x = true) : fEq n (.list ds) (.list ds) = some (.bool (!n)) := by
  subst e
  exact fEq_strs h
abbrev sN : D := .str (("none" : String) : Str)
abbrev sD : D := .str (("done" : String) : Str)
abbrev sB : D := .str (("beginning" : String) : Str)
abbrev sC : D := .str (("count" : String) : Str)
section
variable {s : DrawSt} {HI LO : D} {o4 o5 o6 o7 o8 o9 : Option D}
theorem k12_10 : IsRt (.bool true) (b_law_10.ev [none, some (.ow (.draws s)), some (.im HI), some (.im LO), mI o4, mI o5, mI o6, mI o7, mI o8, mI o9, none, none, none, none]) := by
  have P3 := pe (v := 3) ⟨by decide, by decide⟩
  have P4 := pe (v := 4) ⟨by decide, by decide⟩
  have P8 := pe (v := 8) ⟨by decide, by decide⟩
  have P9 := pe (v := 9) ⟨by decide, by decide⟩
  have P0 := pe_b (d := .int 10000) (cbD trivial (by simp [isIntV]))
  rw [pe_v.1] at P3
  rw [pe_v.2.1] at P4
  rw [pe_v.2.2.1] at P8
  rw [pe_v.2.2.2] at P9
  simp only [if_true, Bool.false_eq_true, if_false] at P3 P4 P8 P9
  have E := eqS (n := false) (ds := [sN, sD, sD, sN, sB]) (xs := (["none", "done", "done", "none", "beginning"] : List String).map Str.ofString) rfl (by decide +kernel)
  simp [b_law_10, lineOk, lcF, P3, P4, P8, P9, P0, E, s_row]
theorem k12_8 : IsRt (.bool true) (b_law_8.ev [none, some (.ow (.draws s)), some (.im HI), some (.im LO), mI o4, mI o5, mI o6, mI o7, mI o8, mI o9, none, none, none, none]) := by
  have E1 := eqS (n := true) (ds := [sN, sD]) (xs := (["none", "done"] : List String).map Str.ofString) rfl (by decide +kernel)
  have E2 := eqS (n := true) (ds := [sN, sD, sD, sD, sD]) (xs := (["none", "done", "done", "done", "done"] : List String).map Str.ofString) rfl (by decide +kernel)
  have R4 : fRepL (.list [sD]) (.int 4) = some [sD, sD, sD, sD] := by
    have h2 := lk_of (show -100000 ≤ (4 : Int) by decide)
    have h3 := lk_of (show (4 : Int) ≤ 100000 by decide)
    have h4 : lineOk 4 = true := lineOk_of (by decide)
    show (if lk (decide (-100000 ≤ (4 : Int))) && lk (decide ((4 : Int) ≤ 100000)) && lineOk 4 then _ else _) = _
    rw [h2, h3, h4]
    rfl
  have t10 := k12_10 (s := s) (HI := HI) (LO := LO) (o4 := o4) (o5 := o5) (o6 := o6) (o7 := o7) (o8 := o8) (o9 := o9)
  simp [b_law_8, lineOk, lcF, st2.1, st2.2, E1]
  simp [b_law_9, lineOk, lcF, r2.1, r2.2 2 (by decide) (by decide), r2.2 3 (by decide) (by decide), r2.2 4 (by decide) (by decide), r2.2 5 (by decide) (by decide), R4, fCat, E2]
  exact t10
theorem k12_6 : IsRt (.bool true) (b_law_6.ev [none, some (.ow (.draws s)), some (.im HI), some (.im LO), mI o4, mI o5, mI o6, mI o7, mI o8, mI o9, none, none, none, none]) := by
  have W53 := lw (m := 53) (by decide) (by decide)
  have W62 := lw (m := 62) (by decide) (by decide)
  have W63 := lw (m := 63) (by decide) (by decide)
  have L0 := lw_c (d := .none) cc0
  have L1 := lw_c (d := .int 301) (ccD trivial (by simp [isIntV]))
  rw [show (53 : Int).toNat = 53 from rfl, if_pos gaps.1] at W53
  rw [show (62 : Int).toNat = 62 from rfl, if_pos gaps.2.1] at W62
  rw [show (63 : Int).toNat = 63 from rfl, if_neg gaps.2.2] at W63
  have E := eqS (n := true) (ds := [sC, sC, sN, sN, sD]) (xs := (["count", "count", "none", "none", "done"] : List String).map Str.ofString) rfl (by decide +kernel)
  have ok20 : rowOk (List.replicate 20 9999) = true := by decide +kernel
  have F := s_format ok20
  have R20 : fRepL (.list [.int 9999]) (.int 20) = some ((List.replicate 20 (9999 : Int)).map .int) := by
    have h2 := lk_of (show -100000 ≤ (20 : Int) by decide)
    have h3 := lk_of (show (20 : Int) ≤ 100000 by decide)
    have h4 : lineOk 20 = true := lineOk_of (by decide)
    show (if lk (decide (-100000 ≤ (20 : Int))) && lk (decide ((20 : Int) ≤ 100000)) && lineOk 20 then _ else _) = _
    rw [h2, h3, h4]
    rfl
  have A : f_law_asked [.int 3, .int 0, .list ((List.replicate 20 (9999 : Int)).map .int)] = .ok sD := by
    refine runF_of ?_
    generalize List.replicate 20 (9999 : Int) = Z at F ⊢
    simp [b_law_asked, args, F]
  have dok : PyData.strOk (("done" : String) : Str) = true := by decide +kernel
  have ED : fEq true sD sD = some (.bool false) := by rw [fEq_ss dok dok, decide_eq_true rfl]; rfl
  have t8 := k12_8 (s := s) (HI := HI) (LO := LO) (o4 := o4) (o5 := o5) (o6 := o6) (o7 := o7) (o8 := o8) (o9 := some (.list [sC, sC, sN, sN, sD]))
  generalize (List.replicate 20 (9999 : Int)).map PyData.int = Z at R20 A
  simp [b_law_6, lineOk, lcF, W53, W62, W63, L0, L1]
  simp [b_law_7, lineOk, R20, A, ED, E]
  exact t8
end
end FD
set_option Elab.async false
set_option linter.all false
set_option maxRecDepth 100000
set_option maxHeartbeats 4000000
noncomputable section
namespace FD
open PySem L2 TL
section
variable {s : DrawSt} {HI LO : D} {o4 o5 o6 o7 o8 o9 : Option D}
theorem k12_5 : IsRt (.bool true) (b_law_5.ev [none, some (.ow (.draws s)), some (.im HI), some (.im LO), mI o4, mI o5, mI o6, mI o7, mI o8, mI o9, none, none, none, none]) := by
  have R21 : fRepL (.list [.int 1]) (.int 21) = some (List.replicate 21 (.int 1)) := by
    have h2 := lk_of (show -100000 ≤ (21 : Int) by decide)
    have h3 := lk_of (show (21 : Int) ≤ 100000 by decide)
    have h4 : lineOk 21 = true := lineOk_of (by decide)
    show (if lk (decide (-100000 ≤ (21 : Int))) && lk (decide ((21 : Int) ≤ 100000)) && lineOk 21 then _ else _) = _
    rw [h2, h3, h4]
    rfl
  have bok : PyData.strOk (("beginning" : String) : Str) = true := by decide +kernel
  have EB : fEq true sB sB = some (.bool false) := by rw [fEq_ss bok bok, decide_eq_true rfl]; rfl
  obtain ⟨Z, hZ⟩ : ∃ Z, Z = List.replicate 21 (PyData.int 1) := ⟨_, rfl⟩
  rw [← hZ] at R21
  simp [b_law_5, lineOk, R21]
  refine forF_thD (Q := IsRt _) (fun i e => ∃ (o5 : Option D), e = [none, some (.ow (.draws s)), some (.im HI), some (.im LO), mI o4, mI o5, mI o6, mI o7, mI o8, mI o9, none, none, none, none]) ⟨o5, rfl⟩ ?_ ?_
  · rintro i d hd e ⟨o5, rfl⟩
    have hd := List.mem_of_getElem? hd
    have A : f_law_asked [.int 3, .int 0, d] = .ok sB := by
      refine ask_er3 (fmt_no ?_)
      simp at hd
      rcases hd with rfl | rfl | rfl | rfl | rfl | rfl | rfl | rfl | rfl | rfl | rfl
      · exact row_no rfl
      · exact row_no rfl
      · exact row_no rfl
      · rw [s_is_rowD (by simp) (by simp)]; rfl
      · exact row_no rfl
      · rw [s_is_rowD (by simp) (by simp [okD])]; rfl
      · rw [s_is_rowD (by simp) (by simp [okD])]; rfl
      · rw [s_is_rowD (by simp) (by simp [okD])]; rfl
      · rw [s_is_rowD (by simp) (by simp [okD])]; rfl
      · rw [hZ, s_is_rowD (by simp) (fun d hd => by rw [(List.mem_replicate.mp hd).2]; trivial)]; rfl
      · rw [s_is_rowD (by simp) (by simp [okD])]; rfl
    refine ⟨_, by simp; rfl, ?_⟩
    simp [A, EB]
  · rintro e ⟨o5, rfl⟩
    exact k12_6
end
def k12due (w : Int) : Str := if w = 7 then (("done" : String) : Str) else if w = 4 ∨ w = 5 ∨ w = 6 then (("count" : String) : Str) else (("beginning" : String) : Str)
theorem k12_bad {w : Int} (w0 : 0 ≤ w) (w1 : w ≤ 10) {d : D} (hd : okD d) (q : isIntV d (if w < 8 then 2 else 1) (if w < 8 then 99 else 1000000) = false) : f_law_asked [.int 2, .int w, d] = .ok (.str (("number" : String) : Str)) := by
  by_cases h : w < 8
  · rw [if_pos h, if_pos h] at q
    have c := cbaseD hd q
    have : w = 0 ∨ w = 1 ∨ w = 2 ∨ w = 3 ∨ w = 4 ∨ w = 5 ∨ w = 6 ∨ w = 7 := by omega
    rcases this with rfl | rfl | rfl | rfl | rfl | rfl | rfl | rfl
    · exact bs0 c
    · exact bs1 c
    · exact bs2 c
    · exact bs3 c
    · exact bs4 c
    · exact bs5 c
    · exact bs6 c
    · exact bs7 c
  · rw [if_neg h, if_neg h] at q
    have c := cstepD hd q
    have : w = 8 ∨ w = 9 ∨ w = 10 := by omega
    rcases this with rfl | rfl | rfl
    · exact bs8 c
    · exact bs9 c
    · exact bs10 c
theorem k12_ok {w v : Int} (w0 : 0 ≤ w) (w1 : w ≤ 10) (h1 : (if w < 8 then 2 else 1) ≤ v) (h2 : v ≤ (if w < 8 then 99 else 1000000)) : f_law_asked [.int 2, .int w, .int v] = .ok (.str (k12due w)) := by
  by_cases h : w < 8
  · rw [if_pos h] at h1 h2
    have c := s_check_base h1 h2
    have : w = 0 ∨ w = 1 ∨ w = 2 ∨ w = 3 ∨ w = 4 ∨ w = 5 ∨ w = 6 ∨ w = 7 := by omega
    rcases this with rfl | rfl | rfl | rfl | rfl | rfl | rfl | rfl
    · exact bo0 c
    · exact bo1 c
    · exact bo2 c
    · exact bo3 c
    · exact bo4 c
    · exact bo5 c
    · exact bo6 c
    · exact bo7 h1 h2
  · rw [if_neg h] at h1 h2
    have c := s_check_step h1 h2
    have : w = 8 ∨ w = 9 ∨ w = 10 := by omega
    rcases this with rfl | rfl | rfl
    · exact bo8 c
    · exact bo9 c
    · exact bo10 c
theorem k12_in {w : Int} (w0 : 0 ≤ w) (w1 : w ≤ 10) : fIn false (.int w) (.tuple [.int 0, .int 1, .int 2, .int 3, .int 8, .int 9, .int 10]) = some (.bool (decide (¬ (w = 4 ∨ w = 5 ∨ w = 6 ∨ w = 7)))) := by
  have : w = 0 ∨ w = 1 ∨ w = 2 ∨ w = 3 ∨ w = 4 ∨ w = 5 ∨ w = 6 ∨ w = 7 ∨ w = 8 ∨ w = 9 ∨ w = 10 := by omega
  rcases this with rfl | rfl | rfl | rfl | rfl | rfl | rfl | rfl | rfl | rfl | rfl <;> rfl
theorem k12_due_ok (w : Int) : PyData.strOk (k12due w) = true := by
  unfold k12due
  split
  · decide +kernel
  · split <;> decide +kernel
theorem k12_L1 {s : DrawSt} (g : goodD s) {HI LO : D} {w : Int} (w0 : 0 ≤ w) (w1 : w ≤ 10) {o5 o6 o7 o8 o9 : Option D} : ∃ (s' : DrawSt) (p5 p6 p7 p8 : Option D), goodD s' ∧ b_law_L1.ev [none, some (.ow (.draws s)), some (.im HI), some (.im LO), some (.im (.int w)), mI o5, mI o6, mI o7, mI o8, mI o9, none, none, none, none] = .nx [none, some (.ow (.draws s')), some (.im HI), some (.im LO), some (.im (.int w)), mI p5, mI p6, mI p7, mI p8, mI o9, none, none, none, none] := by
  obtain ⟨hi, ehi⟩ : ∃ hi : Int, hi = if w < 8 then 99 else 1000000 := ⟨_, rfl⟩
  obtain ⟨lo, elo⟩ : ∃ lo : Int, lo = if w < 8 then 2 else 1 := ⟨_, rfl⟩
  obtain ⟨o, s', d1, ho, g'⟩ := g_pick (xs := [.int lo, .int hi]) g (by simp) (by simp)
  obtain ⟨v, rfl, v1, v2⟩ : ∃ v, o = .int v ∧ lo ≤ v ∧ v ≤ hi := by
    have : lo ≤ hi := by rw [elo, ehi]; split <;> decide
    simp at ho
    rcases ho with rfl | rfl
    · exact ⟨_, rfl, by omega, by omega⟩
    · exact ⟨_, rfl, by omega, by omega⟩
  have A := k12_ok w0 w1 (v := v) (by rw [← elo]; exact v1) (by rw [← ehi]; exact v2)
  have IN := k12_in w0 w1
  have nok : PyData.strOk (("number" : String) : Str) = true := by decide +kernel
  have EN : fEq true (.str (("number" : String) : Str)) (.str (("number" : String) : Str)) = some (.bool false) := by rw [fEq_ss nok nok, decide_eq_true rfl]; rfl
  have ED : fEq true (.str (k12due w)) (.str (k12due w)) = some (.bool false) := by rw [fEq_ss (k12_due_ok w) (k12_due_ok w), decide_eq_true rfl]; rfl
  have hm : ∀ d : D, mI (some d) = some (Sl.im d) := fun _ => rfl
  suffices hq : ∃ (p5 p6 p7 p8 : Option D), b_law_L1.ev [none, some (.ow (.draws s)), some (.im HI), some (.im LO), some (.im (.int w)), mI o5, mI o6, mI o7, mI o8, mI o9, none, none, none, none] = .nx [none, some (.ow (.draws s')), some (.im HI), some (.im LO), some (.im (.int w)), mI p5, mI p6, mI p7, mI p8, mI o9, none, none, none, none] by
    obtain ⟨p5, p6, p7, p8, h⟩ := hq
    exact ⟨s', p5, p6, p7, p8, g', h⟩
  have K3 : ∀ q5 : Option D, ∃ (p5 p6 p7 p8 : Option D), b_law_L1_3.ev [none, some (.ow (.draws s)), some (.im HI), some (.im LO), some (.im (.int w)), mI q5, some (.im (.int hi)), some (.im (.int lo)), mI o8, mI o9, none, none, none, none] = .nx [none, some (.ow (.draws s')), some (.im HI), some (.im LO), some (.im (.int w)), mI p5, mI p6, mI p7, mI p8, mI o9, none, none, none, none] := fun q5 => by
    refine ⟨q5, some (.int hi), some (.int lo), some (.str (k12due w)), ?_⟩
    have hd : (if ¬ (w = 4 ∨ w = 5 ∨ w = 6 ∨ w = 7) then PyData.str (("beginning" : String) : Str) else if w = 7 then PyData.str (("done" : String) : Str) else PyData.str (("count" : String) : Str)) = .str (k12due w) := by
      unfold k12due
      by_cases h7 : w = 7
      · subst h7; simp
      · by_cases h : w = 4 ∨ w = 5 ∨ w = 6
        · rw [if_neg (by omega), if_neg h7, if_neg h7, if_pos h]
        · rw [if_pos (by omega), if_neg h7, if_neg h]
    by_cases c1 : w = 4 ∨ w = 5 ∨ w = 6 ∨ w = 7
    · rw [decide_eq_false (not_not_intro c1)] at IN
      rw [if_neg (not_not_intro c1)] at hd
      by_cases c2 : w = 7
      · rw [if_pos c2] at hd
        subst c2
        generalize k12due 7 = du at *
        simp [b_law_L1_3, b_law_L1_4, lineOk, IN, d1, hd, A, ED, hm]
      · rw [if_neg c2] at hd
        simp [b_law_L1_3, b_law_L1_4, lineOk, IN, c2, d1, hd, A, ED, hm]
    · rw [decide_eq_true c1] at IN
      rw [if_pos c1] at hd
      simp [b_law_L1_3, b_law_L1_4, lineOk, IN, d1, hd, A, ED, hm]
  have K2 : ∃ (p5 p6 p7 p8 : Option D), b_law_L1_2.ev [none, some (.ow (.draws s)), some (.im HI), some (.im LO), some (.im (.int w)), mI o5, some (.im (.int hi)), some (.im (.int lo)), mI o8, mI o9, none, none, none, none] = .nx [none, some (.ow (.draws s')), some (.im HI), some (.im LO), some (.im (.int w)), mI p5, mI p6, mI p7, mI p8, mI o9, none, none, none, none] := by
    obtain ⟨Q, hQ⟩ : ∃ Q : F → Prop, Q = fun r => ∃ (p5 p6 p7 p8 : Option D), r = .nx [none, some (.ow (.draws s')), some (.im HI), some (.im LO), some (.im (.int w)), mI p5, mI p6, mI p7, mI p8, mI o9, none, none, none, none] := ⟨_, rfl⟩
    suffices h : Q (b_law_L1_2.ev [none, some (.ow (.draws s)), some (.im HI), some (.im LO), some (.im (.int w)), mI o5, some (.im (.int hi)), some (.im (.int lo)), mI o8, mI o9, none, none, none, none]) by
      rw [hQ] at h; exact h
    simp [b_law_L1_2, lineOk]
    refine forF_thD (Q := Q) (fun i e => ∃ (o5 : Option D), e = [none, some (.ow (.draws s)), some (.im HI), some (.im LO), some (.im (.int w)), mI o5, some (.im (.int hi)), some (.im (.int lo)), mI o8, mI o9, none, none, none, none]) ⟨o5, rfl⟩ ?_ ?_
    · rintro i d hd e ⟨o5, rfl⟩
      have hd := List.mem_of_getElem? hd
      have bad : okD d ∧ isIntV d lo hi = false := by
        have l1 : 1 ≤ lo := by rw [elo]; split <;> decide
        simp at hd
        rcases hd with rfl | rfl | rfl | rfl | rfl | rfl
        · exact ⟨trivial, rfl⟩
        · exact ⟨trivial, by simp [isIntV]; try omega⟩
        · exact ⟨trivial, by simp [isIntV]; try omega⟩
        · exact ⟨trivial, by simp [isIntV]; try omega⟩
        · exact ⟨trivial, rfl⟩
        · exact ⟨trivial, rfl⟩
      have B := k12_bad w0 w1 bad.1 (by rw [← elo, ← ehi]; exact bad.2)
      refine ⟨_, by simp; rfl, ?_⟩
      simp [B, EN]
    · rintro e ⟨o5, rfl⟩
      rw [hQ]
      exact K3 o5
  by_cases h : w < 8
  · rw [if_pos h] at ehi elo
    subst ehi
    subst elo
    simp [b_law_L1, b_law_L1_1, h]
    exact K2
  · rw [if_neg h] at ehi elo
    subst ehi
    subst elo
    simp [b_law_L1, b_law_L1_1, h]
    exact K2
theorem k12_4 {s : DrawSt} (g : goodD s) {HI LO : D} {o4 o5 : Option D} : IsRt (.bool true) (b_law_4.ev [none, some (.ow (.draws s)), some (.im HI), some (.im LO), mI o4, mI o5, none, none, none, none, none, none, none, none]) := by
  have r11 : rngOk 11 = true := rngOk_is (by decide) (by decide)
  have e11 : rangeD 0 1 11 = (rg 0 11).map PyData.int := rangeD_rg 0 11
  simp [b_law_4, r11, e11]
  obtain ⟨Inv, hInv⟩ : ∃ Inv : Nat → Env → Prop, Inv = (fun i e => ∃ (s' : DrawSt) (o4 o5 o6 o7 o8 : Option D), goodD s' ∧ e = [none, some (.ow (.draws s')), some (.im HI), some (.im LO), mI o4, mI o5, mI o6, mI o7, mI o8, none, none, none, none, none]) := ⟨_, rfl⟩
  refine forF_th (Q := IsRt _) Inv (by rw [hInv]; exact ⟨s, o4, o5, none, none, none, g, rfl⟩) ?_ ?_
  · intro i w hw e he
    rw [hInv] at he
    obtain ⟨s1, p4, p5, p6, p7, p8, g1, rfl⟩ := he
    have hw := mem_rg.mp (List.mem_of_getElem? hw)
    refine ⟨_, by simp; rfl, ?_⟩
    obtain ⟨s2, q5, q6, q7, q8, g2, T⟩ := k12_L1 g1 (HI := HI) (LO := LO) hw.1 (by omega) (o5 := p5) (o6 := p6) (o7 := p7) (o8 := p8) (o9 := none)
    rw [hInv]
    exact ⟨_, T, s2, some (.int w), q5, q6, q7, q8, g2, rfl⟩
  · intro e he
    rw [hInv] at he
    obtain ⟨s1, p4, p5, p6, p7, p8, g1, rfl⟩ := he
    exact k12_5 (s := s1) (HI := HI) (LO := LO) (o4 := p4) (o5 := p5) (o6 := p6) (o7 := p7) (o8 := p8) (o9 := none)
def hiW (w : Int) : Int := highs.getD w.toNat 0
def loW (w : Int) : Int := lows.getD w.toNat 0
theorem k12_hi {w : Int} (w0 : 0 ≤ w) (w1 : w < 20) : f_law_asked [.int 1, .int w, .int (hiW w)] = .ok sD := by
  have : w = 0 ∨ w = 1 ∨ w = 2 ∨ w = 3 ∨ w = 4 ∨ w = 5 ∨ w = 6 ∨ w = 7 ∨ w = 8 ∨ w = 9 ∨ w = 10 ∨ w = 11 ∨ w = 12 ∨ w = 13 ∨ w = 14 ∨ w = 15 ∨ w = 16 ∨ w = 17 ∨ w = 18 ∨ w = 19 := by omega
  rcases this with rfl | rfl | rfl | rfl | rfl | rfl | rfl | rfl | rfl | rfl | rfl | rfl | rfl | rfl | rfl | rfl | rfl | rfl | rfl | rfl
  · exact bd0 (by decide) (by decide)
  · exact bd1 (by decide) (by decide)
  · exact bd2 (by decide) (by decide)
  · exact bd3 (by decide) (by decide)
  · exact bd4 (by decide) (by decide)
  · exact bd5 (by decide) (by decide)
  · exact bd6 (by decide) (by decide)
  · exact bd7 (by decide) (by decide)
  · exact bd8 (by decide) (by decide)
  · exact bd9 (by decide) (by decide)
  · exact bd10 (by decide) (by decide)
  · exact bd11 (.inr rfl)
  · exact bd12 (by decide) (by decide)
  · exact bd13 (by decide) (by decide)
  · exact bd14 (by decide) (by decide)
  · exact bd15 (by decide) (by decide)
  · exact bd16 (by decide) (by decide)
  · exact bd17 (by decide) (by decide)
  · exact bd18 (by decide) (by decide)
  · exact bd19 (by decide) (by decide)
theorem k12_lo {w : Int} (w0 : 0 ≤ w) (w1 : w < 20) : f_law_asked [.int 1, .int w, .int (loW w)] = .ok sD := by
  have : w = 0 ∨ w = 1 ∨ w = 2 ∨ w = 3 ∨ w = 4 ∨ w = 5 ∨ w = 6 ∨ w = 7 ∨ w = 8 ∨ w = 9 ∨ w = 10 ∨ w = 11 ∨ w = 12 ∨ w = 13 ∨ w = 14 ∨ w = 15 ∨ w = 16 ∨ w = 17 ∨ w = 18 ∨ w = 19 := by omega
  rcases this with rfl | rfl | rfl | rfl | rfl | rfl | rfl | rfl | rfl | rfl | rfl | rfl | rfl | rfl | rfl | rfl | rfl | rfl | rfl | rfl
  · exact bd0 (by decide) (by decide)
  · exact bd1 (by decide) (by decide)
  · exact bd2 (by decide) (by decide)
  · exact bd3 (by decide) (by decide)
  · exact bd4 (by decide) (by decide)
  · exact bd5 (by decide) (by decide)
  · exact bd6 (by decide) (by decide)
  · exact bd7 (by decide) (by decide)
  · exact bd8 (by decide) (by decide)
  · exact bd9 (by decide) (by decide)
  · exact bd10 (by decide) (by decide)
  · exact bd11 (.inl rfl)
  · exact bd12 (by decide) (by decide)
  · exact bd13 (by decide) (by decide)
  · exact bd14 (by decide) (by decide)
  · exact bd15 (by decide) (by decide)
  · exact bd16 (by decide) (by decide)
  · exact bd17 (by decide) (by decide)
  · exact bd18 (by decide) (by decide)
  · exact bd19 (by decide) (by decide)
theorem k12_bc {w : Int} (w0 : 0 ≤ w) (w1 : w < 20) {d : D} (hd : okD d) (q : isIntV d (loW w) (hiW w) = false) : f_law_asked [.int 1, .int w, d] = .ok sC := by
  have : w = 0 ∨ w = 1 ∨ w = 2 ∨ w = 3 ∨ w = 4 ∨ w = 5 ∨ w = 6 ∨ w = 7 ∨ w = 8 ∨ w = 9 ∨ w = 10 ∨ w = 11 ∨ w = 12 ∨ w = 13 ∨ w = 14 ∨ w = 15 ∨ w = 16 ∨ w = 17 ∨ w = 18 ∨ w = 19 := by omega
  rcases this with rfl | rfl | rfl | rfl | rfl | rfl | rfl | rfl | rfl | rfl | rfl | rfl | rfl | rfl | rfl | rfl | rfl | rfl | rfl | rfl
  · exact bc0 (ccD hd q)
  · exact bc1 (ccD hd q)
  · exact bc2 (ccD hd q)
  · exact bc3 (ccD hd q)
  · exact bc4 (ccD hd q)
  · exact bc5 (ccD hd q)
  · exact bc6 (ccD hd q)
  · exact bc7 (ccD hd q)
  · exact bc8 (ccD hd q)
  · exact bc9 (ccD hd q)
  · exact bc10 (ccD hd q)
  · exact bc11 (ccD hd q)
  · exact bc12 (ccD hd q)
  · exact bc13 (ccD hd q)
  · exact bc14 (ccD hd q)
  · exact bc15 (ccD hd q)
  · exact bc16 (ccD hd q)
  · exact bc17 (ccD hd q)
  · exact bc18 (ccD hd q)
  · exact bc19 (ccD hd q)
theorem ix_hi {w : Int} (w0 : 0 ≤ w) (w1 : w < 20) : fIx (.list (highs.map .int)) (.int w) = some (.int (hiW w)) := by
  have h := fIx_at (xs := highs.map PyData.int) (k := w.toNat) (d := .int (hiW w)) (by
    have hl : w.toNat < highs.length := by show w.toNat < 20; omega
    rw [List.getElem?_map, List.getElem?_eq_getElem hl]
    unfold hiW
    rw [List.getD_eq_getElem?_getD, List.getElem?_eq_getElem hl]
    rfl)
  rw [show ((w.toNat : Nat) : Int) = w by omega] at h
  exact h
theorem ix_lo {w : Int} (w0 : 0 ≤ w) (w1 : w < 20) : fIx (.list (lows.map .int)) (.int w) = some (.int (loW w)) := by
  have h := fIx_at (xs := lows.map PyData.int) (k := w.toNat) (d := .int (loW w)) (by
    have hl : w.toNat < lows.length := by show w.toNat < 20; omega
    rw [List.getElem?_map, List.getElem?_eq_getElem hl]
    unfold loW
    rw [List.getD_eq_getElem?_getD, List.getElem?_eq_getElem hl]
    rfl)
  rw [show ((w.toNat : Nat) : Int) = w by omega] at h
  exact h
theorem k12_3 {s : DrawSt} (g : goodD s) {o4 o5 : Option D} : IsRt (.bool true) (b_law_3.ev [none, some (.ow (.draws s)), some (.im (.list (highs.map .int))), some (.im (.list (lows.map .int))), mI o4, mI o5, none, none, none, none, none, none, none, none]) := by
  have r20 : rngOk 20 = true := rngOk_is (by decide) (by decide)
  have e20 : rangeD 0 1 20 = (rg 0 20).map PyData.int := rangeD_rg 0 20
  have l20 : (rg 0 20).length ≤ 100000 := by rw [rg_length]; decide
  have dok : PyData.strOk (("done" : String) : Str) = true := by decide +kernel
  have R20 : fRepL (.list [sD]) (.int 20) = some ((rg 0 20).map fun _ => sD) := by
    have h2 := lk_of (show -100000 ≤ (20 : Int) by decide)
    have h3 := lk_of (show (20 : Int) ≤ 100000 by decide)
    have h4 : lineOk 20 = true := lineOk_of (by decide)
    show (if lk (decide (-100000 ≤ (20 : Int))) && lk (decide ((20 : Int) ≤ 100000)) && lineOk 20 then _ else _) = _
    rw [h2, h3, h4]
    rfl
  have EQ : fEq true (.list ((rg 0 20).map fun _ => sD)) (.list ((rg 0 20).map fun _ => sD)) = some (.bool false) := by
    rw [eqS (n := true) (xs := (rg 0 20).map fun _ => (("done" : String) : Str)) (by rw [List.map_map]; rfl) (fun x hx => by obtain ⟨_, _, rfl⟩ := List.mem_map.mp hx; exact dok)]
    rfl
  have t4 := k12_4 g (HI := .list (highs.map .int)) (LO := .list (lows.map .int)) (o4 := o4) (o5 := o5)
  have IH := @ix_hi
  have IL := @ix_lo
  generalize PyData.list (highs.map .int) = HI at *
  generalize PyData.list (lows.map .int) = LO at *
  obtain ⟨Z, hZ⟩ : ∃ Z, Z = (rg 0 20).map fun _ => sD := ⟨_, rfl⟩
  simp [b_law_3, r20, e20, l20]
  rw [lcF_map (f := PyData.int) (fun _ => sD)]
  rotate_left
  · intro w hw
    have hw := mem_rg.mp hw
    exact ⟨_, by simp; rfl, _, by simp [IH hw.1 hw.2, k12_hi hw.1 hw.2]; rfl⟩
  rw [← hZ] at R20 EQ ⊢
  simp [R20, EQ, lineOk, r20, e20, l20]
  rw [lcF_map (f := PyData.int) (fun _ => sD)]
  rotate_left
  · intro w hw
    have hw := mem_rg.mp hw
    exact ⟨_, by simp; rfl, _, by simp [IL hw.1 hw.2, k12_lo hw.1 hw.2]; rfl⟩
  rw [← hZ]
  simp [R20, EQ, lineOk]
  exact t4
theorem bind2 {r : F} {f g : Env → F} : (r.bind f).bind g = r.bind fun e => (f e).bind g := by cases r <;> rfl
theorem k12_2 {s : DrawSt} (g : goodD s) : IsRt (.bool true) (b_law_2.ev [none, some (.ow (.draws s)), some (.im (.list (highs.map .int))), some (.im (.list (lows.map .int))), none, none, none, none, none, none, none, none, none, none]) := by
  have r20 : rngOk 20 = true := rngOk_is (by decide) (by decide)
  have e20 : rangeD 0 1 20 = (rg 0 20).map PyData.int := rangeD_rg 0 20
  have cok : PyData.strOk (("count" : String) : Str) = true := by decide +kernel
  have EC : fEq true sC sC = some (.bool false) := by rw [fEq_ss cok cok, decide_eq_true rfl]; rfl
  have t3 := @k12_3 s g
  have IH := @ix_hi
  have IL := @ix_lo
  generalize PyData.list (highs.map .int) = HI at *
  generalize PyData.list (lows.map .int) = LO at *
  simp [b_law_2, r20, e20]
  refine forF_th (Q := IsRt _) (fun i e => ∃ (o4 o5 : Option D), e = [none, some (.ow (.draws s)), some (.im HI), some (.im LO), mI o4, mI o5, none, none, none, none, none, none, none, none]) ⟨none, none, rfl⟩ ?_ ?_
  · rintro i w hw e ⟨o4, o5, rfl⟩
    have hw := mem_rg.mp (List.mem_of_getElem? hw)
    refine ⟨_, by simp; rfl, ?_⟩
    obtain ⟨Q, hQ⟩ : ∃ Q : F → Prop, Q = IsNx (fun e => ∃ (o4 o5 : Option D), e = [none, some (.ow (.draws s)), some (.im HI), some (.im LO), mI o4, mI o5, none, none, none, none, none, none, none, none]) := ⟨_, rfl⟩
    rw [← hQ]
    simp [IH hw.1 hw.2, IL hw.1 hw.2, lineOk]
    have nob : ∀ r : F, r = r.bind F.nx := fun r => by cases r <;> rfl
    rw [nob (forF _ _ _ _)]
    refine forF_thD (Q := Q) (fun i e => ∃ (o5 : Option D), e = [none, some (.ow (.draws s)), some (.im HI), some (.im LO), some (.im (.int w)), mI o5, none, none, none, none, none, none, none, none]) ⟨o5, rfl⟩ ?_ ?_
    · rintro j d hd e ⟨o5, rfl⟩
      have hd := List.mem_of_getElem? hd
      have bad : okD d ∧ isIntV d (loW w) (hiW w) = false := by
        simp at hd
        rcases hd with rfl | rfl | rfl | rfl | rfl
        · exact ⟨trivial, rfl⟩
        · exact ⟨trivial, by simp [isIntV]; try omega⟩
        · exact ⟨trivial, by simp [isIntV]; try omega⟩
        · exact ⟨trivial, rfl⟩
        · exact ⟨trivial, rfl⟩
      have B := k12_bc hw.1 hw.2 bad.1 bad.2
      refine ⟨_, by simp; rfl, ?_⟩
      simp [B, EC]
    · rintro e ⟨o5, rfl⟩
      rw [hQ]
      exact ⟨_, rfl, some (.int w), o5, rfl⟩
  · rintro e ⟨o4, o5, rfl⟩
    exact t3
theorem law_true (s : DrawSt) (h : goodD s) : ∃ e', b_law.ev (none :: some (Sl.ow (OD.draws s)) :: List.replicate 12 none) = .rt (.bool true) e' := by
  have R1 : fRepL (.list [.int 1]) (.int 12) = some (List.replicate 12 (.int 1)) := by
    have h2 := lk_of (show -100000 ≤ (12 : Int) by decide)
    have h3 := lk_of (show (12 : Int) ≤ 100000 by decide)
    have h4 : lineOk 12 = true := lineOk_of (by decide)
    show (if lk (decide (-100000 ≤ (12 : Int))) && lk (decide ((12 : Int) ≤ 100000)) && lineOk 12 then _ else _) = _
    rw [h2, h3, h4]
    rfl
  have R0 : fRepL (.list [.int 0]) (.int 5) = some (List.replicate 5 (.int 0)) := by
    have h2 := lk_of (show -100000 ≤ (5 : Int) by decide)
    have h3 := lk_of (show (5 : Int) ≤ 100000 by decide)
    have h4 : lineOk 5 = true := lineOk_of (by decide)
    show (if lk (decide (-100000 ≤ (5 : Int))) && lk (decide ((5 : Int) ≤ 100000)) && lineOk 5 then _ else _) = _
    rw [h2, h3, h4]
    rfl
  have t2 := k12_2 h
  show IsRt _ _
  simp [b_law, b_law_1, lineOk, R1, R0, fCat]
  exact t2
end FD
set_option Elab.async false
set_option linter.all false
set_option maxRecDepth 100000
set_option maxHeartbeats 4000000
noncomputable section
namespace FD
open PySem L2 PyProof.Rows PySem.Spec
def topS (i : Nat) : Stmt := PySem.Challenge.pw_firstdigits_k12_more_errors.main.body.getD i (.Pass ⟨0, 0, 0, 0⟩)
abbrev sd_is_int : Stmt := topS 10
abbrev sd_ten_to : Stmt := topS 11
abbrev sd_is_number : Stmt := topS 12
abbrev sd_is_beginning : Stmt := topS 13
abbrev sd_check_number : Stmt := topS 14
abbrev sd_check_beginning : Stmt := topS 15
abbrev sd_check_count : Stmt := topS 16
abbrev sd_check_base : Stmt := topS 17
abbrev sd_scales : Stmt := topS 19
abbrev sd_crosses : Stmt := topS 20
abbrev sd_meets : Stmt := topS 21
abbrev sd_all_meeting : Stmt := topS 22
abbrev sd_size_of : Stmt := topS 24
abbrev sd_first_of : Stmt := topS 25
abbrev sd_begins_of : Stmt := topS 26
abbrev sd_first_digits : Stmt := topS 27
abbrev sd_longer : Stmt := topS 28
abbrev sd_stretch_of : Stmt := topS 30
abbrev sd_stretch : Stmt := topS 31
abbrev sd_number_at : Stmt := topS 32
abbrev sd_squares : Stmt := topS 34
abbrev sd_roots : Stmt := topS 35
abbrev sd_root_from : Stmt := topS 36
abbrev sd_roots_with : Stmt := topS 37
abbrev sd_powers_of : Stmt := topS 39
abbrev sd_places_of : Stmt := topS 40
abbrev sd_check_all : Stmt := topS 41
abbrev sd_power_places : Stmt := topS 42
abbrev sd_first_power : Stmt := topS 43
abbrev sd_waits : Stmt := topS 44
abbrev sd_longest_wait : Stmt := topS 45
abbrev sd_digit_table : Stmt := topS 46
abbrev sd_never : Stmt := topS 47
abbrev sd_powers_with : Stmt := topS 48
abbrev sd_check_step : Stmt := topS 50
abbrev sd_first_of_stretch : Stmt := topS 51
abbrev sd_first_multiple : Stmt := topS 52
abbrev sd_multiple_places : Stmt := topS 53
abbrev sd_count_multiples : Stmt := topS 54
abbrev sd_product_bounds : Stmt := topS 56
abbrev sd_products : Stmt := topS 57
abbrev sd_least_behind : Stmt := topS 59
abbrev sd_product_example : Stmt := topS 58
abbrev sd_sums : Stmt := topS 60
abbrev sd_quotients : Stmt := topS 61
abbrev sd_is_row : Stmt := topS 65
abbrev sd_parts_of : Stmt := topS 66
abbrev sd_text_of : Stmt := topS 67
abbrev sd_format_beginnings : Stmt := topS 68
abbrev sd_law_start : Stmt := topS 70
abbrev sd_law_draw : Stmt := topS 71
abbrev sd_law_pick : Stmt := topS 72
abbrev sd_law_error : Stmt := topS 73
abbrev sd_law_ten : Stmt := topS 74
abbrev sd_law_powers : Stmt := topS 76
abbrev sd_row_first_digits : Stmt := inClass (topS 63) 5
abbrev sd_row_init : Stmt := inClass (topS 63) 0
abbrev sd_law_counted : Stmt := topS 75
abbrev sd_row_grown : Stmt := inClass (topS 63) 1
abbrev sd_row_multiply : Stmt := inClass (topS 63) 2
abbrev sd_law_based : Stmt := topS 77
abbrev sd_law_asked : Stmt := topS 78
abbrev sd_row_add : Stmt := inClass (topS 63) 3
abbrev sd_row_len : Stmt := inClass (topS 63) 8
abbrev sd_row_number : Stmt := inClass (topS 63) 4
abbrev sd_row_undo : Stmt := inClass (topS 63) 7
abbrev sd_law_row : Stmt := topS 79
abbrev sd_law : Stmt := topS 80
structure Txt (K : PySem.W.Frag) (mg : Str → Option Value) (G : Gm) : Prop where
  hG : K = G.K
  n_ValueError : mg "ValueError" = none
  n_all : mg "all" = none
  n_any : mg "any" = none
  n_bool : mg "bool" = none
  n_enumerate : mg "enumerate" = none
  n_int : mg "int" = none
  n_isinstance : mg "isinstance" = none
  n_len : mg "len" = none
  n_list : mg "list" = none
  n_max : mg "max" = none
  n_range : mg "range" = none
  n_str : mg "str" = none
  n_zip : mg "zip" = none
  g_MOST_DIGITS : ∃ t, mg "MOST_DIGITS" = some (.int 60 t)
  g_MOST_POWER : ∃ t, mg "MOST_POWER" = some (.int 300 t)
  e_BadNumber : ExcCls K mg "BadNumber" (G.cls 0) HandSPX.veTail
  e_BadBeginning : ExcCls K mg "BadBeginning" (G.cls 1) HandSPX.veTail
  e_BadCount : ExcCls K mg "BadCount" (G.cls 2) HandSPX.veTail
  e_BadText : ExcCls K mg "BadText" (G.cls 3) HandSPX.veTail
  e_NotFound : ExcCls K mg "NotFound" (G.cls 4) HandSPX.veTail
  dg : Dig G
  rf : RowFacts G
  ef : ExFacts G
  x_BadNumber : mg "BadNumber" = some (.ref (G.cls 0))
  x_BadBeginning : mg "BadBeginning" = some (.ref (G.cls 1))
  x_BadCount : mg "BadCount" = some (.ref (G.cls 2))
  x_BadText : mg "BadText" = some (.ref (G.cls 3))
  x_NotFound : mg "NotFound" = some (.ref (G.cls 4))
  x_DigitError : mg "DigitError" = some (.ref (G.cls 5))
section
variable {P : Program} {w : World} {K : PySem.W.Frag} {mg : Str → Option Value} {base : Heap} {G : Gm}
abbrev N_is_int : List Str := ["value", "low", "high"]
theorem sc_is_int : FnScope N_is_int ["value", "low", "high"] (defScope sd_is_int) := ⟨rfl, rfl, rfl, by decide +kernel, rfl, by decide +kernel, by decide +kernel⟩
theorem ok_is_int {f : Addr} {fd : FuncData} (F : Fun K "is_int" "is_int" sd_is_int f fd) (T : Txt K mg G)  :
    FnOk P w K mg base (L2.CX P w) 1 f fd ["value", "low", "high"] (spOf G 3 f_is_int) :=
  fn_run T.hG F sc_is_int rfl fun cdv A outer s H E hr o hp => (s_one (s_ret (j_andV (j_isTy o T.n_isinstance T.n_int (by decide +kernel) j_var) (j_andV (j_notV (j_isTy o T.n_isinstance T.n_bool (by decide +kernel) j_var)) (j_one (j_leLe j_var j_var j_var))))))
abbrev N_ten_to : List Str := ["exponent", "found", "turn"]
theorem sc_ten_to : FnScope N_ten_to ["exponent"] (defScope sd_ten_to) := ⟨rfl, rfl, rfl, by decide +kernel, rfl, by decide +kernel, by decide +kernel⟩
theorem ok_ten_to {f : Addr} {fd : FuncData} (F : Fun K "ten_to" "ten_to" sd_ten_to f fd) (T : Txt K mg G)  :
    FnOk P w K mg base (L2.CX P w) 1 f fd ["exponent"] (spOf G 1 f_ten_to) :=
  fn_run T.hG F sc_ten_to rfl fun cdv A outer s H E hr o hp => (s_cons (s_asg o j_int)
    (s_cons (s_for o hp (i_rng1 T.n_range j_var) (g_nm sc_ten_to.nd) (s_one (s_augMul o j_int)))
    (s_one (s_ret j_var))))
abbrev N_is_number : List Str := ["value"]
theorem sc_is_number : FnScope N_is_number ["value"] (defScope sd_is_number) := ⟨rfl, rfl, rfl, by decide +kernel, rfl, by decide +kernel, by decide +kernel⟩
theorem ok_is_number {f : Addr} {fd : FuncData} (F : Fun K "is_number" "is_number" sd_is_number f fd) (T : Txt K mg G) (C_is_int : Callee P w K mg base "is_int" 1 (spOf G 3 f_is_int)) (C_ten_to : Callee P w K mg base "ten_to" 1 (spOf G 1 f_ten_to)) :
    FnOk P w K mg base (L2.CX P w) 2 f fd ["value"] (spOf G 1 f_is_number) :=
  fn_run T.hG F sc_is_number rfl fun cdv A outer s H E hr o hp => (s_one (s_ret (j_call C_is_int o (hr.mono (by decide)) (j_cons j_var (j_cons j_int (j_cons (j_sub (j_call C_ten_to o (hr.mono (by decide)) (j_cons (j_globI T.g_MOST_DIGITS) j_nil)) j_int) j_nil))))))
abbrev N_is_beginning : List Str := ["value"]
theorem sc_is_beginning : FnScope N_is_beginning ["value"] (defScope sd_is_beginning) := ⟨rfl, rfl, rfl, by decide +kernel, rfl, by decide +kernel, by decide +kernel⟩
theorem ok_is_beginning {f : Addr} {fd : FuncData} (F : Fun K "is_beginning" "is_beginning" sd_is_beginning f fd) (T : Txt K mg G) (C_is_int : Callee P w K mg base "is_int" 1 (spOf G 3 f_is_int)) :
    FnOk P w K mg base (L2.CX P w) 2 f fd ["value"] (spOf G 1 f_is_beginning) :=
  fn_run T.hG F sc_is_beginning rfl fun cdv A outer s H E hr o hp => (s_one (s_ret (j_call C_is_int o (hr.mono (by decide)) (j_cons j_var (j_cons j_int (j_cons j_int j_nil))))))
abbrev N_check_number : List Str := ["value"]
theorem sc_check_number : FnScope N_check_number ["value"] (defScope sd_check_number) := ⟨rfl, rfl, rfl, by decide +kernel, rfl, by decide +kernel, by decide +kernel⟩
theorem ok_check_number {f : Addr} {fd : FuncData} (F : Fun K "check_number" "check_number" sd_check_number f fd) (T : Txt K mg G) (C_is_number : Callee P w K mg base "is_number" 2 (spOf G 1 f_is_number)) :
    FnOk P w K mg base (L2.CX P w) 3 f fd ["value"] (spOf G 1 f_check_number) :=
  fn_run T.hG F sc_check_number rfl fun cdv A outer s H E hr o hp => (s_one (s_ite (t_not (j_val (j_call C_is_number o (hr.mono (by decide)) (j_cons j_var j_nil)))) (s_one (s_raise o T.e_BadNumber)) s_nil))
abbrev N_check_beginning : List Str := ["value"]
theorem sc_check_beginning : FnScope N_check_beginning ["value"] (defScope sd_check_beginning) := ⟨rfl, rfl, rfl, by decide +kernel, rfl, by decide +kernel, by decide +kernel⟩
theorem ok_check_beginning {f : Addr} {fd : FuncData} (F : Fun K "check_beginning" "check_beginning" sd_check_beginning f fd) (T : Txt K mg G) (C_is_beginning : Callee P w K mg base "is_beginning" 2 (spOf G 1 f_is_beginning)) :
    FnOk P w K mg base (L2.CX P w) 3 f fd ["value"] (spOf G 1 f_check_beginning) :=
  fn_run T.hG F sc_check_beginning rfl fun cdv A outer s H E hr o hp => (s_one (s_ite (t_not (j_val (j_call C_is_beginning o (hr.mono (by decide)) (j_cons j_var j_nil)))) (s_one (s_raise o T.e_BadBeginning)) s_nil))
abbrev N_check_count : List Str := ["value", "low", "high"]
theorem sc_check_count : FnScope N_check_count ["value", "low", "high"] (defScope sd_check_count) := ⟨rfl, rfl, rfl, by decide +kernel, rfl, by decide +kernel, by decide +kernel⟩
theorem ok_check_count {f : Addr} {fd : FuncData} (F : Fun K "check_count" "check_count" sd_check_count f fd) (T : Txt K mg G) (C_is_int : Callee P w K mg base "is_int" 1 (spOf G 3 f_is_int)) :
    FnOk P w K mg base (L2.CX P w) 2 f fd ["value", "low", "high"] (spOf G 3 f_check_count) :=
  fn_run T.hG F sc_check_count rfl fun cdv A outer s H E hr o hp => (s_one (s_ite (t_not (j_val (j_call C_is_int o (hr.mono (by decide)) (j_cons j_var (j_cons j_var (j_cons j_var j_nil)))))) (s_one (s_raise o T.e_BadCount)) s_nil))
abbrev N_check_base : List Str := ["value"]
theorem sc_check_base : FnScope N_check_base ["value"] (defScope sd_check_base) := ⟨rfl, rfl, rfl, by decide +kernel, rfl, by decide +kernel, by decide +kernel⟩
theorem ok_check_base {f : Addr} {fd : FuncData} (F : Fun K "check_base" "check_base" sd_check_base f fd) (T : Txt K mg G) (C_is_int : Callee P w K mg base "is_int" 1 (spOf G 3 f_is_int)) :
    FnOk P w K mg base (L2.CX P w) 2 f fd ["value"] (spOf G 1 f_check_base) :=
  fn_run T.hG F sc_check_base rfl fun cdv A outer s H E hr o hp => (s_one (s_ite (t_not (j_val (j_call C_is_int o (hr.mono (by decide)) (j_cons j_var (j_cons j_int (j_cons j_int j_nil)))))) (s_one (s_raise o T.e_BadNumber)) s_nil))
abbrev N_scales : List Str := ["found", "shift"]
theorem sc_scales : FnScope N_scales [] (defScope sd_scales) := ⟨rfl, rfl, rfl, by decide +kernel, rfl, by decide +kernel, by decide +kernel⟩
theorem ok_scales {f : Addr} {fd : FuncData} (F : Fun K "scales" "scales" sd_scales f fd) (T : Txt K mg G) (C_ten_to : Callee P w K mg base "ten_to" 1 (spOf G 1 f_ten_to)) :
    FnOk P w K mg base (L2.CX P w) 2 f fd [] (spOf G 0 f_scales) :=
  fn_run T.hG F sc_scales rfl fun cdv A outer s H E hr o hp => (s_cons (s_setLc o (i_rng3 T.n_range j_int j_int (j_neg j_int)) (blkOk_by (own := [("shift", 1)]) (N := N_scales) (sc := defScope sd_scales) (by decide +kernel)) (fun s H C cl fp o => g_nm sc_scales.nd) (fun s H C cl fp o => t_none) (fun s H C cl fp o => (j_tup (j_cons j_int (j_cons (j_call C_ten_to o (hr.mono (by decide)) (j_cons j_var j_nil)) j_nil)))))
    (s_one (s_ret (j_cat j_var (j_ofL (j_lc o (i_rng1 T.n_range j_int) (blkOk_by (own := [("shift", 1)]) (N := N_scales) (sc := defScope sd_scales) (by decide +kernel)) (fun s H C cl fp o => g_nm sc_scales.nd) (fun s H C cl fp o => t_none) (fun s H C cl fp o => (j_tup (j_cons (j_call C_ten_to o (hr.mono (by decide)) (j_cons j_var j_nil)) (j_cons j_int j_nil))))))))))
abbrev N_crosses : List Str := ["low", "high", "first", "last", "scale", "above", "below"]
theorem sc_crosses : FnScope N_crosses ["low", "high", "first", "last", "scale"] (defScope sd_crosses) := ⟨rfl, rfl, rfl, by decide +kernel, rfl, by decide +kernel, by decide +kernel⟩
theorem ok_crosses {f : Addr} {fd : FuncData} (F : Fun K "crosses" "crosses" sd_crosses f fd) (T : Txt K mg G)  :
    FnOk P w K mg base (L2.CX P w) 1 f fd ["low", "high", "first", "last", "scale"] (spOf G 5 f_crosses) :=
  fn_run T.hG F sc_crosses rfl fun cdv A outer s H E hr o hp => (s_cons (s_asgT j_var (g_tup o (g_n1 sc_crosses.nd (g_n1 sc_crosses.nd g_n0))))
    (s_one (s_ret (j_andV (j_lt (j_mul (j_mul j_var j_var) (j_ix o j_var j_int)) (j_mul (j_ix o j_var j_int) j_var)) (j_one (j_lt (j_mul (j_ix o j_var j_int) j_var) (j_mul (j_mul j_var j_var) (j_ix o j_var j_int))))))))
abbrev N_meets : List Str := ["low", "high", "one", "scale"]
theorem sc_meets : FnScope N_meets ["low", "high", "one"] (defScope sd_meets) := ⟨rfl, rfl, rfl, by decide +kernel, rfl, by decide +kernel, by decide +kernel⟩
theorem ok_meets {f : Addr} {fd : FuncData} (F : Fun K "meets" "meets" sd_meets f fd) (T : Txt K mg G) (C_crosses : Callee P w K mg base "crosses" 1 (spOf G 5 f_crosses)) (C_scales : Callee P w K mg base "scales" 2 (spOf G 0 f_scales)) :
    FnOk P w K mg base (L2.CX P w) 3 f fd ["low", "high", "one"] (spOf G 3 f_meets) :=
  fn_run T.hG F sc_meets rfl fun cdv A outer s H E hr o hp => (s_one (s_ret (j_cb (c_any o) T.n_any (by decide +kernel) (j_cons (j_ofL (j_lc o (i_list o (j_call0 C_scales o (hr.mono (by decide)))) (blkOk_by (own := [("scale", 3)]) (N := N_meets) (sc := defScope sd_meets) (by decide +kernel)) (fun s H C cl fp o => g_nm sc_meets.nd) (fun s H C cl fp o => t_none) (fun s H C cl fp o => (j_call C_crosses o (hr.mono (by decide)) (j_cons j_var (j_cons j_var (j_cons j_var (j_cons (j_add j_var j_int) (j_cons j_var j_nil))))))))) j_nil))))
abbrev N_all_meeting : List Str := ["low", "high", "many", "first", "last", "useful", "found", "one", "scale"]
theorem sc_all_meeting : FnScope N_all_meeting ["low", "high", "many"] (defScope sd_all_meeting) := ⟨rfl, rfl, rfl, by decide +kernel, rfl, by decide +kernel, by decide +kernel⟩
theorem ok_all_meeting {f : Addr} {fd : FuncData} (F : Fun K "all_meeting" "all_meeting" sd_all_meeting f fd) (T : Txt K mg G) (C_ten_to : Callee P w K mg base "ten_to" 1 (spOf G 1 f_ten_to)) (C_scales : Callee P w K mg base "scales" 2 (spOf G 0 f_scales)) (C_crosses : Callee P w K mg base "crosses" 1 (spOf G 5 f_crosses)) :
    FnOk P w K mg base (L2.CX P w) 3 f fd ["low", "high", "many"] (spOf G 3 f_all_meeting) :=
  fn_run T.hG F sc_all_meeting rfl fun cdv A outer s H E hr o hp => (s_cons (s_asgT (j_tup (j_cons (j_call C_ten_to o (hr.mono (by decide)) (j_cons (j_sub j_var j_int) j_nil)) (j_cons (j_call C_ten_to o (hr.mono (by decide)) (j_cons j_var j_nil)) j_nil))) (g_tup o (g_n1 sc_all_meeting.nd (g_n1 sc_all_meeting.nd g_n0))))
    (s_cons (s_setLc o (i_list o (j_call0 C_scales o (hr.mono (by decide)))) (blkOk_by (own := [("scale", 8)]) (N := N_all_meeting) (sc := defScope sd_all_meeting) (by decide +kernel)) (fun s H C cl fp o => g_nm sc_all_meeting.nd) (fun s H C cl fp o => t_one (j_val (j_call C_crosses o (hr.mono (by decide)) (j_cons j_var (j_cons j_var (j_cons j_var (j_cons j_var (j_cons j_var j_nil)))))))) (fun s H C cl fp o => j_var))
    (s_cons (s_asgOw o (j_disp j_nil))
    (s_cons (s_for o hp (i_rng2 T.n_range j_var j_var) (g_nm sc_all_meeting.nd) (s_one (s_ite (j_val (j_cb (c_any o) T.n_any (by decide +kernel) (j_cons (j_ofL (j_lc o (i_list o j_var) (blkOk_by (own := [("scale", 8)]) (N := N_all_meeting) (sc := defScope sd_all_meeting) (by decide +kernel)) (fun s H C cl fp o => g_nm sc_all_meeting.nd) (fun s H C cl fp o => t_none) (fun s H C cl fp o => (j_call C_crosses o (hr.mono (by decide)) (j_cons j_var (j_cons j_var (j_cons j_var (j_cons (j_add j_var j_int) (j_cons j_var j_nil))))))))) j_nil))) (s_one (s_append o j_var j_var)) s_nil)))
    (s_freeze (s_one (s_ret j_var)))))))
abbrev N_size_of : List Str := ["number"]
theorem sc_size_of : FnScope N_size_of ["number"] (defScope sd_size_of) := ⟨rfl, rfl, rfl, by decide +kernel, rfl, by decide +kernel, by decide +kernel⟩
theorem ok_size_of {f : Addr} {fd : FuncData} (F : Fun K "size_of" "size_of" sd_size_of f fd) (T : Txt K mg G)  :
    FnOk P w K mg base (L2.CX P w) 1 f fd ["number"] (spOf G 1 f_size_of) :=
  fn_run T.hG F sc_size_of rfl fun cdv A outer s H E hr o hp => (s_one (s_ret (j_cb (c_len o) T.n_len (by decide +kernel) (j_cons (j_strI o T.dg T.n_str (j_cons j_var j_nil)) j_nil))))
abbrev N_first_of : List Str := ["number", "many"]
theorem sc_first_of : FnScope N_first_of ["number", "many"] (defScope sd_first_of) := ⟨rfl, rfl, rfl, by decide +kernel, rfl, by decide +kernel, by decide +kernel⟩
theorem ok_first_of {f : Addr} {fd : FuncData} (F : Fun K "first_of" "first_of" sd_first_of f fd) (T : Txt K mg G)  :
    FnOk P w K mg base (L2.CX P w) 1 f fd ["number", "many"] (spOf G 2 f_first_of) :=
  fn_run T.hG F sc_first_of rfl fun cdv A outer s H E hr o hp => (s_one (s_ret (j_cty call_int_str T.n_int (by decide +kernel) (j_cons (j_sliceS (j_strI o T.dg T.n_str (j_cons j_var j_nil)) j_pn (j_po j_var)) j_nil))))
abbrev N_begins_of : List Str := ["number", "beginning"]
theorem sc_begins_of : FnScope N_begins_of ["number", "beginning"] (defScope sd_begins_of) := ⟨rfl, rfl, rfl, by decide +kernel, rfl, by decide +kernel, by decide +kernel⟩
theorem ok_begins_of {f : Addr} {fd : FuncData} (F : Fun K "begins_of" "begins_of" sd_begins_of f fd) (T : Txt K mg G) (C_size_of : Callee P w K mg base "size_of" 1 (spOf G 1 f_size_of)) :
    FnOk P w K mg base (L2.CX P w) 2 f fd ["number", "beginning"] (spOf G 2 f_begins_of) :=
  fn_run T.hG F sc_begins_of rfl fun cdv A outer s H E hr o hp => (s_one (s_ret (j_eq o (j_sliceS (j_strI o T.dg T.n_str (j_cons j_var j_nil)) j_pn (j_po (j_call C_size_of o (hr.mono (by decide)) (j_cons j_var j_nil)))) (j_strI o T.dg T.n_str (j_cons j_var j_nil)))))
abbrev N_first_digits : List Str := ["number", "many"]
theorem sc_first_digits : FnScope N_first_digits ["number", "many"] (defScope sd_first_digits) := ⟨rfl, rfl, rfl, by decide +kernel, rfl, by decide +kernel, by decide +kernel⟩
theorem ok_first_digits {f : Addr} {fd : FuncData} (F : Fun K "first_digits" "first_digits" sd_first_digits f fd) (T : Txt K mg G) (C_check_number : Callee P w K mg base "check_number" 3 (spOf G 1 f_check_number)) (C_check_count : Callee P w K mg base "check_count" 2 (spOf G 3 f_check_count)) (C_first_of : Callee P w K mg base "first_of" 1 (spOf G 2 f_first_of)) :
    FnOk P w K mg base (L2.CX P w) 4 f fd ["number", "many"] (spOf G 2 f_first_digits) :=
  fn_run T.hG F sc_first_digits rfl fun cdv A outer s H E hr o hp => (s_cons (s_expr (j_call C_check_number o (hr.mono (by decide)) (j_cons j_var j_nil)))
    (s_cons (s_expr (j_call C_check_count o (hr.mono (by decide)) (j_cons j_var (j_cons j_int (j_cons j_int j_nil)))))
    (s_one (s_ret (j_call C_first_of o (hr.mono (by decide)) (j_cons j_var (j_cons j_var j_nil)))))))
abbrev N_longer : List Str := ["beginning", "many", "more"]
theorem sc_longer : FnScope N_longer ["beginning", "many"] (defScope sd_longer) := ⟨rfl, rfl, rfl, by decide +kernel, rfl, by decide +kernel, by decide +kernel⟩
theorem ok_longer {f : Addr} {fd : FuncData} (F : Fun K "longer" "longer" sd_longer f fd) (T : Txt K mg G) (C_check_beginning : Callee P w K mg base "check_beginning" 3 (spOf G 1 f_check_beginning)) (C_check_count : Callee P w K mg base "check_count" 2 (spOf G 3 f_check_count)) (C_size_of : Callee P w K mg base "size_of" 1 (spOf G 1 f_size_of)) (C_ten_to : Callee P w K mg base "ten_to" 1 (spOf G 1 f_ten_to)) :
    FnOk P w K mg base (L2.CX P w) 4 f fd ["beginning", "many"] (spOf G 2 f_longer) :=
  fn_run T.hG F sc_longer rfl fun cdv A outer s H E hr o hp => (s_cons (s_expr (j_call C_check_beginning o (hr.mono (by decide)) (j_cons j_var j_nil)))
    (s_cons (s_expr (j_call C_check_count o (hr.mono (by decide)) (j_cons j_var (j_cons j_int (j_cons j_int j_nil)))))
    (s_cons (s_asg o (j_sub j_var (j_call C_size_of o (hr.mono (by decide)) (j_cons j_var j_nil))))
    (s_cons (s_ite (t_lt j_var j_int) (s_one (s_ret (j_lst j_nil))) s_nil)
    (s_one (s_ret (j_ofL (j_listRg2 o T.n_list T.n_range (j_mul j_var (j_call C_ten_to o (hr.mono (by decide)) (j_cons j_var j_nil))) (j_mul (j_add j_var j_int) (j_call C_ten_to o (hr.mono (by decide)) (j_cons j_var j_nil)))))))))))
abbrev N_stretch_of : List Str := ["beginning", "count", "more"]
theorem sc_stretch_of : FnScope N_stretch_of ["beginning", "count"] (defScope sd_stretch_of) := ⟨rfl, rfl, rfl, by decide +kernel, rfl, by decide +kernel, by decide +kernel⟩
theorem ok_stretch_of {f : Addr} {fd : FuncData} (F : Fun K "stretch_of" "stretch_of" sd_stretch_of f fd) (T : Txt K mg G) (C_ten_to : Callee P w K mg base "ten_to" 1 (spOf G 1 f_ten_to)) (C_size_of : Callee P w K mg base "size_of" 1 (spOf G 1 f_size_of)) :
    FnOk P w K mg base (L2.CX P w) 2 f fd ["beginning", "count"] (spOf G 2 f_stretch_of) :=
  fn_run T.hG F sc_stretch_of rfl fun cdv A outer s H E hr o hp => (s_cons (s_asg o (j_call C_ten_to o (hr.mono (by decide)) (j_cons (j_sub j_var (j_call C_size_of o (hr.mono (by decide)) (j_cons j_var j_nil))) j_nil)))
    (s_one (s_ret (j_tup (j_cons (j_mul j_var j_var) (j_cons (j_sub (j_mul (j_add j_var j_int) j_var) j_int) j_nil))))))
abbrev N_stretch : List Str := ["beginning", "count"]
theorem sc_stretch : FnScope N_stretch ["beginning", "count"] (defScope sd_stretch) := ⟨rfl, rfl, rfl, by decide +kernel, rfl, by decide +kernel, by decide +kernel⟩
theorem ok_stretch {f : Addr} {fd : FuncData} (F : Fun K "stretch" "stretch" sd_stretch f fd) (T : Txt K mg G) (C_check_beginning : Callee P w K mg base "check_beginning" 3 (spOf G 1 f_check_beginning)) (C_check_count : Callee P w K mg base "check_count" 2 (spOf G 3 f_check_count)) (C_stretch_of : Callee P w K mg base "stretch_of" 2 (spOf G 2 f_stretch_of)) (C_size_of : Callee P w K mg base "size_of" 1 (spOf G 1 f_size_of)) :
    FnOk P w K mg base (L2.CX P w) 4 f fd ["beginning", "count"] (spOf G 2 f_stretch) :=
  fn_run T.hG F sc_stretch rfl fun cdv A outer s H E hr o hp => (s_cons (s_expr (j_call C_check_beginning o (hr.mono (by decide)) (j_cons j_var j_nil)))
    (s_cons (s_expr (j_call C_check_count o (hr.mono (by decide)) (j_cons j_var (j_cons j_int (j_cons (j_globI T.g_MOST_DIGITS) j_nil)))))
    (s_cons (s_ite (t_lt j_var (j_call C_size_of o (hr.mono (by decide)) (j_cons j_var j_nil))) (s_one (s_raise o T.e_NotFound)) s_nil)
    (s_one (s_ret (j_call C_stretch_of o (hr.mono (by decide)) (j_cons j_var (j_cons j_var j_nil))))))))
abbrev N_number_at : List Str := ["beginning", "rank", "left", "more"]
theorem sc_number_at : FnScope N_number_at ["beginning", "rank"] (defScope sd_number_at) := ⟨rfl, rfl, rfl, by decide +kernel, rfl, by decide +kernel, by decide +kernel⟩
theorem ok_number_at {f : Addr} {fd : FuncData} (F : Fun K "number_at" "number_at" sd_number_at f fd) (T : Txt K mg G) (C_check_beginning : Callee P w K mg base "check_beginning" 3 (spOf G 1 f_check_beginning)) (C_check_count : Callee P w K mg base "check_count" 2 (spOf G 3 f_check_count)) (C_ten_to : Callee P w K mg base "ten_to" 1 (spOf G 1 f_ten_to)) :
    FnOk P w K mg base (L2.CX P w) 4 f fd ["beginning", "rank"] (spOf G 2 f_number_at) :=
  fn_run T.hG F sc_number_at rfl fun cdv A outer s H E hr o hp => (s_cons (s_expr (j_call C_check_beginning o (hr.mono (by decide)) (j_cons j_var j_nil)))
    (s_cons (s_expr (j_call C_check_count o (hr.mono (by decide)) (j_cons j_var (j_cons j_int (j_cons j_int j_nil)))))
    (s_cons (s_par o j_var j_int)
    (s_cons (s_whl hp (t_ge j_var (j_call C_ten_to o (hr.mono (by decide)) (j_cons j_var j_nil))) (s_cons (s_augSub o (j_call C_ten_to o (hr.mono (by decide)) (j_cons j_var j_nil)))
    (s_one (s_augAdd o j_int))))
    (s_one (s_ret (j_add (j_mul j_var (j_call C_ten_to o (hr.mono (by decide)) (j_cons j_var j_nil))) j_var)))))))
abbrev N_squares : List Str := ["beginning", "many"]
theorem sc_squares : FnScope N_squares ["beginning", "many"] (defScope sd_squares) := ⟨rfl, rfl, rfl, by decide +kernel, rfl, by decide +kernel, by decide +kernel⟩
theorem ok_squares {f : Addr} {fd : FuncData} (F : Fun K "squares" "squares" sd_squares f fd) (T : Txt K mg G) (C_check_beginning : Callee P w K mg base "check_beginning" 3 (spOf G 1 f_check_beginning)) (C_check_count : Callee P w K mg base "check_count" 2 (spOf G 3 f_check_count)) (C_all_meeting : Callee P w K mg base "all_meeting" 3 (spOf G 3 f_all_meeting)) :
    FnOk P w K mg base (L2.CX P w) 4 f fd ["beginning", "many"] (spOf G 2 f_squares) :=
  fn_run T.hG F sc_squares rfl fun cdv A outer s H E hr o hp => (s_cons (s_expr (j_call C_check_beginning o (hr.mono (by decide)) (j_cons j_var j_nil)))
    (s_cons (s_expr (j_call C_check_count o (hr.mono (by decide)) (j_cons j_var (j_cons j_int (j_cons j_int j_nil)))))
    (s_one (s_ret (j_call C_all_meeting o (hr.mono (by decide)) (j_cons (j_tup (j_cons (j_mul j_var j_var) (j_cons j_int j_nil))) (j_cons (j_tup (j_cons (j_mul (j_add j_var j_int) (j_add j_var j_int)) (j_cons j_int j_nil))) (j_cons j_var j_nil))))))))
abbrev N_roots : List Str := ["beginning", "many", "found", "used", "one", "low", "high", "scale"]
theorem sc_roots : FnScope N_roots ["beginning", "many"] (defScope sd_roots) := ⟨rfl, rfl, rfl, by decide +kernel, rfl, by decide +kernel, by decide +kernel⟩
theorem ok_roots {f : Addr} {fd : FuncData} (F : Fun K "roots" "roots" sd_roots f fd) (T : Txt K mg G) (C_check_beginning : Callee P w K mg base "check_beginning" 3 (spOf G 1 f_check_beginning)) (C_check_count : Callee P w K mg base "check_count" 2 (spOf G 3 f_check_count)) (C_scales : Callee P w K mg base "scales" 2 (spOf G 0 f_scales)) (C_ten_to : Callee P w K mg base "ten_to" 1 (spOf G 1 f_ten_to)) (C_crosses : Callee P w K mg base "crosses" 1 (spOf G 5 f_crosses)) :
    FnOk P w K mg base (L2.CX P w) 4 f fd ["beginning", "many"] (spOf G 2 f_roots) :=
  fn_run T.hG F sc_roots rfl fun cdv A outer s H E hr o hp => (s_cons (s_expr (j_call C_check_beginning o (hr.mono (by decide)) (j_cons j_var j_nil)))
    (s_cons (s_expr (j_call C_check_count o (hr.mono (by decide)) (j_cons j_var (j_cons j_int (j_cons j_int j_nil)))))
    (s_cons (s_parOw o (j_disp j_nil) (j_call0 C_scales o (hr.mono (by decide))))
    (s_cons (s_for o hp (i_rng2 T.n_range (j_call C_ten_to o (hr.mono (by decide)) (j_cons (j_sub j_var j_int) j_nil)) (j_call C_ten_to o (hr.mono (by decide)) (j_cons j_var j_nil))) (g_nm sc_roots.nd) (s_cons (s_asgT (j_tup (j_cons (j_tup (j_cons (j_mul j_var j_var) (j_cons j_int j_nil))) (j_cons (j_tup (j_cons (j_mul (j_add j_var j_int) (j_add j_var j_int)) (j_cons j_int j_nil))) j_nil))) (g_tup o (g_n1 sc_roots.nd (g_n1 sc_roots.nd g_n0))))
    (s_one (s_ite (j_val (j_cb (c_any o) T.n_any (by decide +kernel) (j_cons (j_ofL (j_lc o (i_list o j_var) (blkOk_by (own := [("scale", 7)]) (N := N_roots) (sc := defScope sd_roots) (by decide +kernel)) (fun s H C cl fp o => g_nm sc_roots.nd) (fun s H C cl fp o => t_none) (fun s H C cl fp o => (j_call C_crosses o (hr.mono (by decide)) (j_cons j_var (j_cons j_var (j_cons j_var (j_cons (j_add j_var j_int) (j_cons j_var j_nil))))))))) j_nil))) (s_one (s_append o j_var j_var)) s_nil))))
    (s_freeze (s_one (s_ret j_var)))))))
abbrev N_root_from : List Str := ["number", "low", "high", "middle"]
theorem sc_root_from : FnScope N_root_from ["number"] (defScope sd_root_from) := ⟨rfl, rfl, rfl, by decide +kernel, rfl, by decide +kernel, by decide +kernel⟩
theorem ok_root_from {f : Addr} {fd : FuncData} (F : Fun K "root_from" "root_from" sd_root_from f fd) (T : Txt K mg G)  :
    FnOk P w K mg base (L2.CX P w) 1 f fd ["number"] (spOf G 1 f_root_from) :=
  fn_run T.hG F sc_root_from rfl fun cdv A outer s H E hr o hp => (s_cons (s_par o j_int j_var)
    (s_cons (s_whl hp (t_gt (j_sub j_var j_var) j_int) (s_cons (s_asg o (j_div (j_add j_var j_var) j_int))
    (s_one (s_ite (t_lt (j_mul j_var j_var) j_var) (s_one (s_asg o j_var)) (s_one (s_asg o j_var))))))
    (s_one (s_ret j_var))))
abbrev N_roots_with : List Str := ["beginning", "count", "first", "last", "low", "high"]
theorem sc_roots_with : FnScope N_roots_with ["beginning", "count"] (defScope sd_roots_with) := ⟨rfl, rfl, rfl, by decide +kernel, rfl, by decide +kernel, by decide +kernel⟩
theorem ok_roots_with {f : Addr} {fd : FuncData} (F : Fun K "roots_with" "roots_with" sd_roots_with f fd) (T : Txt K mg G) (C_check_beginning : Callee P w K mg base "check_beginning" 3 (spOf G 1 f_check_beginning)) (C_check_count : Callee P w K mg base "check_count" 2 (spOf G 3 f_check_count)) (C_stretch_of : Callee P w K mg base "stretch_of" 2 (spOf G 2 f_stretch_of)) (C_root_from : Callee P w K mg base "root_from" 1 (spOf G 1 f_root_from)) :
    FnOk P w K mg base (L2.CX P w) 4 f fd ["beginning", "count"] (spOf G 2 f_roots_with) :=
  fn_run T.hG F sc_roots_with rfl fun cdv A outer s H E hr o hp => (s_cons (s_expr (j_call C_check_beginning o (hr.mono (by decide)) (j_cons j_var j_nil)))
    (s_cons (s_expr (j_call C_check_count o (hr.mono (by decide)) (j_cons j_var (j_cons j_int (j_cons j_int j_nil)))))
    (s_cons (s_ite (t_lt j_var (j_cb (c_len o) T.n_len (by decide +kernel) (j_cons (j_strI o T.dg T.n_str (j_cons j_var j_nil)) j_nil))) (s_one (s_raise o T.e_NotFound)) s_nil)
    (s_cons (s_asgT (j_call C_stretch_of o (hr.mono (by decide)) (j_cons j_var (j_cons j_var j_nil))) (g_tup o (g_n1 sc_roots_with.nd (g_n1 sc_roots_with.nd g_n0))))
    (s_cons (s_par o (j_call C_root_from o (hr.mono (by decide)) (j_cons j_var j_nil)) (j_sub (j_call C_root_from o (hr.mono (by decide)) (j_cons (j_add j_var j_int) j_nil)) j_int))
    (s_cons (s_ite (t_gt j_var j_var) (s_one (s_raise o T.e_NotFound)) s_nil)
    (s_one (s_ret (j_tup (j_cons j_var (j_cons j_var j_nil)))))))))))
abbrev N_powers_of : List Str := ["base", "most", "found", "turn"]
theorem sc_powers_of : FnScope N_powers_of ["base", "most"] (defScope sd_powers_of) := ⟨rfl, rfl, rfl, by decide +kernel, rfl, by decide +kernel, by decide +kernel⟩
theorem ok_powers_of {f : Addr} {fd : FuncData} (F : Fun K "powers_of" "powers_of" sd_powers_of f fd) (T : Txt K mg G)  :
    FnOk P w K mg base (L2.CX P w) 1 f fd ["base", "most"] (spOf G 2 f_powers_of) :=
  fn_run T.hG F sc_powers_of rfl fun cdv A outer s H E hr o hp => (s_cons (s_asgOw o (j_disp (j_cons j_int j_nil)))
    (s_cons (s_for o hp (i_rng1 T.n_range j_var) (g_nm sc_powers_of.nd) (s_one (s_append o j_var (j_mul (j_ownIx o j_var (j_neg j_int)) j_var))))
    (s_freeze (s_one (s_ret j_var)))))
abbrev N_places_of : List Str := ["base", "beginning", "most", "place", "number"]
theorem sc_places_of : FnScope N_places_of ["base", "beginning", "most"] (defScope sd_places_of) := ⟨rfl, rfl, rfl, by decide +kernel, rfl, by decide +kernel, by decide +kernel⟩
theorem ok_places_of {f : Addr} {fd : FuncData} (F : Fun K "places_of" "places_of" sd_places_of f fd) (T : Txt K mg G) (C_begins_of : Callee P w K mg base "begins_of" 2 (spOf G 2 f_begins_of)) (C_powers_of : Callee P w K mg base "powers_of" 1 (spOf G 2 f_powers_of)) :
    FnOk P w K mg base (L2.CX P w) 3 f fd ["base", "beginning", "most"] (spOf G 3 f_places_of) :=
  fn_run T.hG F sc_places_of rfl fun cdv A outer s H E hr o hp => (s_one (s_ret (j_ofL (j_lc o (i_enum o T.n_enumerate (j_call C_powers_of o (hr.mono (by decide)) (j_cons j_var (j_cons j_var j_nil)))) (blkOk_by (own := [("place", 3), ("number", 4)]) (N := N_places_of) (sc := defScope sd_places_of) (by decide +kernel)) (fun s H C cl fp o => g_tup o (g_n1 sc_places_of.nd (g_n1 sc_places_of.nd g_n0))) (fun s H C cl fp o => t_one (j_val (j_call C_begins_of o (hr.mono (by decide)) (j_cons j_var (j_cons j_var j_nil))))) (fun s H C cl fp o => j_var)))))
abbrev N_check_all : List Str := ["base", "beginning", "most"]
theorem sc_check_all : FnScope N_check_all ["base", "beginning", "most"] (defScope sd_check_all) := ⟨rfl, rfl, rfl, by decide +kernel, rfl, by decide +kernel, by decide +kernel⟩
theorem ok_check_all {f : Addr} {fd : FuncData} (F : Fun K "check_all" "check_all" sd_check_all f fd) (T : Txt K mg G) (C_check_base : Callee P w K mg base "check_base" 2 (spOf G 1 f_check_base)) (C_check_beginning : Callee P w K mg base "check_beginning" 3 (spOf G 1 f_check_beginning)) (C_check_count : Callee P w K mg base "check_count" 2 (spOf G 3 f_check_count)) :
    FnOk P w K mg base (L2.CX P w) 4 f fd ["base", "beginning", "most"] (spOf G 3 f_check_all) :=
  fn_run T.hG F sc_check_all rfl fun cdv A outer s H E hr o hp => (s_cons (s_expr (j_call C_check_base o (hr.mono (by decide)) (j_cons j_var j_nil)))
    (s_cons (s_expr (j_call C_check_beginning o (hr.mono (by decide)) (j_cons j_var j_nil)))
    (s_one (s_expr (j_call C_check_count o (hr.mono (by decide)) (j_cons j_var (j_cons j_int (j_cons (j_globI T.g_MOST_POWER) j_nil))))))))
abbrev N_power_places : List Str := ["base", "beginning", "most"]
theorem sc_power_places : FnScope N_power_places ["base", "beginning", "most"] (defScope sd_power_places) := ⟨rfl, rfl, rfl, by decide +kernel, rfl, by decide +kernel, by decide +kernel⟩
theorem ok_power_places {f : Addr} {fd : FuncData} (F : Fun K "power_places" "power_places" sd_power_places f fd) (T : Txt K mg G) (C_check_all : Callee P w K mg base "check_all" 4 (spOf G 3 f_check_all)) (C_places_of : Callee P w K mg base "places_of" 3 (spOf G 3 f_places_of)) :
    FnOk P w K mg base (L2.CX P w) 5 f fd ["base", "beginning", "most"] (spOf G 3 f_power_places) :=
  fn_run T.hG F sc_power_places rfl fun cdv A outer s H E hr o hp => (s_cons (s_expr (j_call C_check_all o (hr.mono (by decide)) (j_cons j_var (j_cons j_var (j_cons j_var j_nil)))))
    (s_one (s_ret (j_call C_places_of o (hr.mono (by decide)) (j_cons j_var (j_cons j_var (j_cons j_var j_nil)))))))
abbrev N_first_power : List Str := ["base", "beginning", "most", "found"]
theorem sc_first_power : FnScope N_first_power ["base", "beginning", "most"] (defScope sd_first_power) := ⟨rfl, rfl, rfl, by decide +kernel, rfl, by decide +kernel, by decide +kernel⟩
theorem ok_first_power {f : Addr} {fd : FuncData} (F : Fun K "first_power" "first_power" sd_first_power f fd) (T : Txt K mg G) (C_check_all : Callee P w K mg base "check_all" 4 (spOf G 3 f_check_all)) (C_places_of : Callee P w K mg base "places_of" 3 (spOf G 3 f_places_of)) :
    FnOk P w K mg base (L2.CX P w) 5 f fd ["base", "beginning", "most"] (spOf G 3 f_first_power) :=
  fn_run T.hG F sc_first_power rfl fun cdv A outer s H E hr o hp => (s_cons (s_expr (j_call C_check_all o (hr.mono (by decide)) (j_cons j_var (j_cons j_var (j_cons j_var j_nil)))))
    (s_cons (s_asg o (j_call C_places_of o (hr.mono (by decide)) (j_cons j_var (j_cons j_var (j_cons j_var j_nil)))))
    (s_one (s_ret (j_ite (t_ne o j_var (j_lst j_nil)) (j_ix o j_var j_int) j_non)))))
abbrev N_waits : List Str := ["base", "beginning", "most", "found", "one", "other"]
theorem sc_waits : FnScope N_waits ["base", "beginning", "most"] (defScope sd_waits) := ⟨rfl, rfl, rfl, by decide +kernel, rfl, by decide +kernel, by decide +kernel⟩
theorem ok_waits {f : Addr} {fd : FuncData} (F : Fun K "waits" "waits" sd_waits f fd) (T : Txt K mg G) (C_check_all : Callee P w K mg base "check_all" 4 (spOf G 3 f_check_all)) (C_places_of : Callee P w K mg base "places_of" 3 (spOf G 3 f_places_of)) :
    FnOk P w K mg base (L2.CX P w) 5 f fd ["base", "beginning", "most"] (spOf G 3 f_waits) :=
  fn_run T.hG F sc_waits rfl fun cdv A outer s H E hr o hp => (s_cons (s_expr (j_call C_check_all o (hr.mono (by decide)) (j_cons j_var (j_cons j_var (j_cons j_var j_nil)))))
    (s_cons (s_asg o (j_call C_places_of o (hr.mono (by decide)) (j_cons j_var (j_cons j_var (j_cons j_var j_nil)))))
    (s_one (s_ret (j_ofL (j_lc o (i_zip o T.n_zip j_var (j_ofL (j_slice o j_var (j_po j_int) j_pn))) (blkOk_by (own := [("one", 4), ("other", 5)]) (N := N_waits) (sc := defScope sd_waits) (by decide +kernel)) (fun s H C cl fp o => g_tup o (g_n1 sc_waits.nd (g_n1 sc_waits.nd g_n0))) (fun s H C cl fp o => t_none) (fun s H C cl fp o => (j_sub j_var j_var))))))))
abbrev N_longest_wait : List Str := ["base", "beginning", "most", "found", "gaps", "one", "other"]
theorem sc_longest_wait : FnScope N_longest_wait ["base", "beginning", "most"] (defScope sd_longest_wait) := ⟨rfl, rfl, rfl, by decide +kernel, rfl, by decide +kernel, by decide +kernel⟩
theorem ok_longest_wait {f : Addr} {fd : FuncData} (F : Fun K "longest_wait" "longest_wait" sd_longest_wait f fd) (T : Txt K mg G) (C_check_all : Callee P w K mg base "check_all" 4 (spOf G 3 f_check_all)) (C_places_of : Callee P w K mg base "places_of" 3 (spOf G 3 f_places_of)) :
    FnOk P w K mg base (L2.CX P w) 5 f fd ["base", "beginning", "most"] (spOf G 3 f_longest_wait) :=
  fn_run T.hG F sc_longest_wait rfl fun cdv A outer s H E hr o hp => (s_cons (s_expr (j_call C_check_all o (hr.mono (by decide)) (j_cons j_var (j_cons j_var (j_cons j_var j_nil)))))
    (s_cons (s_asg o (j_call C_places_of o (hr.mono (by decide)) (j_cons j_var (j_cons j_var (j_cons j_var j_nil)))))
    (s_cons (s_ite (t_lt (j_cb (c_len o) T.n_len (by decide +kernel) (j_cons j_var j_nil)) j_int) (s_one (s_raise o T.e_NotFound)) s_nil)
    (s_cons (s_setLc o (i_zip o T.n_zip j_var (j_ofL (j_slice o j_var (j_po j_int) j_pn))) (blkOk_by (own := [("one", 5), ("other", 6)]) (N := N_longest_wait) (sc := defScope sd_longest_wait) (by decide +kernel)) (fun s H C cl fp o => g_tup o (g_n1 sc_longest_wait.nd (g_n1 sc_longest_wait.nd g_n0))) (fun s H C cl fp o => t_none) (fun s H C cl fp o => (j_sub j_var j_var)))
    (s_one (s_ret (j_tup (j_cons (j_ix o j_var (j_index o j_var (j_cb (c_maxL o) T.n_max (by decide +kernel) (j_cons j_var j_nil)))) (j_cons (j_cb (c_maxL o) T.n_max (by decide +kernel) (j_cons j_var j_nil)) j_nil)))))))))
abbrev N_digit_table : List Str := ["base", "most", "found", "number"]
theorem sc_digit_table : FnScope N_digit_table ["base", "most"] (defScope sd_digit_table) := ⟨rfl, rfl, rfl, by decide +kernel, rfl, by decide +kernel, by decide +kernel⟩
theorem ok_digit_table {f : Addr} {fd : FuncData} (F : Fun K "digit_table" "digit_table" sd_digit_table f fd) (T : Txt K mg G) (C_check_base : Callee P w K mg base "check_base" 2 (spOf G 1 f_check_base)) (C_check_count : Callee P w K mg base "check_count" 2 (spOf G 3 f_check_count)) (C_powers_of : Callee P w K mg base "powers_of" 1 (spOf G 2 f_powers_of)) (C_first_of : Callee P w K mg base "first_of" 1 (spOf G 2 f_first_of)) :
    FnOk P w K mg base (L2.CX P w) 3 f fd ["base", "most"] (spOf G 2 f_digit_table) :=
  fn_run T.hG F sc_digit_table rfl fun cdv A outer s H E hr o hp => (s_cons (s_expr (j_call C_check_base o (hr.mono (by decide)) (j_cons j_var j_nil)))
    (s_cons (s_expr (j_call C_check_count o (hr.mono (by decide)) (j_cons j_var (j_cons j_int (j_cons (j_globI T.g_MOST_POWER) j_nil)))))
    (s_cons (s_asgOw o (j_repL (j_lst (j_cons j_int j_nil)) j_int))
    (s_cons (s_for o hp (i_list o (j_call C_powers_of o (hr.mono (by decide)) (j_cons j_var (j_cons j_var j_nil)))) (g_nm sc_digit_table.nd) (s_one (s_augIx j_var (j_sub (j_call C_first_of o (hr.mono (by decide)) (j_cons j_var (j_cons j_int j_nil))) j_int) j_int)))
    (s_freeze (s_one (s_ret j_var)))))))
abbrev N_never : List Str := ["base", "many", "most", "seen", "number", "one"]
theorem sc_never : FnScope N_never ["base", "many", "most"] (defScope sd_never) := ⟨rfl, rfl, rfl, by decide +kernel, rfl, by decide +kernel, by decide +kernel⟩
theorem ok_never {f : Addr} {fd : FuncData} (F : Fun K "never" "never" sd_never f fd) (T : Txt K mg G) (C_check_base : Callee P w K mg base "check_base" 2 (spOf G 1 f_check_base)) (C_check_count : Callee P w K mg base "check_count" 2 (spOf G 3 f_check_count)) (C_powers_of : Callee P w K mg base "powers_of" 1 (spOf G 2 f_powers_of)) (C_ten_to : Callee P w K mg base "ten_to" 1 (spOf G 1 f_ten_to)) (C_size_of : Callee P w K mg base "size_of" 1 (spOf G 1 f_size_of)) (C_first_of : Callee P w K mg base "first_of" 1 (spOf G 2 f_first_of)) :
    FnOk P w K mg base (L2.CX P w) 3 f fd ["base", "many", "most"] (spOf G 3 f_never) :=
  fn_run T.hG F sc_never rfl fun cdv A outer s H E hr o hp => (s_cons (s_expr (j_call C_check_base o (hr.mono (by decide)) (j_cons j_var j_nil)))
    (s_cons (s_expr (j_call C_check_count o (hr.mono (by decide)) (j_cons j_var (j_cons j_int (j_cons j_int j_nil)))))
    (s_cons (s_expr (j_call C_check_count o (hr.mono (by decide)) (j_cons j_var (j_cons j_int (j_cons (j_globI T.g_MOST_POWER) j_nil)))))
    (s_cons (s_asgOw o (j_repL (j_lst (j_cons j_bl j_nil)) (j_call C_ten_to o (hr.mono (by decide)) (j_cons j_var j_nil))))
    (s_cons (s_for o hp (i_list o (j_call C_powers_of o (hr.mono (by decide)) (j_cons j_var (j_cons j_var j_nil)))) (g_nm sc_never.nd) (s_one (s_ite (t_ge (j_call C_size_of o (hr.mono (by decide)) (j_cons j_var j_nil)) j_var) (s_one (s_setIx j_var (j_call C_first_of o (hr.mono (by decide)) (j_cons j_var (j_cons j_var j_nil))) j_bl)) s_nil)))
    (s_freeze (s_one (s_ret (j_ofL (j_lc o (i_rng2 T.n_range (j_call C_ten_to o (hr.mono (by decide)) (j_cons (j_sub j_var j_int) j_nil)) (j_call C_ten_to o (hr.mono (by decide)) (j_cons j_var j_nil))) (blkOk_by (own := [("one", 5)]) (N := N_never) (sc := defScope sd_never) (by decide +kernel)) (fun s H C cl fp o => g_nm sc_never.nd) (fun s H C cl fp o => t_one (t_not (j_val (j_ix o j_var j_var)))) (fun s H C cl fp o => j_var)))))))))))
abbrev N_powers_with : List Str := ["base", "count", "place", "number"]
theorem sc_powers_with : FnScope N_powers_with ["base", "count"] (defScope sd_powers_with) := ⟨rfl, rfl, rfl, by decide +kernel, rfl, by decide +kernel, by decide +kernel⟩
theorem ok_powers_with {f : Addr} {fd : FuncData} (F : Fun K "powers_with" "powers_with" sd_powers_with f fd) (T : Txt K mg G) (C_check_base : Callee P w K mg base "check_base" 2 (spOf G 1 f_check_base)) (C_check_count : Callee P w K mg base "check_count" 2 (spOf G 3 f_check_count)) (C_powers_of : Callee P w K mg base "powers_of" 1 (spOf G 2 f_powers_of)) (C_size_of : Callee P w K mg base "size_of" 1 (spOf G 1 f_size_of)) :
    FnOk P w K mg base (L2.CX P w) 3 f fd ["base", "count"] (spOf G 2 f_powers_with) :=
  fn_run T.hG F sc_powers_with rfl fun cdv A outer s H E hr o hp => (s_cons (s_expr (j_call C_check_base o (hr.mono (by decide)) (j_cons j_var j_nil)))
    (s_cons (s_expr (j_call C_check_count o (hr.mono (by decide)) (j_cons j_var (j_cons j_int (j_cons j_int j_nil)))))
    (s_one (s_ret (j_ofL (j_lc o (i_enum o T.n_enumerate (j_call C_powers_of o (hr.mono (by decide)) (j_cons j_var (j_cons (j_globI T.g_MOST_POWER) j_nil)))) (blkOk_by (own := [("place", 2), ("number", 3)]) (N := N_powers_with) (sc := defScope sd_powers_with) (by decide +kernel)) (fun s H C cl fp o => g_tup o (g_n1 sc_powers_with.nd (g_n1 sc_powers_with.nd g_n0))) (fun s H C cl fp o => t_one (t_eq o (j_call C_size_of o (hr.mono (by decide)) (j_cons j_var j_nil)) j_var)) (fun s H C cl fp o => j_var)))))))
abbrev N_check_step : List Str := ["value"]
theorem sc_check_step : FnScope N_check_step ["value"] (defScope sd_check_step) := ⟨rfl, rfl, rfl, by decide +kernel, rfl, by decide +kernel, by decide +kernel⟩
theorem ok_check_step {f : Addr} {fd : FuncData} (F : Fun K "check_step" "check_step" sd_check_step f fd) (T : Txt K mg G) (C_is_int : Callee P w K mg base "is_int" 1 (spOf G 3 f_is_int)) :
    FnOk P w K mg base (L2.CX P w) 2 f fd ["value"] (spOf G 1 f_check_step) :=
  fn_run T.hG F sc_check_step rfl fun cdv A outer s H E hr o hp => (s_one (s_ite (t_not (j_val (j_call C_is_int o (hr.mono (by decide)) (j_cons j_var (j_cons j_int (j_cons j_int j_nil)))))) (s_one (s_raise o T.e_BadNumber)) s_nil))
abbrev N_first_of_stretch : List Str := ["number", "first", "last", "found"]
theorem sc_first_of_stretch : FnScope N_first_of_stretch ["number", "first", "last"] (defScope sd_first_of_stretch) := ⟨rfl, rfl, rfl, by decide +kernel, rfl, by decide +kernel, by decide +kernel⟩
theorem ok_first_of_stretch {f : Addr} {fd : FuncData} (F : Fun K "first_of_stretch" "first_of_stretch" sd_first_of_stretch f fd) (T : Txt K mg G)  :
    FnOk P w K mg base (L2.CX P w) 1 f fd ["number", "first", "last"] (spOf G 3 f_first_of_stretch) :=
  fn_run T.hG F sc_first_of_stretch rfl fun cdv A outer s H E hr o hp => (s_cons (s_asg o (j_mul (j_div (j_sub (j_add j_var j_var) j_int) j_var) j_var))
    (s_one (s_ret (j_ite (t_le j_var j_var) j_var j_non))))
abbrev N_first_multiple : List Str := ["number", "beginning", "count", "first", "last"]
theorem sc_first_multiple : FnScope N_first_multiple ["number", "beginning"] (defScope sd_first_multiple) := ⟨rfl, rfl, rfl, by decide +kernel, rfl, by decide +kernel, by decide +kernel⟩
theorem ok_first_multiple {f : Addr} {fd : FuncData} (F : Fun K "first_multiple" "first_multiple" sd_first_multiple f fd) (T : Txt K mg G) (C_check_step : Callee P w K mg base "check_step" 2 (spOf G 1 f_check_step)) (C_check_beginning : Callee P w K mg base "check_beginning" 3 (spOf G 1 f_check_beginning)) (C_size_of : Callee P w K mg base "size_of" 1 (spOf G 1 f_size_of)) (C_stretch_of : Callee P w K mg base "stretch_of" 2 (spOf G 2 f_stretch_of)) (C_first_of_stretch : Callee P w K mg base "first_of_stretch" 1 (spOf G 3 f_first_of_stretch)) :
    FnOk P w K mg base (L2.CX P w) 4 f fd ["number", "beginning"] (spOf G 2 f_first_multiple) :=
  fn_run T.hG F sc_first_multiple rfl fun cdv A outer s H E hr o hp => (s_cons (s_expr (j_call C_check_step o (hr.mono (by decide)) (j_cons j_var j_nil)))
    (s_cons (s_expr (j_call C_check_beginning o (hr.mono (by decide)) (j_cons j_var j_nil)))
    (s_cons (s_asg o (j_call C_size_of o (hr.mono (by decide)) (j_cons j_var j_nil)))
    (s_cons (s_asgT (j_call C_stretch_of o (hr.mono (by decide)) (j_cons j_var (j_cons j_var j_nil))) (g_tup o (g_n1 sc_first_multiple.nd (g_n1 sc_first_multiple.nd g_n0))))
    (s_cons (s_whl hp (t_isN (j_call C_first_of_stretch o (hr.mono (by decide)) (j_cons j_var (j_cons j_var (j_cons j_var j_nil)))) j_non) (s_cons (s_augAdd o j_int)
    (s_one (s_asgT (j_call C_stretch_of o (hr.mono (by decide)) (j_cons j_var (j_cons j_var j_nil))) (g_tup o (g_n1 sc_first_multiple.nd (g_n1 sc_first_multiple.nd g_n0)))))))
    (s_one (s_ret (j_call C_first_of_stretch o (hr.mono (by decide)) (j_cons j_var (j_cons j_var (j_cons j_var j_nil)))))))))))
abbrev N_multiple_places : List Str := ["number", "beginning", "most", "factor"]
theorem sc_multiple_places : FnScope N_multiple_places ["number", "beginning", "most"] (defScope sd_multiple_places) := ⟨rfl, rfl, rfl, by decide +kernel, rfl, by decide +kernel, by decide +kernel⟩
theorem ok_multiple_places {f : Addr} {fd : FuncData} (F : Fun K "multiple_places" "multiple_places" sd_multiple_places f fd) (T : Txt K mg G) (C_check_step : Callee P w K mg base "check_step" 2 (spOf G 1 f_check_step)) (C_check_beginning : Callee P w K mg base "check_beginning" 3 (spOf G 1 f_check_beginning)) (C_check_count : Callee P w K mg base "check_count" 2 (spOf G 3 f_check_count)) (C_begins_of : Callee P w K mg base "begins_of" 2 (spOf G 2 f_begins_of)) :
    FnOk P w K mg base (L2.CX P w) 4 f fd ["number", "beginning", "most"] (spOf G 3 f_multiple_places) :=
  fn_run T.hG F sc_multiple_places rfl fun cdv A outer s H E hr o hp => (s_cons (s_expr (j_call C_check_step o (hr.mono (by decide)) (j_cons j_var j_nil)))
    (s_cons (s_expr (j_call C_check_beginning o (hr.mono (by decide)) (j_cons j_var j_nil)))
    (s_cons (s_expr (j_call C_check_count o (hr.mono (by decide)) (j_cons j_var (j_cons j_int (j_cons j_int j_nil)))))
    (s_one (s_ret (j_ofL (j_lc o (i_rng2 T.n_range j_int (j_add j_var j_int)) (blkOk_by (own := [("factor", 3)]) (N := N_multiple_places) (sc := defScope sd_multiple_places) (by decide +kernel)) (fun s H C cl fp o => g_nm sc_multiple_places.nd) (fun s H C cl fp o => t_one (j_val (j_call C_begins_of o (hr.mono (by decide)) (j_cons (j_mul j_var j_var) (j_cons j_var j_nil))))) (fun s H C cl fp o => j_var))))))))
abbrev N_count_multiples : List Str := ["number", "beginning", "count", "first", "last"]
theorem sc_count_multiples : FnScope N_count_multiples ["number", "beginning", "count"] (defScope sd_count_multiples) := ⟨rfl, rfl, rfl, by decide +kernel, rfl, by decide +kernel, by decide +kernel⟩
theorem ok_count_multiples {f : Addr} {fd : FuncData} (F : Fun K "count_multiples" "count_multiples" sd_count_multiples f fd) (T : Txt K mg G) (C_check_step : Callee P w K mg base "check_step" 2 (spOf G 1 f_check_step)) (C_check_beginning : Callee P w K mg base "check_beginning" 3 (spOf G 1 f_check_beginning)) (C_check_count : Callee P w K mg base "check_count" 2 (spOf G 3 f_check_count)) (C_stretch_of : Callee P w K mg base "stretch_of" 2 (spOf G 2 f_stretch_of)) (C_size_of : Callee P w K mg base "size_of" 1 (spOf G 1 f_size_of)) :
    FnOk P w K mg base (L2.CX P w) 4 f fd ["number", "beginning", "count"] (spOf G 3 f_count_multiples) :=
  fn_run T.hG F sc_count_multiples rfl fun cdv A outer s H E hr o hp => (s_cons (s_expr (j_call C_check_step o (hr.mono (by decide)) (j_cons j_var j_nil)))
    (s_cons (s_expr (j_call C_check_beginning o (hr.mono (by decide)) (j_cons j_var j_nil)))
    (s_cons (s_expr (j_call C_check_count o (hr.mono (by decide)) (j_cons j_var (j_cons j_int (j_cons j_int j_nil)))))
    (s_cons (s_ite (t_lt j_var (j_call C_size_of o (hr.mono (by decide)) (j_cons j_var j_nil))) (s_one (s_ret j_int)) s_nil)
    (s_cons (s_asgT (j_call C_stretch_of o (hr.mono (by decide)) (j_cons j_var (j_cons j_var j_nil))) (g_tup o (g_n1 sc_count_multiples.nd (g_n1 sc_count_multiples.nd g_n0))))
    (s_one (s_ret (j_sub (j_div j_var j_var) (j_div (j_sub j_var j_int) j_var)))))))))
abbrev N_product_bounds : List Str := ["one", "other"]
theorem sc_product_bounds : FnScope N_product_bounds ["one", "other"] (defScope sd_product_bounds) := ⟨rfl, rfl, rfl, by decide +kernel, rfl, by decide +kernel, by decide +kernel⟩
theorem ok_product_bounds {f : Addr} {fd : FuncData} (F : Fun K "product_bounds" "product_bounds" sd_product_bounds f fd) (T : Txt K mg G)  :
    FnOk P w K mg base (L2.CX P w) 1 f fd ["one", "other"] (spOf G 2 f_product_bounds) :=
  fn_run T.hG F sc_product_bounds rfl fun cdv A outer s H E hr o hp => (s_one (s_ret (j_tup (j_cons (j_tup (j_cons (j_mul j_var j_var) (j_cons j_int j_nil))) (j_cons (j_tup (j_cons (j_mul (j_add j_var j_int) (j_add j_var j_int)) (j_cons j_int j_nil))) j_nil)))))
abbrev N_products : List Str := ["one", "other", "many", "low", "high"]
theorem sc_products : FnScope N_products ["one", "other", "many"] (defScope sd_products) := ⟨rfl, rfl, rfl, by decide +kernel, rfl, by decide +kernel, by decide +kernel⟩
theorem ok_products {f : Addr} {fd : FuncData} (F : Fun K "products" "products" sd_products f fd) (T : Txt K mg G) (C_check_beginning : Callee P w K mg base "check_beginning" 3 (spOf G 1 f_check_beginning)) (C_check_count : Callee P w K mg base "check_count" 2 (spOf G 3 f_check_count)) (C_product_bounds : Callee P w K mg base "product_bounds" 1 (spOf G 2 f_product_bounds)) (C_all_meeting : Callee P w K mg base "all_meeting" 3 (spOf G 3 f_all_meeting)) :
    FnOk P w K mg base (L2.CX P w) 4 f fd ["one", "other", "many"] (spOf G 3 f_products) :=
  fn_run T.hG F sc_products rfl fun cdv A outer s H E hr o hp => (s_cons (s_expr (j_call C_check_beginning o (hr.mono (by decide)) (j_cons j_var j_nil)))
    (s_cons (s_expr (j_call C_check_beginning o (hr.mono (by decide)) (j_cons j_var j_nil)))
    (s_cons (s_expr (j_call C_check_count o (hr.mono (by decide)) (j_cons j_var (j_cons j_int (j_cons j_int j_nil)))))
    (s_cons (s_asgT (j_call C_product_bounds o (hr.mono (by decide)) (j_cons j_var (j_cons j_var j_nil))) (g_tup o (g_n1 sc_products.nd (g_n1 sc_products.nd g_n0))))
    (s_one (s_ret (j_call C_all_meeting o (hr.mono (by decide)) (j_cons j_var (j_cons j_var (j_cons j_var j_nil))))))))))
abbrev N_least_behind : List Str := ["one", "other", "beginning", "more", "scale", "first", "count", "start", "low", "high", "middle"]
theorem sc_least_behind : FnScope N_least_behind ["one", "other", "beginning", "more"] (defScope sd_least_behind) := ⟨rfl, rfl, rfl, by decide +kernel, rfl, by decide +kernel, by decide +kernel⟩
theorem ok_least_behind {f : Addr} {fd : FuncData} (F : Fun K "least_behind" "least_behind" sd_least_behind f fd) (T : Txt K mg G) (C_ten_to : Callee P w K mg base "ten_to" 1 (spOf G 1 f_ten_to)) (C_size_of : Callee P w K mg base "size_of" 1 (spOf G 1 f_size_of)) (C_begins_of : Callee P w K mg base "begins_of" 2 (spOf G 2 f_begins_of)) :
    FnOk P w K mg base (L2.CX P w) 3 f fd ["one", "other", "beginning", "more"] (spOf G 4 f_least_behind) :=
  fn_run T.hG F sc_least_behind rfl fun cdv A outer s H E hr o hp => (s_cons (s_asg o (j_call C_ten_to o (hr.mono (by decide)) (j_cons j_var j_nil)))
    (s_cons (s_asg o (j_mul (j_mul (j_mul j_var j_var) j_var) j_var))
    (s_cons (s_for o hp (i_rng2 T.n_range (j_call C_size_of o (hr.mono (by decide)) (j_cons j_var j_nil)) (j_add (j_call C_size_of o (hr.mono (by decide)) (j_cons j_var j_nil)) j_int)) (g_nm sc_least_behind.nd) (s_one (s_ite (t_ge j_var (j_call C_size_of o (hr.mono (by decide)) (j_cons j_var j_nil))) (s_cons (s_asg o (j_mul j_var (j_call C_ten_to o (hr.mono (by decide)) (j_cons (j_sub j_var (j_call C_size_of o (hr.mono (by decide)) (j_cons j_var j_nil))) j_nil))))
    (s_cons (s_par o (j_neg j_int) j_var)
    (s_cons (s_whl hp (t_gt (j_sub j_var j_var) j_int) (s_cons (s_asg o (j_div (j_add j_var j_var) j_int))
    (s_one (s_ite (t_ge (j_mul (j_add (j_mul j_var j_var) j_var) (j_add (j_mul j_var j_var) j_var)) j_var) (s_one (s_asg o j_var)) (s_one (s_asg o j_var))))))
    (s_one (s_ite (t_bop (w_and (t_lt j_var j_var) (w_and1 (j_val (j_call C_begins_of o (hr.mono (by decide)) (j_cons (j_mul (j_add (j_mul j_var j_var) j_var) (j_add (j_mul j_var j_var) j_var)) (j_cons j_var j_nil))))))) (s_one (s_ret j_var)) s_nil))))) s_nil)))
    (s_one (s_ret j_non)))))
abbrev N_product_example : List Str := ["one", "other", "beginning", "low", "high", "more", "found"]
theorem sc_product_example : FnScope N_product_example ["one", "other", "beginning"] (defScope sd_product_example) := ⟨rfl, rfl, rfl, by decide +kernel, rfl, by decide +kernel, by decide +kernel⟩
theorem ok_product_example {f : Addr} {fd : FuncData} (F : Fun K "product_example" "product_example" sd_product_example f fd) (T : Txt K mg G) (C_check_beginning : Callee P w K mg base "check_beginning" 3 (spOf G 1 f_check_beginning)) (C_product_bounds : Callee P w K mg base "product_bounds" 1 (spOf G 2 f_product_bounds)) (C_least_behind : Callee P w K mg base "least_behind" 3 (spOf G 4 f_least_behind)) (C_meets : Callee P w K mg base "meets" 3 (spOf G 3 f_meets)) (C_ten_to : Callee P w K mg base "ten_to" 1 (spOf G 1 f_ten_to)) :
    FnOk P w K mg base (L2.CX P w) 4 f fd ["one", "other", "beginning"] (spOf G 3 f_product_example) :=
  fn_run T.hG F sc_product_example rfl fun cdv A outer s H E hr o hp => (s_cons (s_expr (j_call C_check_beginning o (hr.mono (by decide)) (j_cons j_var j_nil)))
    (s_cons (s_expr (j_call C_check_beginning o (hr.mono (by decide)) (j_cons j_var j_nil)))
    (s_cons (s_expr (j_call C_check_beginning o (hr.mono (by decide)) (j_cons j_var j_nil)))
    (s_cons (s_asgT (j_call C_product_bounds o (hr.mono (by decide)) (j_cons j_var (j_cons j_var j_nil))) (g_tup o (g_n1 sc_product_example.nd (g_n1 sc_product_example.nd g_n0))))
    (s_cons (s_ite (t_not (j_val (j_call C_meets o (hr.mono (by decide)) (j_cons j_var (j_cons j_var (j_cons j_var j_nil)))))) (s_one (s_raise o T.e_NotFound)) s_nil)
    (s_cons (s_asg o j_int)
    (s_cons (s_asg o (j_call C_least_behind o (hr.mono (by decide)) (j_cons j_var (j_cons j_var (j_cons j_var (j_cons j_var j_nil))))))
    (s_cons (s_whl hp (t_isN j_var j_non) (s_cons (s_augAdd o j_int)
    (s_one (s_asg o (j_call C_least_behind o (hr.mono (by decide)) (j_cons j_var (j_cons j_var (j_cons j_var (j_cons j_var j_nil)))))))))
    (s_one (s_ret (j_tup (j_cons (j_add (j_mul j_var (j_call C_ten_to o (hr.mono (by decide)) (j_cons j_var j_nil))) j_var) (j_cons (j_add (j_mul j_var (j_call C_ten_to o (hr.mono (by decide)) (j_cons j_var j_nil))) j_var) j_nil)))))))))))))
abbrev N_sums : List Str := ["one", "other", "many", "first", "last", "more", "far"]
theorem sc_sums : FnScope N_sums ["one", "other", "many"] (defScope sd_sums) := ⟨rfl, rfl, rfl, by decide +kernel, rfl, by decide +kernel, by decide +kernel⟩
theorem ok_sums {f : Addr} {fd : FuncData} (F : Fun K "sums" "sums" sd_sums f fd) (T : Txt K mg G) (C_check_beginning : Callee P w K mg base "check_beginning" 3 (spOf G 1 f_check_beginning)) (C_check_count : Callee P w K mg base "check_count" 2 (spOf G 3 f_check_count)) (C_all_meeting : Callee P w K mg base "all_meeting" 3 (spOf G 3 f_all_meeting)) (C_ten_to : Callee P w K mg base "ten_to" 1 (spOf G 1 f_ten_to)) (C_size_of : Callee P w K mg base "size_of" 1 (spOf G 1 f_size_of)) :
    FnOk P w K mg base (L2.CX P w) 4 f fd ["one", "other", "many"] (spOf G 3 f_sums) :=
  fn_run T.hG F sc_sums rfl fun cdv A outer s H E hr o hp => (s_cons (s_expr (j_call C_check_beginning o (hr.mono (by decide)) (j_cons j_var j_nil)))
    (s_cons (s_expr (j_call C_check_beginning o (hr.mono (by decide)) (j_cons j_var j_nil)))
    (s_cons (s_expr (j_call C_check_count o (hr.mono (by decide)) (j_cons j_var (j_cons j_int (j_cons j_int j_nil)))))
    (s_cons (s_par o (j_mul j_var (j_call C_ten_to o (hr.mono (by decide)) (j_cons (j_sub j_int (j_call C_size_of o (hr.mono (by decide)) (j_cons j_var j_nil))) j_nil))) (j_mul j_var (j_call C_ten_to o (hr.mono (by decide)) (j_cons (j_sub j_int (j_call C_size_of o (hr.mono (by decide)) (j_cons j_var j_nil))) j_nil))))
    (s_cons (s_par o (j_call C_ten_to o (hr.mono (by decide)) (j_cons (j_sub j_int (j_call C_size_of o (hr.mono (by decide)) (j_cons j_var j_nil))) j_nil)) (j_call C_ten_to o (hr.mono (by decide)) (j_cons (j_sub j_int (j_call C_size_of o (hr.mono (by decide)) (j_cons j_var j_nil))) j_nil)))
    (s_one (s_ret (j_call C_all_meeting o (hr.mono (by decide)) (j_cons (j_tup (j_cons (j_add j_var j_var) (j_cons j_int j_nil))) (j_cons (j_tup (j_cons (j_add (j_add (j_add j_var j_var) j_var) j_var) (j_cons j_int j_nil))) (j_cons j_var j_nil)))))))))))
abbrev N_quotients : List Str := ["one", "other", "many"]
theorem sc_quotients : FnScope N_quotients ["one", "other", "many"] (defScope sd_quotients) := ⟨rfl, rfl, rfl, by decide +kernel, rfl, by decide +kernel, by decide +kernel⟩
theorem ok_quotients {f : Addr} {fd : FuncData} (F : Fun K "quotients" "quotients" sd_quotients f fd) (T : Txt K mg G) (C_check_beginning : Callee P w K mg base "check_beginning" 3 (spOf G 1 f_check_beginning)) (C_check_count : Callee P w K mg base "check_count" 2 (spOf G 3 f_check_count)) (C_all_meeting : Callee P w K mg base "all_meeting" 3 (spOf G 3 f_all_meeting)) :
    FnOk P w K mg base (L2.CX P w) 4 f fd ["one", "other", "many"] (spOf G 3 f_quotients) :=
  fn_run T.hG F sc_quotients rfl fun cdv A outer s H E hr o hp => (s_cons (s_expr (j_call C_check_beginning o (hr.mono (by decide)) (j_cons j_var j_nil)))
    (s_cons (s_expr (j_call C_check_beginning o (hr.mono (by decide)) (j_cons j_var j_nil)))
    (s_cons (s_expr (j_call C_check_count o (hr.mono (by decide)) (j_cons j_var (j_cons j_int (j_cons j_int j_nil)))))
    (s_one (s_ret (j_call C_all_meeting o (hr.mono (by decide)) (j_cons (j_tup (j_cons j_var (j_cons (j_add j_var j_int) j_nil))) (j_cons (j_tup (j_cons (j_add j_var j_int) (j_cons j_var j_nil))) (j_cons j_var j_nil)))))))))
abbrev N_is_row : List Str := ["value", "one"]
theorem sc_is_row : FnScope N_is_row ["value"] (defScope sd_is_row) := ⟨rfl, rfl, rfl, by decide +kernel, rfl, by decide +kernel, by decide +kernel⟩
theorem ok_is_row {f : Addr} {fd : FuncData} (F : Fun K "is_row" "is_row" sd_is_row f fd) (T : Txt K mg G) (C_is_beginning : Callee P w K mg base "is_beginning" 2 (spOf G 1 f_is_beginning)) :
    FnOk P w K mg base (L2.CX P w) 3 f fd ["value"] (spOf G 1 f_is_row) :=
  fn_run T.hG F sc_is_row rfl fun cdv A outer s H E hr o hp => (s_one (s_ret (j_andV (j_isTy o T.n_isinstance T.n_list (by decide +kernel) j_var) (j_andV (j_leLe j_int (j_cb (c_len o) T.n_len (by decide +kernel) (j_cons j_var j_nil)) j_int) (j_one (j_cb (c_all o) T.n_all (by decide +kernel) (j_cons (j_ofL (j_lc o (i_list o j_var) (blkOk_by (own := [("one", 1)]) (N := N_is_row) (sc := defScope sd_is_row) (by decide +kernel)) (fun s H C cl fp o => g_nm sc_is_row.nd) (fun s H C cl fp o => t_none) (fun s H C cl fp o => (j_call C_is_beginning o (hr.mono (by decide)) (j_cons j_var j_nil))))) j_nil)))))))
abbrev N_parts_of : List Str := ["value", "found", "one"]
theorem sc_parts_of : FnScope N_parts_of ["value"] (defScope sd_parts_of) := ⟨rfl, rfl, rfl, by decide +kernel, rfl, by decide +kernel, by decide +kernel⟩
theorem ok_parts_of {f : Addr} {fd : FuncData} (F : Fun K "parts_of" "parts_of" sd_parts_of f fd) (T : Txt K mg G)  :
    FnOk P w K mg base (L2.CX P w) 1 f fd ["value"] (spOf G 1 f_parts_of) :=
  fn_run T.hG F sc_parts_of rfl fun cdv A outer s H E hr o hp => (s_cons (s_asgOw o (j_disp j_nil))
    (s_cons (s_for o hp (i_list o j_var) (g_nm sc_parts_of.nd) (s_one (s_ite (t_bop (w_and (t_ownNe o j_var (j_lst j_nil)) (w_and1 (t_eq o (j_add (j_ix o (j_ownIx o j_var (j_neg j_int)) j_int) j_int) j_var)))) (s_one (s_setIx j_var (j_neg j_int) (j_tup (j_cons (j_ix o (j_ownIx o j_var (j_neg j_int)) j_int) (j_cons j_var j_nil))))) (s_one (s_append o j_var (j_tup (j_cons j_var (j_cons j_var j_nil))))))))
    (s_freeze (s_one (s_ret j_var)))))
abbrev N_text_of : List Str := ["value", "one", "other"]
theorem sc_text_of : FnScope N_text_of ["value"] (defScope sd_text_of) := ⟨rfl, rfl, rfl, by decide +kernel, rfl, by decide +kernel, by decide +kernel⟩
theorem ok_text_of {f : Addr} {fd : FuncData} (F : Fun K "text_of" "text_of" sd_text_of f fd) (T : Txt K mg G) (C_parts_of : Callee P w K mg base "parts_of" 1 (spOf G 1 f_parts_of)) :
    FnOk P w K mg base (L2.CX P w) 2 f fd ["value"] (spOf G 1 f_text_of) :=
  fn_run T.hG F sc_text_of rfl fun cdv A outer s H E hr o hp => (s_one (s_ret (j_join o j_str (j_ofL (j_lc o (i_list o (j_call C_parts_of o (hr.mono (by decide)) (j_cons j_var j_nil))) (blkOk_by (own := [("one", 1), ("other", 2)]) (N := N_text_of) (sc := defScope sd_text_of) (by decide +kernel)) (fun s H C cl fp o => g_tup o (g_n1 sc_text_of.nd (g_n1 sc_text_of.nd g_n0))) (fun s H C cl fp o => t_none) (fun s H C cl fp o => (j_ite (t_eq o j_var j_var) (j_strI o T.dg T.n_str (j_cons j_var j_nil)) (j_js3 (j_fmt j_var) j_str (j_fmt j_var)))))))))
abbrev N_format_beginnings : List Str := ["value"]
theorem sc_format_beginnings : FnScope N_format_beginnings ["value"] (defScope sd_format_beginnings) := ⟨rfl, rfl, rfl, by decide +kernel, rfl, by decide +kernel, by decide +kernel⟩
theorem ok_format_beginnings {f : Addr} {fd : FuncData} (F : Fun K "format_beginnings" "format_beginnings" sd_format_beginnings f fd) (T : Txt K mg G) (C_text_of : Callee P w K mg base "text_of" 2 (spOf G 1 f_text_of)) (C_is_row : Callee P w K mg base "is_row" 3 (spOf G 1 f_is_row)) :
    FnOk P w K mg base (L2.CX P w) 4 f fd ["value"] (spOf G 1 f_format_beginnings) :=
  fn_run T.hG F sc_format_beginnings rfl fun cdv A outer s H E hr o hp => (s_cons (s_ite (t_not (j_val (j_call C_is_row o (hr.mono (by decide)) (j_cons j_var j_nil)))) (s_one (s_raise o T.e_BadBeginning)) s_nil)
    (s_one (s_ret (j_call C_text_of o (hr.mono (by decide)) (j_cons j_var j_nil)))))
abbrev N_law_start : List Str := ["_law_script"]
theorem sc_law_start : FnScope N_law_start ["_law_script"] (defScope sd_law_start) := ⟨rfl, rfl, rfl, by decide +kernel, rfl, by decide +kernel, by decide +kernel⟩
theorem ok_law_start {f : Addr} {fd : FuncData} (F : Fun K "_law_start" "_law_start" sd_law_start f fd) (T : Txt K mg G)  :
    FnOk P w K mg base (L2.CX P w) 1 f fd ["_law_script"] (spStart G) :=
  fn_start T.hG F sc_law_start rfl rfl fun cdv A outer s H E hr o hp => (pss_one (ps_ret (pe_lst (pa_cons (pe_ifExp (pt_cmpR (k_ne o) (pv 0) (pe_lst pa_nil) (nomark _)) (pe_callTy (show CallR _ (.type "list") (rListOf G.K) by rw [← o.hK]; exact call_list_of) (by rfl) T.n_list (by decide +kernel) (pa_cons (pv 0) pa_nil)) (pe_lst (pa_cons pe_int pa_nil))) (pa_cons pe_int pa_nil)))))
abbrev N_law_draw : List Str := ["_law_draws", "_law_limit", "_law_numbers", "_law_at", "_law_cell", "_law_mixed"]
theorem sc_law_draw : FnScope N_law_draw ["_law_draws", "_law_limit"] (defScope sd_law_draw) := ⟨rfl, rfl, rfl, by decide +kernel, rfl, by decide +kernel, by decide +kernel⟩
theorem ok_law_draw {f : Addr} {fd : FuncData} (F : Fun K "_law_draw" "_law_draw" sd_law_draw f fd) (T : Txt K mg G)  :
    FnOk P w K mg base (L2.CX P w) 1 f fd ["_law_draws", "_law_limit"] (spOfM G 1 f_law_draw) :=
  fn_runM T.hG F sc_law_draw rfl fun cdv A outer s H E hr o hp => (by
  show PSs _ _ (t_draw G)
  unfold t_draw
  exact pss_cons (ps_set o.nd rfl (Or.inl rfl) (pe_ix (k_ix o) (pv 0) pe_int (by intro _ _; rfl)))
    (pss_cons (ps_asg (pe_op op_add (pe_ix (k_ix o) (pv 0) pe_int (by intro _ _; rfl)) pe_int) (pg_sub (pv 0) pe_int set_list))
    (pss_cons (ps_set o.nd rfl (Or.inl rfl) (pe_op op_modE (pe_ix (k_ix o) (pv 0) pe_int (by intro _ _; rfl)) (pe_callB (c_len o) (by rfl) T.n_len (by decide +kernel) (pa_cons (pv 2) pa_nil))))
    (pss_cons (ps_set o.nd rfl (Or.inl rfl) (pe_ix (k_ix o) (pv 2) (pv 3) (by intro _ _; rfl)))
    (pss_cons (ps_if (pt_cmpR op_ge (pv 4) pe_int (nomark _)) (pss_cons (ps_asg (pe_op op_fdivW (pv 4) (pv 1)) (pg_sub (pv 2) (pv 3) set_list)) (pss_one (ps_ret (pe_op op_modE (pv 4) (pv 1))))) pss_nil)
    (pss_cons (ps_set o.nd rfl (Or.inl rfl) (pe_op op_modE (pe_op op_add (pv 4) (pe_op op_mul pe_int (pe_ix (k_ix o) (pv 0) pe_int (by intro _ _; rfl)))) pe_int))
    (pss_cons (ps_set o.nd rfl (Or.inl rfl) (pe_op op_modE (pe_op op_pow (pv 5) pe_int) pe_int))
    (pss_one (ps_ret (pe_op op_modE (pe_op op_fdivW (pe_op op_modE (pe_op op_add (pe_op op_mul (pe_op op_fdivW (pv 5) pe_int) pe_int) (pv 5)) pe_int) pe_int) (pv 1)))))))))))
abbrev N_law_pick : List Str := ["_law_draws", "_law_choices"]
theorem sc_law_pick : FnScope N_law_pick ["_law_draws", "_law_choices"] (defScope sd_law_pick) := ⟨rfl, rfl, rfl, by decide +kernel, rfl, by decide +kernel, by decide +kernel⟩
theorem ok_law_pick {f : Addr} {fd : FuncData} (F : Fun K "_law_pick" "_law_pick" sd_law_pick f fd) (T : Txt K mg G) (C_law_draw : Callee P w K mg base "_law_draw" 1 (spOfM G 1 f_law_draw)) :
    FnOk P w K mg base (L2.CX P w) 2 f fd ["_law_draws", "_law_choices"] (spOfM G 1 f_law_pick) :=
  fn_runM T.hG F sc_law_pick rfl fun cdv A outer s H E hr o hp => (s_one (s_ret (j_ix o j_var (j_callM C_law_draw o (hr.mono (by decide)) j_var (j_cons (j_cb (c_len o) T.n_len (by decide +kernel) (j_cons j_var j_nil)) j_nil)))))
abbrev N_law_error : List Str := ["_law_caught", "_law_kinds"]
theorem sc_law_error : FnScope N_law_error ["_law_caught"] (defScope sd_law_error) := ⟨rfl, rfl, rfl, by decide +kernel, rfl, by decide +kernel, by decide +kernel⟩
theorem ok_law_error {f : Addr} {fd : FuncData} (F : Fun K "_law_error" "_law_error" sd_law_error f fd) (T : Txt K mg G)  :
    FnOk P w K mg base (L2.CX P w) 1 f fd ["_law_caught"] (spOf G 1 f_law_error) :=
  fn_run T.hG F sc_law_error rfl fun cdv A outer s H E hr o hp => (s_cons (s_asg o (j_lst (j_cons (j_isEx o T.ef T.n_isinstance (n_cls (by decide) T.x_BadNumber) j_var) (j_cons (j_isEx o T.ef T.n_isinstance (n_cls (by decide) T.x_BadBeginning) j_var) (j_cons (j_isEx o T.ef T.n_isinstance (n_cls (by decide) T.x_BadCount) j_var) j_nil)))))
    (s_cons (s_asg o (j_cat j_var (j_lst (j_cons (j_isEx o T.ef T.n_isinstance (n_cls (by decide) T.x_BadText) j_var) (j_cons (j_isEx o T.ef T.n_isinstance (n_cls (by decide) T.x_NotFound) j_var) j_nil)))))
    (s_cons (s_ite (t_bop (w_or (t_ne o (j_countF o j_var j_bl) j_int) (w_or (t_not (j_val (j_isEx o T.ef T.n_isinstance (n_cls (by decide) T.x_DigitError) j_var))) (w_or1 (t_not (j_val (j_isEx o T.ef T.n_isinstance (n_ve T.n_ValueError) j_var))))))) (s_one (s_ret j_str)) s_nil)
    (s_one (s_ret (j_ix o (j_lst (j_cons j_str (j_cons j_str (j_cons j_str (j_cons j_str (j_cons j_str j_nil)))))) (j_index o j_var j_bl)))))))
theorem okE_law_error {f : Addr} {fd : FuncData} (F : Fun K "_law_error" "_law_error" sd_law_error f fd) (T : Txt K mg G)  :
    FnE P w K mg base 1 f fd ["_law_caught"] (spOf G 1 f_law_error) :=
  fn_runE T.hG F sc_law_error rfl fun cdv A outer s H o => (s_cons (e_asg o (j_lst (j_cons (e_isEx o T.ef T.n_isinstance (n_cls (by decide) T.x_BadNumber) j_var) (j_cons (e_isEx o T.ef T.n_isinstance (n_cls (by decide) T.x_BadBeginning) j_var) (j_cons (e_isEx o T.ef T.n_isinstance (n_cls (by decide) T.x_BadCount) j_var) j_nil)))))
    (s_cons (e_asg o (j_cat j_var (j_lst (j_cons (e_isEx o T.ef T.n_isinstance (n_cls (by decide) T.x_BadText) j_var) (j_cons (e_isEx o T.ef T.n_isinstance (n_cls (by decide) T.x_NotFound) j_var) j_nil)))))
    (s_cons (s_ite (t_bop (w_or (e_ne o (e_countF o j_var j_bl) j_int) (w_or (t_not (j_val (e_isEx o T.ef T.n_isinstance (n_cls (by decide) T.x_DigitError) j_var))) (w_or1 (t_not (j_val (e_isEx o T.ef T.n_isinstance (n_ve T.n_ValueError) j_var))))))) (s_one (s_ret j_str)) s_nil)
    (s_one (s_ret (e_ix o (j_lst (j_cons j_str (j_cons j_str (j_cons j_str (j_cons j_str (j_cons j_str j_nil)))))) (e_index o j_var j_bl)))))))
abbrev N_law_ten : List Str := ["_law_exponent", "_law_found", "_law_turn"]
theorem sc_law_ten : FnScope N_law_ten ["_law_exponent"] (defScope sd_law_ten) := ⟨rfl, rfl, rfl, by decide +kernel, rfl, by decide +kernel, by decide +kernel⟩
theorem ok_law_ten {f : Addr} {fd : FuncData} (F : Fun K "_law_ten" "_law_ten" sd_law_ten f fd) (T : Txt K mg G)  :
    FnOk P w K mg base (L2.CX P w) 1 f fd ["_law_exponent"] (spOf G 1 f_law_ten) :=
  fn_run T.hG F sc_law_ten rfl fun cdv A outer s H E hr o hp => (s_cons (s_asg o j_int)
    (s_cons (s_for o hp (i_rng1 T.n_range j_var) (g_nm sc_law_ten.nd) (s_one (s_asg o (j_mul j_var j_int))))
    (s_one (s_ret j_var))))
abbrev N_law_powers : List Str := ["_law_which", "_law_most"]
theorem sc_law_powers : FnScope N_law_powers ["_law_which", "_law_most"] (defScope sd_law_powers) := ⟨rfl, rfl, rfl, by decide +kernel, rfl, by decide +kernel, by decide +kernel⟩
theorem ok_law_powers {f : Addr} {fd : FuncData} (F : Fun K "_law_powers" "_law_powers" sd_law_powers f fd) (T : Txt K mg G) (C_number_at : Callee P w K mg base "number_at" 4 (spOf G 2 f_number_at)) (C_power_places : Callee P w K mg base "power_places" 5 (spOf G 3 f_power_places)) (C_first_power : Callee P w K mg base "first_power" 5 (spOf G 3 f_first_power)) (C_waits : Callee P w K mg base "waits" 5 (spOf G 3 f_waits)) (C_digit_table : Callee P w K mg base "digit_table" 3 (spOf G 2 f_digit_table)) (C_never : Callee P w K mg base "never" 3 (spOf G 3 f_never)) (C_powers_with : Callee P w K mg base "powers_with" 3 (spOf G 2 f_powers_with)) (C_multiple_places : Callee P w K mg base "multiple_places" 4 (spOf G 3 f_multiple_places)) :
    FnOk P w K mg base (L2.CX P w) 6 f fd ["_law_which", "_law_most"] (spOf G 2 f_law_powers) :=
  fn_run T.hG F sc_law_powers rfl fun cdv A outer s H E hr o hp => (s_cons (s_ite (t_eq o j_var j_int) (s_one (s_ret (j_call C_power_places o (hr.mono (by decide)) (j_cons j_int (j_cons j_int (j_cons j_var j_nil)))))) s_nil)
    (s_cons (s_ite (t_eq o j_var j_int) (s_one (s_ret (j_call C_first_power o (hr.mono (by decide)) (j_cons j_int (j_cons j_int (j_cons j_var j_nil)))))) s_nil)
    (s_cons (s_ite (t_eq o j_var j_int) (s_one (s_ret (j_call C_waits o (hr.mono (by decide)) (j_cons j_int (j_cons j_int (j_cons j_var j_nil)))))) s_nil)
    (s_cons (s_ite (t_eq o j_var j_int) (s_one (s_ret (j_call C_digit_table o (hr.mono (by decide)) (j_cons j_int (j_cons j_var j_nil))))) s_nil)
    (s_cons (s_ite (t_eq o j_var j_int) (s_one (s_ret (j_call C_never o (hr.mono (by decide)) (j_cons j_int (j_cons j_int (j_cons j_var j_nil)))))) s_nil)
    (s_cons (s_ite (t_eq o j_var j_int) (s_one (s_ret (j_call C_powers_with o (hr.mono (by decide)) (j_cons j_int (j_cons j_var j_nil))))) s_nil)
    (s_cons (s_ite (t_eq o j_var j_int) (s_one (s_ret (j_call C_multiple_places o (hr.mono (by decide)) (j_cons j_int (j_cons j_int (j_cons j_var j_nil)))))) s_nil)
    (s_one (s_ret (j_call C_number_at o (hr.mono (by decide)) (j_cons j_int (j_cons j_var j_nil))))))))))))
abbrev N_row_first_digits : List Str := ["self", "many"]
theorem sc_row_first_digits : FnScope N_row_first_digits ["self", "many"] (defScope sd_row_first_digits) := ⟨rfl, rfl, rfl, by decide +kernel, rfl, by decide +kernel, by decide +kernel⟩
theorem ok_row_first_digits {f : Addr} {fd : FuncData} (F : Fun K "first_digits" "Row.first_digits" sd_row_first_digits f fd) (T : Txt K mg G) (C_check_count : Callee P w K mg base "check_count" 2 (spOf G 3 f_check_count)) (C_first_of : Callee P w K mg base "first_of" 1 (spOf G 2 f_first_of)) :
    FnOk P w K mg base (L2.CX P w) 3 f fd ["self", "many"] (spOfM G 1 f_row_first_digits) :=
  fn_runM T.hG F sc_row_first_digits rfl fun cdv A outer s H E hr o hp => (s_cons (s_expr (j_call C_check_count o (hr.mono (by decide)) (j_cons j_var (j_cons j_int (j_cons j_int j_nil)))))
    (s_one (s_ret (j_call C_first_of o (hr.mono (by decide)) (j_cons (j_rowLast o T.rf j_var (j_neg j_int)) (j_cons j_var j_nil))))))
abbrev N_row_init : List Str := ["self", "number"]
theorem sc_row_init : FnScope N_row_init ["self", "number"] (defScope sd_row_init) := ⟨rfl, rfl, rfl, by decide +kernel, rfl, by decide +kernel, by decide +kernel⟩
theorem ok_row_init {f : Addr} {fd : FuncData} (F : Fun K "__init__" "Row.__init__" sd_row_init f fd) (T : Txt K mg G) (C_check_number : Callee P w K mg base "check_number" 3 (spOf G 1 f_check_number)) :
    FnOk P w K mg base (L2.CX P w) 4 f fd ["self", "number"] (spInit G) :=
  fn_init T.hG F sc_row_init rfl rfl fun cdv A outer s H E hr o hp => (by
  show PSs _ _ (t_init G _)
  unfold t_init
  exact pss_cons (s_expr (j_call C_check_number o (hr.mono (by decide)) (j_cons j_var j_nil)))
    (pss_cons (ownS (t := fun K => sFld K (tVar 0) (tLst (tCons (tVar 1) tNil)) "line") o.hK (ps_fld (pv 0) (pe_lst (pa_cons (pv 1) pa_nil)) rfl))
    (pss_one (ownS (t := fun K => sFld K (tVar 0) (tLst tNil) "past") o.hK (ps_fld (pv 0) (pe_lst pa_nil) rfl)))))
abbrev N_law_counted : List Str := ["_law_which", "_law_count"]
theorem sc_law_counted : FnScope N_law_counted ["_law_which", "_law_count"] (defScope sd_law_counted) := ⟨rfl, rfl, rfl, by decide +kernel, rfl, by decide +kernel, by decide +kernel⟩
theorem ok_law_counted {f : Addr} {fd : FuncData} (F : Fun K "_law_counted" "_law_counted" sd_law_counted f fd) (T : Txt K mg G) (C_law_powers : Callee P w K mg base "_law_powers" 6 (spOf G 2 f_law_powers)) (C_first_digits : Callee P w K mg base "first_digits" 4 (spOf G 2 f_first_digits)) (C_longer : Callee P w K mg base "longer" 4 (spOf G 2 f_longer)) (C_row_first_digits : MCallee P w K mg base G.row "first_digits" 3 (spOfM G 1 f_row_first_digits)) (C_products : Callee P w K mg base "products" 4 (spOf G 3 f_products)) (C_quotients : Callee P w K mg base "quotients" 4 (spOf G 3 f_quotients)) (C_sums : Callee P w K mg base "sums" 4 (spOf G 3 f_sums)) (C_squares : Callee P w K mg base "squares" 4 (spOf G 2 f_squares)) (C_roots : Callee P w K mg base "roots" 4 (spOf G 2 f_roots)) (C_never : Callee P w K mg base "never" 3 (spOf G 3 f_never)) (C_stretch : Callee P w K mg base "stretch" 4 (spOf G 2 f_stretch)) (C_count_multiples : Callee P w K mg base "count_multiples" 4 (spOf G 3 f_count_multiples)) (C_roots_with : Callee P w K mg base "roots_with" 4 (spOf G 2 f_roots_with)) (C_row_init : NCallee P w K mg base G.row 4 (spInit G)) :
    FnOk P w K mg base (L2.CX P w) 7 f fd ["_law_which", "_law_count"] (spOf G 2 f_law_counted) :=
  fn_run T.hG F sc_law_counted rfl fun cdv A outer s H E hr o hp => (s_cons (s_ite (t_eq o j_var j_int) (s_one (s_ret (j_call C_first_digits o (hr.mono (by decide)) (j_cons j_int (j_cons j_var j_nil))))) s_nil)
    (s_cons (s_ite (t_eq o j_var j_int) (s_one (s_ret (j_call C_longer o (hr.mono (by decide)) (j_cons j_int (j_cons j_var j_nil))))) s_nil)
    (s_cons (s_ite (t_eq o j_var j_int) (s_one (s_ret (j_rowM C_row_first_digits C_row_init o T.rf (hr.mono (by decide)) (hr.mono (by decide)) j_int j_var))) s_nil)
    (s_cons (s_ite (t_eq o j_var j_int) (s_one (s_ret (j_call C_products o (hr.mono (by decide)) (j_cons j_int (j_cons j_int (j_cons j_var j_nil)))))) s_nil)
    (s_cons (s_ite (t_eq o j_var j_int) (s_one (s_ret (j_call C_quotients o (hr.mono (by decide)) (j_cons j_int (j_cons j_int (j_cons j_var j_nil)))))) s_nil)
    (s_cons (s_ite (t_eq o j_var j_int) (s_one (s_ret (j_call C_sums o (hr.mono (by decide)) (j_cons j_int (j_cons j_int (j_cons j_var j_nil)))))) s_nil)
    (s_cons (s_ite (t_eq o j_var j_int) (s_one (s_ret (j_call C_squares o (hr.mono (by decide)) (j_cons j_int (j_cons j_var j_nil))))) s_nil)
    (s_cons (s_ite (t_eq o j_var j_int) (s_one (s_ret (j_call C_roots o (hr.mono (by decide)) (j_cons j_int (j_cons j_var j_nil))))) s_nil)
    (s_cons (s_ite (t_eq o j_var j_int) (s_one (s_ret (j_call C_never o (hr.mono (by decide)) (j_cons j_int (j_cons j_var (j_cons j_int j_nil)))))) s_nil)
    (s_cons (s_ite (t_eq o j_var j_int) (s_one (s_ret (j_call C_stretch o (hr.mono (by decide)) (j_cons j_int (j_cons j_var j_nil))))) s_nil)
    (s_cons (s_ite (t_eq o j_var j_int) (s_one (s_ret (j_call C_count_multiples o (hr.mono (by decide)) (j_cons j_int (j_cons j_int (j_cons j_var j_nil)))))) s_nil)
    (s_cons (s_ite (t_eq o j_var j_int) (s_one (s_ret (j_call C_roots_with o (hr.mono (by decide)) (j_cons j_int (j_cons j_var j_nil))))) s_nil)
    (s_one (s_ret (j_call C_law_powers o (hr.mono (by decide)) (j_cons j_var (j_cons j_var j_nil)))))))))))))))))
abbrev N_row_grown : List Str := ["self", "number"]
theorem sc_row_grown : FnScope N_row_grown ["self", "number"] (defScope sd_row_grown) := ⟨rfl, rfl, rfl, by decide +kernel, rfl, by decide +kernel, by decide +kernel⟩
theorem ok_row_grown {f : Addr} {fd : FuncData} (F : Fun K "grown" "Row.grown" sd_row_grown f fd) (T : Txt K mg G) (C_is_number : Callee P w K mg base "is_number" 2 (spOf G 1 f_is_number)) :
    FnOk P w K mg base (L2.CX P w) 3 f fd ["self", "number"] (spOfM G 1 f_row_grown) :=
  fn_runM T.hG F sc_row_grown rfl fun cdv A outer s H E hr o hp => (s_cons (s_ite (t_not (j_val (j_call C_is_number o (hr.mono (by decide)) (j_cons j_var j_nil)))) (s_one (s_raise o T.e_BadNumber)) s_nil)
    (s_cons (s_rowApp (q := false) (hst := (still_last 0)) o T.rf rfl j_var (j_rowLast o T.rf j_var (j_neg j_int)))
    (s_cons (s_rowApp (q := true) (hst := (still_var 1)) o T.rf rfl j_var j_var)
    (s_one (s_ret j_var)))))
abbrev N_row_multiply : List Str := ["self", "base"]
theorem sc_row_multiply : FnScope N_row_multiply ["self", "base"] (defScope sd_row_multiply) := ⟨rfl, rfl, rfl, by decide +kernel, rfl, by decide +kernel, by decide +kernel⟩
theorem ok_row_multiply {f : Addr} {fd : FuncData} (F : Fun K "multiply" "Row.multiply" sd_row_multiply f fd) (T : Txt K mg G) (C_check_base : Callee P w K mg base "check_base" 2 (spOf G 1 f_check_base)) (C_row_grown : MCallee P w K mg base G.row "grown" 3 (spOfM G 1 f_row_grown)) :
    FnOk P w K mg base (L2.CX P w) 4 f fd ["self", "base"] (spOfM G 1 f_row_multiply) :=
  fn_runM T.hG F sc_row_multiply rfl fun cdv A outer s H E hr o hp => (s_cons (s_expr (j_call C_check_base o (hr.mono (by decide)) (j_cons j_var j_nil)))
    (s_one (s_ret (j_meth C_row_grown o T.rf (hr.mono (by decide)) j_var (j_cons (j_mul (j_rowLast o T.rf j_var (j_neg j_int)) j_var) j_nil)))))
abbrev N_law_based : List Str := ["_law_which", "_law_base"]
theorem sc_law_based : FnScope N_law_based ["_law_which", "_law_base"] (defScope sd_law_based) := ⟨rfl, rfl, rfl, by decide +kernel, rfl, by decide +kernel, by decide +kernel⟩
theorem ok_law_based {f : Addr} {fd : FuncData} (F : Fun K "_law_based" "_law_based" sd_law_based f fd) (T : Txt K mg G) (C_power_places : Callee P w K mg base "power_places" 5 (spOf G 3 f_power_places)) (C_first_power : Callee P w K mg base "first_power" 5 (spOf G 3 f_first_power)) (C_waits : Callee P w K mg base "waits" 5 (spOf G 3 f_waits)) (C_longest_wait : Callee P w K mg base "longest_wait" 5 (spOf G 3 f_longest_wait)) (C_digit_table : Callee P w K mg base "digit_table" 3 (spOf G 2 f_digit_table)) (C_never : Callee P w K mg base "never" 3 (spOf G 3 f_never)) (C_powers_with : Callee P w K mg base "powers_with" 3 (spOf G 2 f_powers_with)) (C_row_multiply : MCallee P w K mg base G.row "multiply" 4 (spOfM G 1 f_row_multiply)) (C_first_multiple : Callee P w K mg base "first_multiple" 4 (spOf G 2 f_first_multiple)) (C_multiple_places : Callee P w K mg base "multiple_places" 4 (spOf G 3 f_multiple_places)) (C_count_multiples : Callee P w K mg base "count_multiples" 4 (spOf G 3 f_count_multiples)) (C_row_init : NCallee P w K mg base G.row 4 (spInit G)) :
    FnOk P w K mg base (L2.CX P w) 6 f fd ["_law_which", "_law_base"] (spOf G 2 f_law_based) :=
  fn_run T.hG F sc_law_based rfl fun cdv A outer s H E hr o hp => (s_cons (s_ite (t_eq o j_var j_int) (s_one (s_ret (j_call C_power_places o (hr.mono (by decide)) (j_cons j_var (j_cons j_non (j_cons j_non j_nil)))))) s_nil)
    (s_cons (s_ite (t_eq o j_var j_int) (s_one (s_ret (j_call C_first_power o (hr.mono (by decide)) (j_cons j_var (j_cons j_non (j_cons j_non j_nil)))))) s_nil)
    (s_cons (s_ite (t_eq o j_var j_int) (s_one (s_ret (j_call C_waits o (hr.mono (by decide)) (j_cons j_var (j_cons j_non (j_cons j_non j_nil)))))) s_nil)
    (s_cons (s_ite (t_eq o j_var j_int) (s_one (s_ret (j_call C_longest_wait o (hr.mono (by decide)) (j_cons j_var (j_cons j_non (j_cons j_non j_nil)))))) s_nil)
    (s_cons (s_ite (t_eq o j_var j_int) (s_one (s_ret (j_call C_digit_table o (hr.mono (by decide)) (j_cons j_var (j_cons j_non j_nil))))) s_nil)
    (s_cons (s_ite (t_eq o j_var j_int) (s_one (s_ret (j_call C_never o (hr.mono (by decide)) (j_cons j_var (j_cons j_non (j_cons j_non j_nil)))))) s_nil)
    (s_cons (s_ite (t_eq o j_var j_int) (s_one (s_ret (j_call C_powers_with o (hr.mono (by decide)) (j_cons j_var (j_cons j_non j_nil))))) s_nil)
    (s_cons (s_ite (t_eq o j_var j_int) (s_one (s_ret (j_rowM C_row_multiply C_row_init o T.rf (hr.mono (by decide)) (hr.mono (by decide)) j_int j_var))) s_nil)
    (s_cons (s_ite (t_eq o j_var j_int) (s_one (s_ret (j_call C_first_multiple o (hr.mono (by decide)) (j_cons j_var (j_cons j_non j_nil))))) s_nil)
    (s_one (s_ret (j_ite (t_eq o j_var j_int) (j_call C_multiple_places o (hr.mono (by decide)) (j_cons j_var (j_cons j_non (j_cons j_non j_nil)))) (j_call C_count_multiples o (hr.mono (by decide)) (j_cons j_var (j_cons j_non (j_cons j_non j_nil))))))))))))))))
abbrev N_law_asked : List Str := ["_law_group", "_law_which", "_law_one", "_law_caught", "e"]
theorem sc_law_asked : FnScope N_law_asked ["_law_group", "_law_which", "_law_one"] (defScope sd_law_asked) := ⟨rfl, rfl, rfl, by decide +kernel, rfl, by decide +kernel, by decide +kernel⟩
theorem ok_law_asked {f : Addr} {fd : FuncData} (F : Fun K "_law_asked" "_law_asked" sd_law_asked f fd) (T : Txt K mg G) (C_law_error : Callee P w K mg base "_law_error" 1 (spOf G 1 f_law_error)) (C_law_counted : Callee P w K mg base "_law_counted" 7 (spOf G 2 f_law_counted)) (C_law_based : Callee P w K mg base "_law_based" 6 (spOf G 2 f_law_based)) (C_format_beginnings : Callee P w K mg base "format_beginnings" 4 (spOf G 1 f_format_beginnings)) (C_longest_wait : Callee P w K mg base "longest_wait" 5 (spOf G 3 f_longest_wait)) (C_stretch : Callee P w K mg base "stretch" 4 (spOf G 2 f_stretch)) (C_roots_with : Callee P w K mg base "roots_with" 4 (spOf G 2 f_roots_with)) (C_product_example : Callee P w K mg base "product_example" 4 (spOf G 3 f_product_example)) :
    FnOk P w K mg base (L2.CX P w) 8 f fd ["_law_group", "_law_which", "_law_one"] (spOf G 3 f_law_asked) :=
  fn_run T.hG F sc_law_asked rfl fun cdv A outer s H E hr o hp => (s_cons (s_asg o j_non)
    (s_cons (s_try o T.ef T.x_DigitError (fun W pn xe o hp => (s_one (s_ite (t_eq o j_var j_int) (s_one (s_expr (j_call C_law_counted o (hr.mono (by decide)) (j_cons j_var (j_cons j_var j_nil))))) (s_one (s_ite (t_eq o j_var j_int) (s_one (s_expr (j_call C_law_based o (hr.mono (by decide)) (j_cons j_var (j_cons j_var j_nil))))) (s_one (s_ite (t_eq o j_var j_int) (s_one (s_expr (j_call C_format_beginnings o (hr.mono (by decide)) (j_cons j_var j_nil)))) (s_one (s_ite (t_eq o j_var j_int) (s_one (s_expr (j_call C_longest_wait o (hr.mono (by decide)) (j_cons j_int (j_cons j_int (j_cons j_var j_nil)))))) (s_one (s_ite (t_eq o j_var j_int) (s_one (s_expr (j_call C_stretch o (hr.mono (by decide)) (j_cons j_int (j_cons j_var j_nil))))) (s_one (s_ite (t_eq o j_var j_int) (s_one (s_expr (j_call C_roots_with o (hr.mono (by decide)) (j_cons j_int (j_cons j_var j_nil))))) (s_one (s_expr (j_call C_product_example o (hr.mono (by decide)) (j_cons j_int (j_cons j_int (j_cons j_var j_nil))))))))))))))))))))
    (s_one (s_ret (j_ite (t_isN j_var j_non) j_str (j_call C_law_error o (hr.mono (by decide)) (j_cons j_var j_nil)))))))
abbrev N_row_add : List Str := ["self", "number"]
theorem sc_row_add : FnScope N_row_add ["self", "number"] (defScope sd_row_add) := ⟨rfl, rfl, rfl, by decide +kernel, rfl, by decide +kernel, by decide +kernel⟩
theorem ok_row_add {f : Addr} {fd : FuncData} (F : Fun K "add" "Row.add" sd_row_add f fd) (T : Txt K mg G) (C_check_number : Callee P w K mg base "check_number" 3 (spOf G 1 f_check_number)) (C_row_grown : MCallee P w K mg base G.row "grown" 3 (spOfM G 1 f_row_grown)) :
    FnOk P w K mg base (L2.CX P w) 4 f fd ["self", "number"] (spOfM G 1 f_row_add) :=
  fn_runM T.hG F sc_row_add rfl fun cdv A outer s H E hr o hp => (s_cons (s_expr (j_call C_check_number o (hr.mono (by decide)) (j_cons j_var j_nil)))
    (s_one (s_ret (j_meth C_row_grown o T.rf (hr.mono (by decide)) j_var (j_cons (j_add (j_rowLast o T.rf j_var (j_neg j_int)) j_var) j_nil)))))
abbrev N_row_len : List Str := ["self"]
theorem sc_row_len : FnScope N_row_len ["self"] (defScope sd_row_len) := ⟨rfl, rfl, rfl, by decide +kernel, rfl, by decide +kernel, by decide +kernel⟩
theorem ok_row_len {f : Addr} {fd : FuncData} (F : Fun K "__len__" "Row.__len__" sd_row_len f fd) (T : Txt K mg G)  :
    FnOk P w K mg base (L2.CX P w) 1 f fd ["self"] (spOfM G 0 f_row_len) :=
  fn_runM T.hG F sc_row_len rfl fun cdv A outer s H E hr o hp => (s_one (s_ret (j_rowLen o T.rf T.n_len j_var)))
abbrev N_row_number : List Str := ["self"]
theorem sc_row_number : FnScope N_row_number ["self"] (defScope sd_row_number) := ⟨rfl, rfl, rfl, by decide +kernel, rfl, by decide +kernel, by decide +kernel⟩
theorem ok_row_number {f : Addr} {fd : FuncData} (F : Fun K "number" "Row.number" sd_row_number f fd) (T : Txt K mg G)  :
    FnOk P w K mg base (L2.CX P w) 1 f fd ["self"] (spOfM G 0 f_row_number) :=
  fn_runM T.hG F sc_row_number rfl fun cdv A outer s H E hr o hp => (s_one (s_ret (j_rowLast o T.rf j_var (j_neg j_int))))
abbrev N_row_undo : List Str := ["self"]
theorem sc_row_undo : FnScope N_row_undo ["self"] (defScope sd_row_undo) := ⟨rfl, rfl, rfl, by decide +kernel, rfl, by decide +kernel, by decide +kernel⟩
theorem ok_row_undo {f : Addr} {fd : FuncData} (F : Fun K "undo" "Row.undo" sd_row_undo f fd) (T : Txt K mg G)  :
    FnOk P w K mg base (L2.CX P w) 1 f fd ["self"] (spOfM G 0 f_row_undo) :=
  fn_runM T.hG F sc_row_undo rfl fun cdv A outer s H E hr o hp => (s_cons (s_ite (t_rowNil o T.rf j_var (j_lst j_nil)) (s_one (s_raise o T.e_NotFound)) s_nil)
    (s_cons (s_rowPop (q := false) o T.rf rfl j_var)
    (s_cons (s_rowPop (q := true) o T.rf rfl j_var)
    (s_one (s_ret (j_rowLast o T.rf j_var (j_neg j_int)))))))
abbrev N_law_row : List Str := ["_law_shown", "_law_caught", "_law_calls", "_law_kind", "_law_one", "e"]
theorem sc_law_row : FnScope N_law_row [] (defScope sd_law_row) := ⟨rfl, rfl, rfl, by decide +kernel, rfl, by decide +kernel, by decide +kernel⟩
theorem ok_law_row {f : Addr} {fd : FuncData} (F : Fun K "_law_row" "_law_row" sd_law_row f fd) (T : Txt K mg G) (C_row_init : NCallee P w K mg base G.row 4 (spInit G)) (C_law_ten : Callee P w K mg base "_law_ten" 1 (spOf G 1 f_law_ten)) (C_row_add : MCallee P w K mg base G.row "add" 4 (spOfM G 1 f_row_add)) (C_row_len : MCallee P w K mg base G.row "__len__" 1 (spOfM G 0 f_row_len)) (C_row_multiply : MCallee P w K mg base G.row "multiply" 4 (spOfM G 1 f_row_multiply)) (C_row_number : MCallee P w K mg base G.row "number" 1 (spOfM G 0 f_row_number)) (C_row_undo : MCallee P w K mg base G.row "undo" 1 (spOfM G 0 f_row_undo)) (C_law_error : Callee P w K mg base "_law_error" 1 (spOf G 1 f_law_error)) (E_law_error : CalleeE P w K mg base "_law_error" 1 (spOf G 1 f_law_error)) :
    FnOk P w K mg base (L2.CX P w) 6 f fd [] (spOf G 0 f_law_row) :=
  fn_run T.hG F sc_law_row rfl fun cdv A outer s H E hr o hp => (s_cons (s_newRow C_row_init o T.rf (hr.mono (by decide)) (j_mul (j_call C_law_ten o (hr.mono (by decide)) (j_cons j_int j_nil)) j_int))
    (s_cons (s_asgOw o (j_disp j_nil))
    (s_cons (s_asg o (j_lst (j_cons (j_tup (j_cons j_int (j_cons j_int j_nil))) (j_cons (j_tup (j_cons j_int (j_cons j_int j_nil))) (j_cons (j_tup (j_cons j_int (j_cons j_bl j_nil))) (j_cons (j_tup (j_cons j_int (j_cons j_non j_nil))) (j_cons (j_tup (j_cons j_int (j_cons j_int j_nil))) (j_cons (j_tup (j_cons j_int (j_cons j_int j_nil))) (j_cons (j_tup (j_cons j_int (j_cons j_non j_nil))) (j_cons (j_tup (j_cons j_int (j_cons j_int j_nil))) j_nil))))))))))
    (s_cons (s_for o hp (i_list o (j_cat (j_lst (j_cons (j_tup (j_cons j_int (j_cons (j_call C_law_ten o (hr.mono (by decide)) (j_cons j_int j_nil)) j_nil))) (j_cons (j_tup (j_cons j_int (j_cons (j_mul (j_call C_law_ten o (hr.mono (by decide)) (j_cons j_int j_nil)) j_int) j_nil))) j_nil))) j_var)) (g_tup o (g_n1 sc_law_row.nd (g_n1 sc_law_row.nd g_n0))) (s_cons (s_tryApp E_law_error (hr.mono (by decide)) o T.ef T.x_DigitError (fun W pn xe o hp => (s_one (s_ite (t_eq o j_var j_int) (s_one (s_expr (j_meth C_row_multiply o T.rf (hr.mono (by decide)) j_var (j_cons j_var j_nil)))) (s_one (s_ite (t_eq o j_var j_int) (s_one (s_expr (j_meth C_row_add o T.rf (hr.mono (by decide)) j_var (j_cons j_var j_nil)))) (s_one (s_expr (j_meth0 C_row_undo o T.rf (hr.mono (by decide)) j_var)))))))))
    (s_one (s_ite (t_bop (w_or (t_ne o (j_meth0 C_row_number o T.rf (hr.mono (by decide)) j_var) (j_mul (j_call C_law_ten o (hr.mono (by decide)) (j_cons j_int j_nil)) j_int)) (w_or1 (t_ne o (j_lenRow C_row_len o (hr.mono (by decide)) T.n_len j_var) j_int)))) (s_one (s_ret j_bl)) s_nil))))
    (s_freeze (s_one (s_ret (j_andV (j_eq o j_var (j_cat (j_ofL (j_repL (j_lst (j_cons j_str j_nil)) j_int)) (j_lst (j_cons j_str j_nil)))) (j_andV (j_eq o (j_meth C_row_add o T.rf (hr.mono (by decide)) j_var (j_cons (j_sub (j_mul (j_call C_law_ten o (hr.mono (by decide)) (j_cons j_int j_nil)) j_int) j_int) j_nil)) (j_sub (j_call C_law_ten o (hr.mono (by decide)) (j_cons j_int j_nil)) j_int)) (j_one (j_eq o (j_lenRow C_row_len o (hr.mono (by decide)) T.n_len j_var) j_int)))))))))))
abbrev N_law : List Str := ["_law_script", "_law_draws", "_law_highs", "_law_lows", "_law_which", "_law_bad", "_law_high", "_law_low", "_law_due", "_law_told", "_law_k", "_law_most", "_law_count", "_law_far"]
theorem sc_law : FnScope N_law ["_law_script"] (defScope sd_law) := ⟨rfl, rfl, rfl, by decide +kernel, rfl, by decide +kernel, by decide +kernel⟩
theorem ok_law {f : Addr} {fd : FuncData} (F : Fun K "law" "law" sd_law f fd) (T : Txt K mg G) (C_law_start : Callee P w K mg base "_law_start" 1 (spStart G)) (C_law_asked : Callee P w K mg base "_law_asked" 8 (spOf G 3 f_law_asked)) (C_law_row : Callee P w K mg base "_law_row" 6 (spOf G 0 f_law_row)) (C_law_pick : Callee P w K mg base "_law_pick" 2 (spOfM G 1 f_law_pick)) :
    FnOk P w K mg base (L2.CX P w) 9 f fd ["_law_script"] (spLaw K) :=
  fn_law T.hG F sc_law rfl rfl law_true fun cdv A outer s H E hr o hp => pss_cons (ps_set o.nd rfl (Or.inl rfl) (by obtain ⟨f, fd, ps, F, hm, hk, hb⟩ := C_law_start.ex; exact pe_callS F (hr.mono (by decide)) rfl hm hk hb (fun σ => passAt o.tk σ) (pa_cons (pv 0) pa_nil)))
    (s_cons (s_asg o (j_lst (j_cons j_int (j_cons j_int (j_cons j_int (j_cons j_int (j_cons j_int (j_cons j_int (j_cons j_int (j_cons j_int (j_cons j_int (j_cons j_int (j_cons j_int (j_cons j_int (j_cons j_int (j_cons j_int (j_cons j_int (j_cons j_int (j_cons j_int (j_cons j_int (j_cons j_int (j_cons j_int j_nil))))))))))))))))))))))
    (s_cons (s_asg o (j_cat (j_cat (j_ofL (j_repL (j_lst (j_cons j_int j_nil)) j_int)) (j_ofL (j_repL (j_lst (j_cons j_int j_nil)) j_int))) (j_lst (j_cons j_int (j_cons j_int (j_cons j_int j_nil))))))
    (s_cons (s_for o hp (i_rng1 T.n_range j_int) (g_nm sc_law.nd) (s_one (s_for o hp (i_list o (j_lst (j_cons j_non (j_cons (j_sub (j_ix o j_var j_var) j_int) (j_cons (j_add (j_ix o j_var j_var) j_int) (j_cons j_bl (j_cons j_str j_nil))))))) (g_nm sc_law.nd) (s_one (s_ite (t_ne o (j_call C_law_asked o (hr.mono (by decide)) (j_cons j_int (j_cons j_var (j_cons j_var j_nil)))) j_str) (s_one (s_ret j_bl)) s_nil)))))
    (s_cons (s_ite (t_bop (w_or (t_ne o (j_ofL (j_lc o (i_rng1 T.n_range j_int) (blkOk_by (own := [("_law_k", 10)]) (N := N_law) (sc := defScope sd_law) (by decide +kernel)) (fun s H C cl fp o => g_nm sc_law.nd) (fun s H C cl fp o => t_none) (fun s H C cl fp o => (j_call C_law_asked o (hr.mono (by decide)) (j_cons j_int (j_cons j_var (j_cons (j_ix o j_var j_var) j_nil))))))) (j_ofL (j_repL (j_lst (j_cons j_str j_nil)) j_int))) (w_or1 (t_ne o (j_ofL (j_lc o (i_rng1 T.n_range j_int) (blkOk_by (own := [("_law_k", 10)]) (N := N_law) (sc := defScope sd_law) (by decide +kernel)) (fun s H C cl fp o => g_nm sc_law.nd) (fun s H C cl fp o => t_none) (fun s H C cl fp o => (j_call C_law_asked o (hr.mono (by decide)) (j_cons j_int (j_cons j_var (j_cons (j_ix o j_var j_var) j_nil))))))) (j_ofL (j_repL (j_lst (j_cons j_str j_nil)) j_int)))))) (s_one (s_ret j_bl)) s_nil)
    (s_cons (s_for o hp (i_rng1 T.n_range j_int) (g_nm sc_law.nd) (s_cons (s_asg o (j_ite (t_lt j_var j_int) j_int j_int))
    (s_cons (s_asg o (j_ite (t_lt j_var j_int) j_int j_int))
    (s_cons (s_for o hp (i_list o (j_lst (j_cons j_non (j_cons (j_sub j_var j_int) (j_cons (j_add j_var j_int) (j_cons (j_sub j_int j_int) (j_cons j_bl (j_cons j_str j_nil)))))))) (g_nm sc_law.nd) (s_one (s_ite (t_ne o (j_call C_law_asked o (hr.mono (by decide)) (j_cons j_int (j_cons j_var (j_cons j_var j_nil)))) j_str) (s_one (s_ret j_bl)) s_nil)))
    (s_cons (s_asg o (j_ite (t_in o j_var (j_tup (j_cons j_int (j_cons j_int (j_cons j_int (j_cons j_int (j_cons j_int (j_cons j_int (j_cons j_int j_nil))))))))) j_str (j_ite (t_eq o j_var j_int) j_str j_str)))
    (s_one (s_ite (t_ne o (j_call C_law_asked o (hr.mono (by decide)) (j_cons j_int (j_cons j_var (j_cons (j_callM C_law_pick o (hr.mono (by decide)) j_var (j_cons (j_lst (j_cons j_var (j_cons j_var j_nil))) j_nil)) j_nil)))) j_var) (s_one (s_ret j_bl)) s_nil)))))))
    (s_cons (s_for o hp (i_list o (j_lst (j_cons j_non (j_cons j_int (j_cons (j_tup j_nil) (j_cons (j_lst j_nil) (j_cons (j_tup (j_cons j_int (j_cons j_int j_nil))) (j_cons (j_lst (j_cons j_int j_nil)) (j_cons (j_lst (j_cons j_int j_nil)) (j_cons (j_lst (j_cons j_bl j_nil)) (j_cons (j_lst (j_cons j_str j_nil)) (j_cons (j_ofL (j_repL (j_lst (j_cons j_int j_nil)) j_int)) (j_cons (j_lst (j_cons j_int (j_cons j_non j_nil))) j_nil))))))))))))) (g_nm sc_law.nd) (s_one (s_ite (t_ne o (j_call C_law_asked o (hr.mono (by decide)) (j_cons j_int (j_cons j_int (j_cons j_var j_nil)))) j_str) (s_one (s_ret j_bl)) s_nil)))
    (s_cons (s_setLc o (i_tup o (j_tup (j_cons j_non (j_cons j_int (j_cons j_int (j_cons j_int (j_cons j_int j_nil))))))) (blkOk_by (own := [("_law_most", 11)]) (N := N_law) (sc := defScope sd_law) (by decide +kernel)) (fun s H C cl fp o => g_nm sc_law.nd) (fun s H C cl fp o => t_none) (fun s H C cl fp o => (j_call C_law_asked o (hr.mono (by decide)) (j_cons j_int (j_cons j_int (j_cons j_var j_nil))))))
    (s_cons (s_ite (t_bop (w_or (t_ne o (j_call C_law_asked o (hr.mono (by decide)) (j_cons j_int (j_cons j_int (j_cons (j_ofL (j_repL (j_lst (j_cons j_int j_nil)) j_int)) j_nil)))) j_str) (w_or1 (t_ne o j_var (j_lst (j_cons j_str (j_cons j_str (j_cons j_str (j_cons j_str (j_cons j_str j_nil)))))))))) (s_one (s_ret j_bl)) s_nil)
    (s_cons (s_ite (t_ne o (j_ofL (j_lc o (i_tup o (j_tup (j_cons j_int (j_cons j_int j_nil)))) (blkOk_by (own := [("_law_count", 12)]) (N := N_law) (sc := defScope sd_law) (by decide +kernel)) (fun s H C cl fp o => g_nm sc_law.nd) (fun s H C cl fp o => t_none) (fun s H C cl fp o => (j_call C_law_asked o (hr.mono (by decide)) (j_cons j_int (j_cons j_int (j_cons j_var j_nil))))))) (j_lst (j_cons j_str (j_cons j_str j_nil)))) (s_one (s_ret j_bl)) s_nil)
    (s_cons (s_ite (t_ne o (j_ofL (j_lc o (i_tup o (j_tup (j_cons j_int (j_cons j_int (j_cons j_int (j_cons j_int (j_cons j_int j_nil))))))) (blkOk_by (own := [("_law_count", 12)]) (N := N_law) (sc := defScope sd_law) (by decide +kernel)) (fun s H C cl fp o => g_nm sc_law.nd) (fun s H C cl fp o => t_none) (fun s H C cl fp o => (j_call C_law_asked o (hr.mono (by decide)) (j_cons j_int (j_cons j_int (j_cons j_var j_nil))))))) (j_cat (j_lst (j_cons j_str j_nil)) (j_ofL (j_repL (j_lst (j_cons j_str j_nil)) j_int)))) (s_one (s_ret j_bl)) s_nil)
    (s_one (s_ret (j_andV (j_eq o (j_ofL (j_lc o (i_tup o (j_tup (j_cons j_int (j_cons j_int (j_cons j_int (j_cons j_int (j_cons j_int j_nil))))))) (blkOk_by (own := [("_law_far", 13)]) (N := N_law) (sc := defScope sd_law) (by decide +kernel)) (fun s H C cl fp o => g_nm sc_law.nd) (fun s H C cl fp o => t_none) (fun s H C cl fp o => (j_call C_law_asked o (hr.mono (by decide)) (j_cons j_int (j_cons j_int (j_cons j_var j_nil))))))) (j_lst (j_cons j_str (j_cons j_str (j_cons j_str (j_cons j_str (j_cons j_str j_nil))))))) (j_one (j_call0 C_law_row o (hr.mono (by decide)))))))))))))))))
end
theorem all_mk {l : PySem.W.OpenLaw} {w : World} {K : PySem.W.Frag} {h : Heap} {mg : Str → Option Value} {fa f0 f1 f2 f3 f4 f5 f6 f7 f8 f9 f10 f11 f12 f13 f14 f15 f16 f17 f18 f19 f20 f21 f22 f23 f24 f25 f26 f27 f28 f29 f30 f31 f32 f33 f34 f35 f36 f37 f38 f39 f40 f41 f42 f43 f44 f45 f46 f47 f48 f49 f50 f51 f52 f53 f54 f55 f56 f57 f58 f59 f60 f61 f62 f63 f64 f65 f66 f67 e0 e1 e2 e3 e4 e5 rC : Addr} (X : K.In h) (G : h.Ns mainGlobals mg) (hfa : mg "law" = some (.ref fa))
    {od0 an0 od1 an1 od2 an2 od3 an3 od4 an4 od5 an5 od6 an6 od7 an7 od8 an8 od9 an9 od10 an10 od11 an11 od12 an12 od13 an13 od14 an14 od15 an15 od16 an16 od17 an17 od18 an18 od19 an19 od20 an20 od21 an21 od22 an22 od23 an23 od24 an24 od25 an25 od26 an26 od27 an27 od28 an28 od29 an29 od30 an30 od31 an31 od32 an32 od33 an33 od34 an34 od35 an35 od36 an36 od37 an37 od38 an38 od39 an39 od40 an40 od41 an41 od42 an42 od43 an43 od44 an44 od45 an45 od46 an46 od47 an47 od48 an48 od49 an49 od50 an50 od51 an51 od52 an52 od53 an53 od54 an54 od55 an55 od56 an56 od57 an57 od58 an58 od59 an59 od60 an60 od61 an61 od62 an62 od63 an63 od64 an64 od65 an65 od66 an66 od67 an67 : Option Addr} {sl0 sl1 sl2 sl3 sl4 sl5 sl6 sl7 sl8 sl9 sl10 sl11 sl12 sl13 sl14 sl15 sl16 sl17 sl18 sl19 sl20 sl21 sl22 sl23 sl24 sl25 sl26 sl27 sl28 sl29 sl30 sl31 sl32 sl33 sl34 sl35 sl36 sl37 sl38 sl39 sl40 sl41 sl42 sl43 sl44 sl45 sl46 sl47 sl48 sl49 sl50 sl51 sl52 sl53 sl54 sl55 sl56 sl57 sl58 sl59 sl60 sl61 sl62 sl63 sl64 sl65 sl66 sl67 : Array (Option Value)} {oc0 kV0 dc0 pm0 cd0 ct0 oc1 kV1 dc1 pm1 cd1 ct1 oc2 kV2 dc2 pm2 cd2 ct2 oc3 kV3 dc3 pm3 cd3 ct3 oc4 kV4 dc4 pm4 cd4 ct4 oc5 kV5 dc5 pm5 cd5 ct5 oc6 kV6 dc6 pm6 cd6 ct6 oc7 kV7 dc7 pm7 cd7 ct7 oc8 kV8 dc8 pm8 cd8 ct8 oc9 kV9 dc9 pm9 cd9 ct9 oc10 kV10 dc10 pm10 cd10 ct10 oc11 kV11 dc11 pm11 cd11 ct11 oc12 kV12 dc12 pm12 cd12 ct12 oc13 kV13 dc13 pm13 cd13 ct13 oc14 kV14 dc14 pm14 cd14 ct14 oc15 kV15 dc15 pm15 cd15 ct15 oc16 kV16 dc16 pm16 cd16 ct16 oc17 kV17 dc17 pm17 cd17 ct17 oc18 kV18 dc18 pm18 cd18 ct18 oc19 kV19 dc19 pm19 cd19 ct19 oc20 kV20 dc20 pm20 cd20 ct20 oc21 kV21 dc21 pm21 cd21 ct21 oc22 kV22 dc22 pm22 cd22 ct22 oc23 kV23 dc23 pm23 cd23 ct23 oc24 kV24 dc24 pm24 cd24 ct24 oc25 kV25 dc25 pm25 cd25 ct25 oc26 kV26 dc26 pm26 cd26 ct26 oc27 kV27 dc27 pm27 cd27 ct27 oc28 kV28 dc28 pm28 cd28 ct28 oc29 kV29 dc29 pm29 cd29 ct29 oc30 kV30 dc30 pm30 cd30 ct30 oc31 kV31 dc31 pm31 cd31 ct31 oc32 kV32 dc32 pm32 cd32 ct32 oc33 kV33 dc33 pm33 cd33 ct33 oc34 kV34 dc34 pm34 cd34 ct34 oc35 kV35 dc35 pm35 cd35 ct35 oc36 kV36 dc36 pm36 cd36 ct36 oc37 kV37 dc37 pm37 cd37 ct37 oc38 kV38 dc38 pm38 cd38 ct38 oc39 kV39 dc39 pm39 cd39 ct39 oc40 kV40 dc40 pm40 cd40 ct40 oc41 kV41 dc41 pm41 cd41 ct41 oc42 kV42 dc42 pm42 cd42 ct42 oc43 kV43 dc43 pm43 cd43 ct43 oc44 kV44 dc44 pm44 cd44 ct44 oc45 kV45 dc45 pm45 cd45 ct45 oc46 kV46 dc46 pm46 cd46 ct46 oc47 kV47 dc47 pm47 cd47 ct47 oc48 kV48 dc48 pm48 cd48 ct48 oc49 kV49 dc49 pm49 cd49 ct49 oc50 kV50 dc50 pm50 cd50 ct50 oc51 kV51 dc51 pm51 cd51 ct51 oc52 kV52 dc52 pm52 cd52 ct52 oc53 kV53 dc53 pm53 cd53 ct53 oc54 kV54 dc54 pm54 cd54 ct54 oc55 kV55 dc55 pm55 cd55 ct55 oc56 kV56 dc56 pm56 cd56 ct56 oc57 kV57 dc57 pm57 cd57 ct57 oc58 kV58 dc58 pm58 cd58 ct58 oc59 kV59 dc59 pm59 cd59 ct59 oc60 kV60 dc60 pm60 cd60 ct60 oc61 kV61 dc61 pm61 cd61 ct61 oc62 kV62 dc62 pm62 cd62 ct62 oc63 kV63 dc63 pm63 cd63 ct63 oc64 kV64 dc64 pm64 cd64 ct64 oc65 kV65 dc65 pm65 cd65 ct65 oc66 kV66 dc66 pm66 cd66 ct66 oc67 kV67 dc67 pm67 cd67 ct67 : Value}
    (ydig : PySem.W.nsIn K cStatics "sys.int_max_str_digits" = some none)
    (rA : PySem.W.nsIn K mainGlobals "Row" = some (some (.ref rC)))
    (rg : PySem.W.plainGet K rC Str.empty = true)
    (rh : PySem.W.hasDictIn K rC = true)
    (ro : PySem.W.plainOver K rC = true)
    (rs : PySem.W.findIn K (.ref rC) "__setattr__" = some (some (.builtin "object.__setattr__")))
    (rm : PySem.W.makesIn K rC = true)
    (rk : PySem.W.keepIn K (.ref rC) = true)
    (rl : PySem.W.findIn K (.ref rC) "line" = some none)
    (rp : PySem.W.findIn K (.ref rC) "past" = some none)
    (a0 : PySem.W.nsIn K mainGlobals "is_int" = some (some (.ref f0)))
    (l0 : K.lookup f0 = some ⟨oc0, od0, .func (PySem.W.fnOf "is_int" "is_int" (defArgs sd_is_int) (defBody sd_is_int) (defScope sd_is_int) .none kV0 dc0 pm0 an0 cd0 ct0), sl0⟩)
    (c0 : PySem.W.codeIn K cd0 "is_int" = true)
    (k0 : PySem.W.keepIn K (.ref f0) = true)
    (a1 : PySem.W.nsIn K mainGlobals "ten_to" = some (some (.ref f1)))
    (l1 : K.lookup f1 = some ⟨oc1, od1, .func (PySem.W.fnOf "ten_to" "ten_to" (defArgs sd_ten_to) (defBody sd_ten_to) (defScope sd_ten_to) .none kV1 dc1 pm1 an1 cd1 ct1), sl1⟩)
    (c1 : PySem.W.codeIn K cd1 "ten_to" = true)
    (k1 : PySem.W.keepIn K (.ref f1) = true)
    (a2 : PySem.W.nsIn K mainGlobals "is_number" = some (some (.ref f2)))
    (l2 : K.lookup f2 = some ⟨oc2, od2, .func (PySem.W.fnOf "is_number" "is_number" (defArgs sd_is_number) (defBody sd_is_number) (defScope sd_is_number) .none kV2 dc2 pm2 an2 cd2 ct2), sl2⟩)
    (c2 : PySem.W.codeIn K cd2 "is_number" = true)
    (k2 : PySem.W.keepIn K (.ref f2) = true)
    (a3 : PySem.W.nsIn K mainGlobals "is_beginning" = some (some (.ref f3)))
    (l3 : K.lookup f3 = some ⟨oc3, od3, .func (PySem.W.fnOf "is_beginning" "is_beginning" (defArgs sd_is_beginning) (defBody sd_is_beginning) (defScope sd_is_beginning) .none kV3 dc3 pm3 an3 cd3 ct3), sl3⟩)
    (c3 : PySem.W.codeIn K cd3 "is_beginning" = true)
    (k3 : PySem.W.keepIn K (.ref f3) = true)
    (a4 : PySem.W.nsIn K mainGlobals "check_number" = some (some (.ref f4)))
    (l4 : K.lookup f4 = some ⟨oc4, od4, .func (PySem.W.fnOf "check_number" "check_number" (defArgs sd_check_number) (defBody sd_check_number) (defScope sd_check_number) .none kV4 dc4 pm4 an4 cd4 ct4), sl4⟩)
    (c4 : PySem.W.codeIn K cd4 "check_number" = true)
    (k4 : PySem.W.keepIn K (.ref f4) = true)
    (a5 : PySem.W.nsIn K mainGlobals "check_beginning" = some (some (.ref f5)))
    (l5 : K.lookup f5 = some ⟨oc5, od5, .func (PySem.W.fnOf "check_beginning" "check_beginning" (defArgs sd_check_beginning) (defBody sd_check_beginning) (defScope sd_check_beginning) .none kV5 dc5 pm5 an5 cd5 ct5), sl5⟩)
    (c5 : PySem.W.codeIn K cd5 "check_beginning" = true)
    (k5 : PySem.W.keepIn K (.ref f5) = true)
    (a6 : PySem.W.nsIn K mainGlobals "check_count" = some (some (.ref f6)))
    (l6 : K.lookup f6 = some ⟨oc6, od6, .func (PySem.W.fnOf "check_count" "check_count" (defArgs sd_check_count) (defBody sd_check_count) (defScope sd_check_count) .none kV6 dc6 pm6 an6 cd6 ct6), sl6⟩)
    (c6 : PySem.W.codeIn K cd6 "check_count" = true)
    (k6 : PySem.W.keepIn K (.ref f6) = true)
    (a7 : PySem.W.nsIn K mainGlobals "check_base" = some (some (.ref f7)))
    (l7 : K.lookup f7 = some ⟨oc7, od7, .func (PySem.W.fnOf "check_base" "check_base" (defArgs sd_check_base) (defBody sd_check_base) (defScope sd_check_base) .none kV7 dc7 pm7 an7 cd7 ct7), sl7⟩)
    (c7 : PySem.W.codeIn K cd7 "check_base" = true)
    (k7 : PySem.W.keepIn K (.ref f7) = true)
    (a8 : PySem.W.nsIn K mainGlobals "scales" = some (some (.ref f8)))
    (l8 : K.lookup f8 = some ⟨oc8, od8, .func (PySem.W.fnOf "scales" "scales" (defArgs sd_scales) (defBody sd_scales) (defScope sd_scales) .none kV8 dc8 pm8 an8 cd8 ct8), sl8⟩)
    (c8 : PySem.W.codeIn K cd8 "scales" = true)
    (k8 : PySem.W.keepIn K (.ref f8) = true)
    (a9 : PySem.W.nsIn K mainGlobals "crosses" = some (some (.ref f9)))
    (l9 : K.lookup f9 = some ⟨oc9, od9, .func (PySem.W.fnOf "crosses" "crosses" (defArgs sd_crosses) (defBody sd_crosses) (defScope sd_crosses) .none kV9 dc9 pm9 an9 cd9 ct9), sl9⟩)
    (c9 : PySem.W.codeIn K cd9 "crosses" = true)
    (k9 : PySem.W.keepIn K (.ref f9) = true)
    (a10 : PySem.W.nsIn K mainGlobals "meets" = some (some (.ref f10)))
    (l10 : K.lookup f10 = some ⟨oc10, od10, .func (PySem.W.fnOf "meets" "meets" (defArgs sd_meets) (defBody sd_meets) (defScope sd_meets) .none kV10 dc10 pm10 an10 cd10 ct10), sl10⟩)
    (c10 : PySem.W.codeIn K cd10 "meets" = true)
    (k10 : PySem.W.keepIn K (.ref f10) = true)
    (a11 : PySem.W.nsIn K mainGlobals "all_meeting" = some (some (.ref f11)))
    (l11 : K.lookup f11 = some ⟨oc11, od11, .func (PySem.W.fnOf "all_meeting" "all_meeting" (defArgs sd_all_meeting) (defBody sd_all_meeting) (defScope sd_all_meeting) .none kV11 dc11 pm11 an11 cd11 ct11), sl11⟩)
    (c11 : PySem.W.codeIn K cd11 "all_meeting" = true)
    (k11 : PySem.W.keepIn K (.ref f11) = true)
    (a12 : PySem.W.nsIn K mainGlobals "size_of" = some (some (.ref f12)))
    (l12 : K.lookup f12 = some ⟨oc12, od12, .func (PySem.W.fnOf "size_of" "size_of" (defArgs sd_size_of) (defBody sd_size_of) (defScope sd_size_of) .none kV12 dc12 pm12 an12 cd12 ct12), sl12⟩)
    (c12 : PySem.W.codeIn K cd12 "size_of" = true)
    (k12 : PySem.W.keepIn K (.ref f12) = true)
    (a13 : PySem.W.nsIn K mainGlobals "first_of" = some (some (.ref f13)))
    (l13 : K.lookup f13 = some ⟨oc13, od13, .func (PySem.W.fnOf "first_of" "first_of" (defArgs sd_first_of) (defBody sd_first_of) (defScope sd_first_of) .none kV13 dc13 pm13 an13 cd13 ct13), sl13⟩)
    (c13 : PySem.W.codeIn K cd13 "first_of" = true)
    (k13 : PySem.W.keepIn K (.ref f13) = true)
    (a14 : PySem.W.nsIn K mainGlobals "begins_of" = some (some (.ref f14)))
    (l14 : K.lookup f14 = some ⟨oc14, od14, .func (PySem.W.fnOf "begins_of" "begins_of" (defArgs sd_begins_of) (defBody sd_begins_of) (defScope sd_begins_of) .none kV14 dc14 pm14 an14 cd14 ct14), sl14⟩)
    (c14 : PySem.W.codeIn K cd14 "begins_of" = true)
    (k14 : PySem.W.keepIn K (.ref f14) = true)
    (a15 : PySem.W.nsIn K mainGlobals "first_digits" = some (some (.ref f15)))
    (l15 : K.lookup f15 = some ⟨oc15, od15, .func (PySem.W.fnOf "first_digits" "first_digits" (defArgs sd_first_digits) (defBody sd_first_digits) (defScope sd_first_digits) .none kV15 dc15 pm15 an15 cd15 ct15), sl15⟩)
    (c15 : PySem.W.codeIn K cd15 "first_digits" = true)
    (k15 : PySem.W.keepIn K (.ref f15) = true)
    (a16 : PySem.W.nsIn K mainGlobals "longer" = some (some (.ref f16)))
    (l16 : K.lookup f16 = some ⟨oc16, od16, .func (PySem.W.fnOf "longer" "longer" (defArgs sd_longer) (defBody sd_longer) (defScope sd_longer) .none kV16 dc16 pm16 an16 cd16 ct16), sl16⟩)
    (c16 : PySem.W.codeIn K cd16 "longer" = true)
    (k16 : PySem.W.keepIn K (.ref f16) = true)
    (a17 : PySem.W.nsIn K mainGlobals "stretch_of" = some (some (.ref f17)))
    (l17 : K.lookup f17 = some ⟨oc17, od17, .func (PySem.W.fnOf "stretch_of" "stretch_of" (defArgs sd_stretch_of) (defBody sd_stretch_of) (defScope sd_stretch_of) .none kV17 dc17 pm17 an17 cd17 ct17), sl17⟩)
    (c17 : PySem.W.codeIn K cd17 "stretch_of" = true)
    (k17 : PySem.W.keepIn K (.ref f17) = true)
    (a18 : PySem.W.nsIn K mainGlobals "stretch" = some (some (.ref f18)))
    (l18 : K.lookup f18 = some ⟨oc18, od18, .func (PySem.W.fnOf "stretch" "stretch" (defArgs sd_stretch) (defBody sd_stretch) (defScope sd_stretch) .none kV18 dc18 pm18 an18 cd18 ct18), sl18⟩)
    (c18 : PySem.W.codeIn K cd18 "stretch" = true)
    (k18 : PySem.W.keepIn K (.ref f18) = true)
    (a19 : PySem.W.nsIn K mainGlobals "number_at" = some (some (.ref f19)))
    (l19 : K.lookup f19 = some ⟨oc19, od19, .func (PySem.W.fnOf "number_at" "number_at" (defArgs sd_number_at) (defBody sd_number_at) (defScope sd_number_at) .none kV19 dc19 pm19 an19 cd19 ct19), sl19⟩)
    (c19 : PySem.W.codeIn K cd19 "number_at" = true)
    (k19 : PySem.W.keepIn K (.ref f19) = true)
    (a20 : PySem.W.nsIn K mainGlobals "squares" = some (some (.ref f20)))
    (l20 : K.lookup f20 = some ⟨oc20, od20, .func (PySem.W.fnOf "squares" "squares" (defArgs sd_squares) (defBody sd_squares) (defScope sd_squares) .none kV20 dc20 pm20 an20 cd20 ct20), sl20⟩)
    (c20 : PySem.W.codeIn K cd20 "squares" = true)
    (k20 : PySem.W.keepIn K (.ref f20) = true)
    (a21 : PySem.W.nsIn K mainGlobals "roots" = some (some (.ref f21)))
    (l21 : K.lookup f21 = some ⟨oc21, od21, .func (PySem.W.fnOf "roots" "roots" (defArgs sd_roots) (defBody sd_roots) (defScope sd_roots) .none kV21 dc21 pm21 an21 cd21 ct21), sl21⟩)
    (c21 : PySem.W.codeIn K cd21 "roots" = true)
    (k21 : PySem.W.keepIn K (.ref f21) = true)
    (a22 : PySem.W.nsIn K mainGlobals "root_from" = some (some (.ref f22)))
    (l22 : K.lookup f22 = some ⟨oc22, od22, .func (PySem.W.fnOf "root_from" "root_from" (defArgs sd_root_from) (defBody sd_root_from) (defScope sd_root_from) .none kV22 dc22 pm22 an22 cd22 ct22), sl22⟩)
    (c22 : PySem.W.codeIn K cd22 "root_from" = true)
    (k22 : PySem.W.keepIn K (.ref f22) = true)
    (a23 : PySem.W.nsIn K mainGlobals "roots_with" = some (some (.ref f23)))
    (l23 : K.lookup f23 = some ⟨oc23, od23, .func (PySem.W.fnOf "roots_with" "roots_with" (defArgs sd_roots_with) (defBody sd_roots_with) (defScope sd_roots_with) .none kV23 dc23 pm23 an23 cd23 ct23), sl23⟩)
    (c23 : PySem.W.codeIn K cd23 "roots_with" = true)
    (k23 : PySem.W.keepIn K (.ref f23) = true)
    (a24 : PySem.W.nsIn K mainGlobals "powers_of" = some (some (.ref f24)))
    (l24 : K.lookup f24 = some ⟨oc24, od24, .func (PySem.W.fnOf "powers_of" "powers_of" (defArgs sd_powers_of) (defBody sd_powers_of) (defScope sd_powers_of) .none kV24 dc24 pm24 an24 cd24 ct24), sl24⟩)
    (c24 : PySem.W.codeIn K cd24 "powers_of" = true)
    (k24 : PySem.W.keepIn K (.ref f24) = true)
    (a25 : PySem.W.nsIn K mainGlobals "places_of" = some (some (.ref f25)))
    (l25 : K.lookup f25 = some ⟨oc25, od25, .func (PySem.W.fnOf "places_of" "places_of" (defArgs sd_places_of) (defBody sd_places_of) (defScope sd_places_of) .none kV25 dc25 pm25 an25 cd25 ct25), sl25⟩)
    (c25 : PySem.W.codeIn K cd25 "places_of" = true)
    (k25 : PySem.W.keepIn K (.ref f25) = true)
    (a26 : PySem.W.nsIn K mainGlobals "check_all" = some (some (.ref f26)))
    (l26 : K.lookup f26 = some ⟨oc26, od26, .func (PySem.W.fnOf "check_all" "check_all" (defArgs sd_check_all) (defBody sd_check_all) (defScope sd_check_all) .none kV26 dc26 pm26 an26 cd26 ct26), sl26⟩)
    (c26 : PySem.W.codeIn K cd26 "check_all" = true)
    (k26 : PySem.W.keepIn K (.ref f26) = true)
    (a27 : PySem.W.nsIn K mainGlobals "power_places" = some (some (.ref f27)))
    (l27 : K.lookup f27 = some ⟨oc27, od27, .func (PySem.W.fnOf "power_places" "power_places" (defArgs sd_power_places) (defBody sd_power_places) (defScope sd_power_places) .none kV27 dc27 pm27 an27 cd27 ct27), sl27⟩)
    (c27 : PySem.W.codeIn K cd27 "power_places" = true)
    (k27 : PySem.W.keepIn K (.ref f27) = true)
    (a28 : PySem.W.nsIn K mainGlobals "first_power" = some (some (.ref f28)))
    (l28 : K.lookup f28 = some ⟨oc28, od28, .func (PySem.W.fnOf "first_power" "first_power" (defArgs sd_first_power) (defBody sd_first_power) (defScope sd_first_power) .none kV28 dc28 pm28 an28 cd28 ct28), sl28⟩)
    (c28 : PySem.W.codeIn K cd28 "first_power" = true)
    (k28 : PySem.W.keepIn K (.ref f28) = true)
    (a29 : PySem.W.nsIn K mainGlobals "waits" = some (some (.ref f29)))
    (l29 : K.lookup f29 = some ⟨oc29, od29, .func (PySem.W.fnOf "waits" "waits" (defArgs sd_waits) (defBody sd_waits) (defScope sd_waits) .none kV29 dc29 pm29 an29 cd29 ct29), sl29⟩)
    (c29 : PySem.W.codeIn K cd29 "waits" = true)
    (k29 : PySem.W.keepIn K (.ref f29) = true)
    (a30 : PySem.W.nsIn K mainGlobals "longest_wait" = some (some (.ref f30)))
    (l30 : K.lookup f30 = some ⟨oc30, od30, .func (PySem.W.fnOf "longest_wait" "longest_wait" (defArgs sd_longest_wait) (defBody sd_longest_wait) (defScope sd_longest_wait) .none kV30 dc30 pm30 an30 cd30 ct30), sl30⟩)
    (c30 : PySem.W.codeIn K cd30 "longest_wait" = true)
    (k30 : PySem.W.keepIn K (.ref f30) = true)
    (a31 : PySem.W.nsIn K mainGlobals "digit_table" = some (some (.ref f31)))
    (l31 : K.lookup f31 = some ⟨oc31, od31, .func (PySem.W.fnOf "digit_table" "digit_table" (defArgs sd_digit_table) (defBody sd_digit_table) (defScope sd_digit_table) .none kV31 dc31 pm31 an31 cd31 ct31), sl31⟩)
    (c31 : PySem.W.codeIn K cd31 "digit_table" = true)
    (k31 : PySem.W.keepIn K (.ref f31) = true)
    (a32 : PySem.W.nsIn K mainGlobals "never" = some (some (.ref f32)))
    (l32 : K.lookup f32 = some ⟨oc32, od32, .func (PySem.W.fnOf "never" "never" (defArgs sd_never) (defBody sd_never) (defScope sd_never) .none kV32 dc32 pm32 an32 cd32 ct32), sl32⟩)
    (c32 : PySem.W.codeIn K cd32 "never" = true)
    (k32 : PySem.W.keepIn K (.ref f32) = true)
    (a33 : PySem.W.nsIn K mainGlobals "powers_with" = some (some (.ref f33)))
    (l33 : K.lookup f33 = some ⟨oc33, od33, .func (PySem.W.fnOf "powers_with" "powers_with" (defArgs sd_powers_with) (defBody sd_powers_with) (defScope sd_powers_with) .none kV33 dc33 pm33 an33 cd33 ct33), sl33⟩)
    (c33 : PySem.W.codeIn K cd33 "powers_with" = true)
    (k33 : PySem.W.keepIn K (.ref f33) = true)
    (a34 : PySem.W.nsIn K mainGlobals "check_step" = some (some (.ref f34)))
    (l34 : K.lookup f34 = some ⟨oc34, od34, .func (PySem.W.fnOf "check_step" "check_step" (defArgs sd_check_step) (defBody sd_check_step) (defScope sd_check_step) .none kV34 dc34 pm34 an34 cd34 ct34), sl34⟩)
    (c34 : PySem.W.codeIn K cd34 "check_step" = true)
    (k34 : PySem.W.keepIn K (.ref f34) = true)
    (a35 : PySem.W.nsIn K mainGlobals "first_of_stretch" = some (some (.ref f35)))
    (l35 : K.lookup f35 = some ⟨oc35, od35, .func (PySem.W.fnOf "first_of_stretch" "first_of_stretch" (defArgs sd_first_of_stretch) (defBody sd_first_of_stretch) (defScope sd_first_of_stretch) .none kV35 dc35 pm35 an35 cd35 ct35), sl35⟩)
    (c35 : PySem.W.codeIn K cd35 "first_of_stretch" = true)
    (k35 : PySem.W.keepIn K (.ref f35) = true)
    (a36 : PySem.W.nsIn K mainGlobals "first_multiple" = some (some (.ref f36)))
    (l36 : K.lookup f36 = some ⟨oc36, od36, .func (PySem.W.fnOf "first_multiple" "first_multiple" (defArgs sd_first_multiple) (defBody sd_first_multiple) (defScope sd_first_multiple) .none kV36 dc36 pm36 an36 cd36 ct36), sl36⟩)
    (c36 : PySem.W.codeIn K cd36 "first_multiple" = true)
    (k36 : PySem.W.keepIn K (.ref f36) = true)
    (a37 : PySem.W.nsIn K mainGlobals "multiple_places" = some (some (.ref f37)))
    (l37 : K.lookup f37 = some ⟨oc37, od37, .func (PySem.W.fnOf "multiple_places" "multiple_places" (defArgs sd_multiple_places) (defBody sd_multiple_places) (defScope sd_multiple_places) .none kV37 dc37 pm37 an37 cd37 ct37), sl37⟩)
    (c37 : PySem.W.codeIn K cd37 "multiple_places" = true)
    (k37 : PySem.W.keepIn K (.ref f37) = true)
    (a38 : PySem.W.nsIn K mainGlobals "count_multiples" = some (some (.ref f38)))
    (l38 : K.lookup f38 = some ⟨oc38, od38, .func (PySem.W.fnOf "count_multiples" "count_multiples" (defArgs sd_count_multiples) (defBody sd_count_multiples) (defScope sd_count_multiples) .none kV38 dc38 pm38 an38 cd38 ct38), sl38⟩)
    (c38 : PySem.W.codeIn K cd38 "count_multiples" = true)
    (k38 : PySem.W.keepIn K (.ref f38) = true)
    (a39 : PySem.W.nsIn K mainGlobals "product_bounds" = some (some (.ref f39)))
    (l39 : K.lookup f39 = some ⟨oc39, od39, .func (PySem.W.fnOf "product_bounds" "product_bounds" (defArgs sd_product_bounds) (defBody sd_product_bounds) (defScope sd_product_bounds) .none kV39 dc39 pm39 an39 cd39 ct39), sl39⟩)
    (c39 : PySem.W.codeIn K cd39 "product_bounds" = true)
    (k39 : PySem.W.keepIn K (.ref f39) = true)
    (a40 : PySem.W.nsIn K mainGlobals "products" = some (some (.ref f40)))
    (l40 : K.lookup f40 = some ⟨oc40, od40, .func (PySem.W.fnOf "products" "products" (defArgs sd_products) (defBody sd_products) (defScope sd_products) .none kV40 dc40 pm40 an40 cd40 ct40), sl40⟩)
    (c40 : PySem.W.codeIn K cd40 "products" = true)
    (k40 : PySem.W.keepIn K (.ref f40) = true)
    (a41 : PySem.W.nsIn K mainGlobals "least_behind" = some (some (.ref f41)))
    (l41 : K.lookup f41 = some ⟨oc41, od41, .func (PySem.W.fnOf "least_behind" "least_behind" (defArgs sd_least_behind) (defBody sd_least_behind) (defScope sd_least_behind) .none kV41 dc41 pm41 an41 cd41 ct41), sl41⟩)
    (c41 : PySem.W.codeIn K cd41 "least_behind" = true)
    (k41 : PySem.W.keepIn K (.ref f41) = true)
    (a42 : PySem.W.nsIn K mainGlobals "product_example" = some (some (.ref f42)))
    (l42 : K.lookup f42 = some ⟨oc42, od42, .func (PySem.W.fnOf "product_example" "product_example" (defArgs sd_product_example) (defBody sd_product_example) (defScope sd_product_example) .none kV42 dc42 pm42 an42 cd42 ct42), sl42⟩)
    (c42 : PySem.W.codeIn K cd42 "product_example" = true)
    (k42 : PySem.W.keepIn K (.ref f42) = true)
    (a43 : PySem.W.nsIn K mainGlobals "sums" = some (some (.ref f43)))
    (l43 : K.lookup f43 = some ⟨oc43, od43, .func (PySem.W.fnOf "sums" "sums" (defArgs sd_sums) (defBody sd_sums) (defScope sd_sums) .none kV43 dc43 pm43 an43 cd43 ct43), sl43⟩)
    (c43 : PySem.W.codeIn K cd43 "sums" = true)
    (k43 : PySem.W.keepIn K (.ref f43) = true)
    (a44 : PySem.W.nsIn K mainGlobals "quotients" = some (some (.ref f44)))
    (l44 : K.lookup f44 = some ⟨oc44, od44, .func (PySem.W.fnOf "quotients" "quotients" (defArgs sd_quotients) (defBody sd_quotients) (defScope sd_quotients) .none kV44 dc44 pm44 an44 cd44 ct44), sl44⟩)
    (c44 : PySem.W.codeIn K cd44 "quotients" = true)
    (k44 : PySem.W.keepIn K (.ref f44) = true)
    (a45 : PySem.W.nsIn K mainGlobals "is_row" = some (some (.ref f45)))
    (l45 : K.lookup f45 = some ⟨oc45, od45, .func (PySem.W.fnOf "is_row" "is_row" (defArgs sd_is_row) (defBody sd_is_row) (defScope sd_is_row) .none kV45 dc45 pm45 an45 cd45 ct45), sl45⟩)
    (c45 : PySem.W.codeIn K cd45 "is_row" = true)
    (k45 : PySem.W.keepIn K (.ref f45) = true)
    (a46 : PySem.W.nsIn K mainGlobals "parts_of" = some (some (.ref f46)))
    (l46 : K.lookup f46 = some ⟨oc46, od46, .func (PySem.W.fnOf "parts_of" "parts_of" (defArgs sd_parts_of) (defBody sd_parts_of) (defScope sd_parts_of) .none kV46 dc46 pm46 an46 cd46 ct46), sl46⟩)
    (c46 : PySem.W.codeIn K cd46 "parts_of" = true)
    (k46 : PySem.W.keepIn K (.ref f46) = true)
    (a47 : PySem.W.nsIn K mainGlobals "text_of" = some (some (.ref f47)))
    (l47 : K.lookup f47 = some ⟨oc47, od47, .func (PySem.W.fnOf "text_of" "text_of" (defArgs sd_text_of) (defBody sd_text_of) (defScope sd_text_of) .none kV47 dc47 pm47 an47 cd47 ct47), sl47⟩)
    (c47 : PySem.W.codeIn K cd47 "text_of" = true)
    (k47 : PySem.W.keepIn K (.ref f47) = true)
    (a48 : PySem.W.nsIn K mainGlobals "format_beginnings" = some (some (.ref f48)))
    (l48 : K.lookup f48 = some ⟨oc48, od48, .func (PySem.W.fnOf "format_beginnings" "format_beginnings" (defArgs sd_format_beginnings) (defBody sd_format_beginnings) (defScope sd_format_beginnings) .none kV48 dc48 pm48 an48 cd48 ct48), sl48⟩)
    (c48 : PySem.W.codeIn K cd48 "format_beginnings" = true)
    (k48 : PySem.W.keepIn K (.ref f48) = true)
    (a49 : PySem.W.nsIn K mainGlobals "_law_start" = some (some (.ref f49)))
    (l49 : K.lookup f49 = some ⟨oc49, od49, .func (PySem.W.fnOf "_law_start" "_law_start" (defArgs sd_law_start) (defBody sd_law_start) (defScope sd_law_start) .none kV49 dc49 pm49 an49 cd49 ct49), sl49⟩)
    (c49 : PySem.W.codeIn K cd49 "_law_start" = true)
    (k49 : PySem.W.keepIn K (.ref f49) = true)
    (a50 : PySem.W.nsIn K mainGlobals "_law_draw" = some (some (.ref f50)))
    (l50 : K.lookup f50 = some ⟨oc50, od50, .func (PySem.W.fnOf "_law_draw" "_law_draw" (defArgs sd_law_draw) (defBody sd_law_draw) (defScope sd_law_draw) .none kV50 dc50 pm50 an50 cd50 ct50), sl50⟩)
    (c50 : PySem.W.codeIn K cd50 "_law_draw" = true)
    (k50 : PySem.W.keepIn K (.ref f50) = true)
    (a51 : PySem.W.nsIn K mainGlobals "_law_pick" = some (some (.ref f51)))
    (l51 : K.lookup f51 = some ⟨oc51, od51, .func (PySem.W.fnOf "_law_pick" "_law_pick" (defArgs sd_law_pick) (defBody sd_law_pick) (defScope sd_law_pick) .none kV51 dc51 pm51 an51 cd51 ct51), sl51⟩)
    (c51 : PySem.W.codeIn K cd51 "_law_pick" = true)
    (k51 : PySem.W.keepIn K (.ref f51) = true)
    (a52 : PySem.W.nsIn K mainGlobals "_law_error" = some (some (.ref f52)))
    (l52 : K.lookup f52 = some ⟨oc52, od52, .func (PySem.W.fnOf "_law_error" "_law_error" (defArgs sd_law_error) (defBody sd_law_error) (defScope sd_law_error) .none kV52 dc52 pm52 an52 cd52 ct52), sl52⟩)
    (c52 : PySem.W.codeIn K cd52 "_law_error" = true)
    (k52 : PySem.W.keepIn K (.ref f52) = true)
    (a53 : PySem.W.nsIn K mainGlobals "_law_ten" = some (some (.ref f53)))
    (l53 : K.lookup f53 = some ⟨oc53, od53, .func (PySem.W.fnOf "_law_ten" "_law_ten" (defArgs sd_law_ten) (defBody sd_law_ten) (defScope sd_law_ten) .none kV53 dc53 pm53 an53 cd53 ct53), sl53⟩)
    (c53 : PySem.W.codeIn K cd53 "_law_ten" = true)
    (k53 : PySem.W.keepIn K (.ref f53) = true)
    (a54 : PySem.W.nsIn K mainGlobals "_law_powers" = some (some (.ref f54)))
    (l54 : K.lookup f54 = some ⟨oc54, od54, .func (PySem.W.fnOf "_law_powers" "_law_powers" (defArgs sd_law_powers) (defBody sd_law_powers) (defScope sd_law_powers) .none kV54 dc54 pm54 an54 cd54 ct54), sl54⟩)
    (c54 : PySem.W.codeIn K cd54 "_law_powers" = true)
    (k54 : PySem.W.keepIn K (.ref f54) = true)
    (a55 : PySem.W.findIn K (.ref rC) "first_digits" = some (some (.ref f55)))
    (i55 : PySem.W.isFn K (.ref f55) = true)
    (l55 : K.lookup f55 = some ⟨oc55, od55, .func (PySem.W.fnOf "first_digits" "Row.first_digits" (defArgs sd_row_first_digits) (defBody sd_row_first_digits) (defScope sd_row_first_digits) .none kV55 dc55 pm55 an55 cd55 ct55), sl55⟩)
    (c55 : PySem.W.codeIn K cd55 "Row.first_digits" = true)
    (k55 : PySem.W.keepIn K (.ref f55) = true)
    (a56 : PySem.W.findIn K (.ref rC) "__init__" = some (some (.ref f56)))
    (i56 : PySem.W.isFn K (.ref f56) = true)
    (l56 : K.lookup f56 = some ⟨oc56, od56, .func (PySem.W.fnOf "__init__" "Row.__init__" (defArgs sd_row_init) (defBody sd_row_init) (defScope sd_row_init) .none kV56 dc56 pm56 an56 cd56 ct56), sl56⟩)
    (c56 : PySem.W.codeIn K cd56 "Row.__init__" = true)
    (k56 : PySem.W.keepIn K (.ref f56) = true)
    (a57 : PySem.W.nsIn K mainGlobals "_law_counted" = some (some (.ref f57)))
    (l57 : K.lookup f57 = some ⟨oc57, od57, .func (PySem.W.fnOf "_law_counted" "_law_counted" (defArgs sd_law_counted) (defBody sd_law_counted) (defScope sd_law_counted) .none kV57 dc57 pm57 an57 cd57 ct57), sl57⟩)
    (c57 : PySem.W.codeIn K cd57 "_law_counted" = true)
    (k57 : PySem.W.keepIn K (.ref f57) = true)
    (a58 : PySem.W.findIn K (.ref rC) "grown" = some (some (.ref f58)))
    (i58 : PySem.W.isFn K (.ref f58) = true)
    (l58 : K.lookup f58 = some ⟨oc58, od58, .func (PySem.W.fnOf "grown" "Row.grown" (defArgs sd_row_grown) (defBody sd_row_grown) (defScope sd_row_grown) .none kV58 dc58 pm58 an58 cd58 ct58), sl58⟩)
    (c58 : PySem.W.codeIn K cd58 "Row.grown" = true)
    (k58 : PySem.W.keepIn K (.ref f58) = true)
    (a59 : PySem.W.findIn K (.ref rC) "multiply" = some (some (.ref f59)))
    (i59 : PySem.W.isFn K (.ref f59) = true)
    (l59 : K.lookup f59 = some ⟨oc59, od59, .func (PySem.W.fnOf "multiply" "Row.multiply" (defArgs sd_row_multiply) (defBody sd_row_multiply) (defScope sd_row_multiply) .none kV59 dc59 pm59 an59 cd59 ct59), sl59⟩)
    (c59 : PySem.W.codeIn K cd59 "Row.multiply" = true)
    (k59 : PySem.W.keepIn K (.ref f59) = true)
    (a60 : PySem.W.nsIn K mainGlobals "_law_based" = some (some (.ref f60)))
    (l60 : K.lookup f60 = some ⟨oc60, od60, .func (PySem.W.fnOf "_law_based" "_law_based" (defArgs sd_law_based) (defBody sd_law_based) (defScope sd_law_based) .none kV60 dc60 pm60 an60 cd60 ct60), sl60⟩)
    (c60 : PySem.W.codeIn K cd60 "_law_based" = true)
    (k60 : PySem.W.keepIn K (.ref f60) = true)
    (a61 : PySem.W.nsIn K mainGlobals "_law_asked" = some (some (.ref f61)))
    (l61 : K.lookup f61 = some ⟨oc61, od61, .func (PySem.W.fnOf "_law_asked" "_law_asked" (defArgs sd_law_asked) (defBody sd_law_asked) (defScope sd_law_asked) .none kV61 dc61 pm61 an61 cd61 ct61), sl61⟩)
    (c61 : PySem.W.codeIn K cd61 "_law_asked" = true)
    (k61 : PySem.W.keepIn K (.ref f61) = true)
    (a62 : PySem.W.findIn K (.ref rC) "add" = some (some (.ref f62)))
    (i62 : PySem.W.isFn K (.ref f62) = true)
    (l62 : K.lookup f62 = some ⟨oc62, od62, .func (PySem.W.fnOf "add" "Row.add" (defArgs sd_row_add) (defBody sd_row_add) (defScope sd_row_add) .none kV62 dc62 pm62 an62 cd62 ct62), sl62⟩)
    (c62 : PySem.W.codeIn K cd62 "Row.add" = true)
    (k62 : PySem.W.keepIn K (.ref f62) = true)
    (a63 : PySem.W.findIn K (.ref rC) "__len__" = some (some (.ref f63)))
    (i63 : PySem.W.isFn K (.ref f63) = true)
    (l63 : K.lookup f63 = some ⟨oc63, od63, .func (PySem.W.fnOf "__len__" "Row.__len__" (defArgs sd_row_len) (defBody sd_row_len) (defScope sd_row_len) .none kV63 dc63 pm63 an63 cd63 ct63), sl63⟩)
    (c63 : PySem.W.codeIn K cd63 "Row.__len__" = true)
    (k63 : PySem.W.keepIn K (.ref f63) = true)
    (a64 : PySem.W.findIn K (.ref rC) "number" = some (some (.ref f64)))
    (i64 : PySem.W.isFn K (.ref f64) = true)
    (l64 : K.lookup f64 = some ⟨oc64, od64, .func (PySem.W.fnOf "number" "Row.number" (defArgs sd_row_number) (defBody sd_row_number) (defScope sd_row_number) .none kV64 dc64 pm64 an64 cd64 ct64), sl64⟩)
    (c64 : PySem.W.codeIn K cd64 "Row.number" = true)
    (k64 : PySem.W.keepIn K (.ref f64) = true)
    (a65 : PySem.W.findIn K (.ref rC) "undo" = some (some (.ref f65)))
    (i65 : PySem.W.isFn K (.ref f65) = true)
    (l65 : K.lookup f65 = some ⟨oc65, od65, .func (PySem.W.fnOf "undo" "Row.undo" (defArgs sd_row_undo) (defBody sd_row_undo) (defScope sd_row_undo) .none kV65 dc65 pm65 an65 cd65 ct65), sl65⟩)
    (c65 : PySem.W.codeIn K cd65 "Row.undo" = true)
    (k65 : PySem.W.keepIn K (.ref f65) = true)
    (a66 : PySem.W.nsIn K mainGlobals "_law_row" = some (some (.ref f66)))
    (l66 : K.lookup f66 = some ⟨oc66, od66, .func (PySem.W.fnOf "_law_row" "_law_row" (defArgs sd_law_row) (defBody sd_law_row) (defScope sd_law_row) .none kV66 dc66 pm66 an66 cd66 ct66), sl66⟩)
    (c66 : PySem.W.codeIn K cd66 "_law_row" = true)
    (k66 : PySem.W.keepIn K (.ref f66) = true)
    (a67 : PySem.W.nsIn K mainGlobals "law" = some (some (.ref f67)))
    (l67 : K.lookup f67 = some ⟨oc67, od67, .func (PySem.W.fnOf "law" "law" (defArgs sd_law) (defBody sd_law) (defScope sd_law) .none kV67 dc67 pm67 an67 cd67 ct67), sl67⟩)
    (c67 : PySem.W.codeIn K cd67 "law" = true)
    (k67 : PySem.W.keepIn K (.ref f67) = true)
    (z_ValueError : PySem.W.nsIn K mainGlobals "ValueError" = some none)
    (z_all : PySem.W.nsIn K mainGlobals "all" = some none)
    (z_any : PySem.W.nsIn K mainGlobals "any" = some none)
    (z_bool : PySem.W.nsIn K mainGlobals "bool" = some none)
    (z_enumerate : PySem.W.nsIn K mainGlobals "enumerate" = some none)
    (z_int : PySem.W.nsIn K mainGlobals "int" = some none)
    (z_isinstance : PySem.W.nsIn K mainGlobals "isinstance" = some none)
    (z_len : PySem.W.nsIn K mainGlobals "len" = some none)
    (z_list : PySem.W.nsIn K mainGlobals "list" = some none)
    (z_max : PySem.W.nsIn K mainGlobals "max" = some none)
    (z_range : PySem.W.nsIn K mainGlobals "range" = some none)
    (z_str : PySem.W.nsIn K mainGlobals "str" = some none)
    (z_zip : PySem.W.nsIn K mainGlobals "zip" = some none)
    {t_MOST_DIGITS : Tok} (y_MOST_DIGITS : PySem.W.nsIn K mainGlobals "MOST_DIGITS" = some (some (.int 60 t_MOST_DIGITS)))
    {t_MOST_POWER : Tok} (y_MOST_POWER : PySem.W.nsIn K mainGlobals "MOST_POWER" = some (some (.int 300 t_MOST_POWER)))
    (x0 : PySem.W.nsIn K mainGlobals "BadNumber" = some (some (.ref e0)))
    (xe0 : PySem.W.excIn K e0 HandSPX.veTail "ValueError.__new__" = true)
    (xk0 : PySem.W.keepIn K (.ref e0) = true)
    (xb0 : PySem.W.subIn K (.ref e0) (.type "BaseException") = some true)
    (xt0 : PySem.W.typeIn K (.ref e0) = some (.type "type"))
    (x1 : PySem.W.nsIn K mainGlobals "BadBeginning" = some (some (.ref e1)))
    (xe1 : PySem.W.excIn K e1 HandSPX.veTail "ValueError.__new__" = true)
    (xk1 : PySem.W.keepIn K (.ref e1) = true)
    (xb1 : PySem.W.subIn K (.ref e1) (.type "BaseException") = some true)
    (xt1 : PySem.W.typeIn K (.ref e1) = some (.type "type"))
    (x2 : PySem.W.nsIn K mainGlobals "BadCount" = some (some (.ref e2)))
    (xe2 : PySem.W.excIn K e2 HandSPX.veTail "ValueError.__new__" = true)
    (xk2 : PySem.W.keepIn K (.ref e2) = true)
    (xb2 : PySem.W.subIn K (.ref e2) (.type "BaseException") = some true)
    (xt2 : PySem.W.typeIn K (.ref e2) = some (.type "type"))
    (x3 : PySem.W.nsIn K mainGlobals "BadText" = some (some (.ref e3)))
    (xe3 : PySem.W.excIn K e3 HandSPX.veTail "ValueError.__new__" = true)
    (xk3 : PySem.W.keepIn K (.ref e3) = true)
    (xb3 : PySem.W.subIn K (.ref e3) (.type "BaseException") = some true)
    (xt3 : PySem.W.typeIn K (.ref e3) = some (.type "type"))
    (x4 : PySem.W.nsIn K mainGlobals "NotFound" = some (some (.ref e4)))
    (xe4 : PySem.W.excIn K e4 HandSPX.veTail "ValueError.__new__" = true)
    (xk4 : PySem.W.keepIn K (.ref e4) = true)
    (xb4 : PySem.W.subIn K (.ref e4) (.type "BaseException") = some true)
    (xt4 : PySem.W.typeIn K (.ref e4) = some (.type "type"))
    (x5 : PySem.W.nsIn K mainGlobals "DigitError" = some (some (.ref e5)))
    (qn : PySem.W.specialIn K (.builtin "object.__class__") "__get__" = some (some (.builtin "getset_descriptor.__get__")))
    (qt : PySem.W.takesIn K (.builtin "object.__class__") = some true)
    (qg0 : PySem.W.findIn K (.ref e0) "__getattribute__" = some (some (.builtin "BaseException.__getattribute__")))
    (qk0 : PySem.W.findIn K (.ref e0) "__getattr__" = some none)
    (qd0 : PySem.W.hasDictIn K e0 = true)
    (qa0 : PySem.W.findIn K (.ref e0) "__class__" = some (some (.builtin "object.__class__")))
    (qm0 : PySem.W.mroIn K e0 (.type "object") = some true)
    (qv0 : PySem.W.kitOne K (.ref e0) (.type "ValueError") = some true)
    (qe0 : PySem.W.exmOne K (.ref e0) (.ref e5) = some true)
    (qi00 : PySem.W.kitOne K (.ref e0) (.ref e0) = some true)
    (qi01 : PySem.W.kitOne K (.ref e0) (.ref e1) = some false)
    (qi02 : PySem.W.kitOne K (.ref e0) (.ref e2) = some false)
    (qi03 : PySem.W.kitOne K (.ref e0) (.ref e3) = some false)
    (qi04 : PySem.W.kitOne K (.ref e0) (.ref e4) = some false)
    (qi05 : PySem.W.kitOne K (.ref e0) (.ref e5) = some true)
    (qg1 : PySem.W.findIn K (.ref e1) "__getattribute__" = some (some (.builtin "BaseException.__getattribute__")))
    (qk1 : PySem.W.findIn K (.ref e1) "__getattr__" = some none)
    (qd1 : PySem.W.hasDictIn K e1 = true)
    (qa1 : PySem.W.findIn K (.ref e1) "__class__" = some (some (.builtin "object.__class__")))
    (qm1 : PySem.W.mroIn K e1 (.type "object") = some true)
    (qv1 : PySem.W.kitOne K (.ref e1) (.type "ValueError") = some true)
    (qe1 : PySem.W.exmOne K (.ref e1) (.ref e5) = some true)
    (qi10 : PySem.W.kitOne K (.ref e1) (.ref e0) = some false)
    (qi11 : PySem.W.kitOne K (.ref e1) (.ref e1) = some true)
    (qi12 : PySem.W.kitOne K (.ref e1) (.ref e2) = some false)
    (qi13 : PySem.W.kitOne K (.ref e1) (.ref e3) = some false)
    (qi14 : PySem.W.kitOne K (.ref e1) (.ref e4) = some false)
    (qi15 : PySem.W.kitOne K (.ref e1) (.ref e5) = some true)
    (qg2 : PySem.W.findIn K (.ref e2) "__getattribute__" = some (some (.builtin "BaseException.__getattribute__")))
    (qk2 : PySem.W.findIn K (.ref e2) "__getattr__" = some none)
    (qd2 : PySem.W.hasDictIn K e2 = true)
    (qa2 : PySem.W.findIn K (.ref e2) "__class__" = some (some (.builtin "object.__class__")))
    (qm2 : PySem.W.mroIn K e2 (.type "object") = some true)
    (qv2 : PySem.W.kitOne K (.ref e2) (.type "ValueError") = some true)
    (qe2 : PySem.W.exmOne K (.ref e2) (.ref e5) = some true)
    (qi20 : PySem.W.kitOne K (.ref e2) (.ref e0) = some false)
    (qi21 : PySem.W.kitOne K (.ref e2) (.ref e1) = some false)
    (qi22 : PySem.W.kitOne K (.ref e2) (.ref e2) = some true)
    (qi23 : PySem.W.kitOne K (.ref e2) (.ref e3) = some false)
    (qi24 : PySem.W.kitOne K (.ref e2) (.ref e4) = some false)
    (qi25 : PySem.W.kitOne K (.ref e2) (.ref e5) = some true)
    (qg3 : PySem.W.findIn K (.ref e3) "__getattribute__" = some (some (.builtin "BaseException.__getattribute__")))
    (qk3 : PySem.W.findIn K (.ref e3) "__getattr__" = some none)
    (qd3 : PySem.W.hasDictIn K e3 = true)
    (qa3 : PySem.W.findIn K (.ref e3) "__class__" = some (some (.builtin "object.__class__")))
    (qm3 : PySem.W.mroIn K e3 (.type "object") = some true)
    (qv3 : PySem.W.kitOne K (.ref e3) (.type "ValueError") = some true)
    (qe3 : PySem.W.exmOne K (.ref e3) (.ref e5) = some true)
    (qi30 : PySem.W.kitOne K (.ref e3) (.ref e0) = some false)
    (qi31 : PySem.W.kitOne K (.ref e3) (.ref e1) = some false)
    (qi32 : PySem.W.kitOne K (.ref e3) (.ref e2) = some false)
    (qi33 : PySem.W.kitOne K (.ref e3) (.ref e3) = some true)
    (qi34 : PySem.W.kitOne K (.ref e3) (.ref e4) = some false)
    (qi35 : PySem.W.kitOne K (.ref e3) (.ref e5) = some true)
    (qg4 : PySem.W.findIn K (.ref e4) "__getattribute__" = some (some (.builtin "BaseException.__getattribute__")))
    (qk4 : PySem.W.findIn K (.ref e4) "__getattr__" = some none)
    (qd4 : PySem.W.hasDictIn K e4 = true)
    (qa4 : PySem.W.findIn K (.ref e4) "__class__" = some (some (.builtin "object.__class__")))
    (qm4 : PySem.W.mroIn K e4 (.type "object") = some true)
    (qv4 : PySem.W.kitOne K (.ref e4) (.type "ValueError") = some true)
    (qe4 : PySem.W.exmOne K (.ref e4) (.ref e5) = some true)
    (qi40 : PySem.W.kitOne K (.ref e4) (.ref e0) = some false)
    (qi41 : PySem.W.kitOne K (.ref e4) (.ref e1) = some false)
    (qi42 : PySem.W.kitOne K (.ref e4) (.ref e2) = some false)
    (qi43 : PySem.W.kitOne K (.ref e4) (.ref e3) = some false)
    (qi44 : PySem.W.kitOne K (.ref e4) (.ref e4) = some true)
    (qi45 : PySem.W.kitOne K (.ref e4) (.ref e5) = some true)
    : ∃ fd : FuncData, (∀ (s : Shared) (v : Value), BindsTo s fd ⟨[v], []⟩ [("_law_script", v)]) ∧ ∀ base : Heap, K.In base → base.Ns mainGlobals mg → FnOk l.prog w K mg base (L2.CX l.prog w) 9 fa fd ["_law_script"] (spLaw K) := by
  have e := hfa.symm.trans (PySem.W.mg_of X G a67)
  cases e
  have T : Txt K mg ⟨K, w, fun k => match k with | 0 => e0 | 1 => e1 | 2 => e2 | 3 => e3 | 4 => e4 | 5 => e5 | _ => 0, rC⟩ :=
    { hG := rfl, n_ValueError := PySem.W.mg_none_of X G z_ValueError, n_all := PySem.W.mg_none_of X G z_all, n_any := PySem.W.mg_none_of X G z_any, n_bool := PySem.W.mg_none_of X G z_bool, n_enumerate := PySem.W.mg_none_of X G z_enumerate, n_int := PySem.W.mg_none_of X G z_int, n_isinstance := PySem.W.mg_none_of X G z_isinstance, n_len := PySem.W.mg_none_of X G z_len, n_list := PySem.W.mg_none_of X G z_list, n_max := PySem.W.mg_none_of X G z_max, n_range := PySem.W.mg_none_of X G z_range, n_str := PySem.W.mg_none_of X G z_str, n_zip := PySem.W.mg_none_of X G z_zip, g_MOST_DIGITS := ⟨_, PySem.W.mg_of X G y_MOST_DIGITS⟩, g_MOST_POWER := ⟨_, PySem.W.mg_of X G y_MOST_POWER⟩, e_BadNumber := ⟨PySem.W.mg_of X G x0, xe0, xk0, xb0, xt0⟩, e_BadBeginning := ⟨PySem.W.mg_of X G x1, xe1, xk1, xb1, xt1⟩, e_BadCount := ⟨PySem.W.mg_of X G x2, xe2, xk2, xb2, xt2⟩, e_BadText := ⟨PySem.W.mg_of X G x3, xe3, xk3, xb3, xt3⟩, e_NotFound := ⟨PySem.W.mg_of X G x4, xe4, xk4, xb4, xt4⟩, dg := ydig, rf := ⟨⟨rg, rh, ro, rs⟩, rl, rp⟩, ef := { c := fun k hk => match k, hk with | 0, _ => ⟨qg0, qk0, xb0, qd0, qa0, qn, qt, qm0⟩ | 1, _ => ⟨qg1, qk1, xb1, qd1, qa1, qn, qt, qm1⟩ | 2, _ => ⟨qg2, qk2, xb2, qd2, qa2, qn, qt, qm2⟩ | 3, _ => ⟨qg3, qk3, xb3, qd3, qa3, qn, qt, qm3⟩ | 4, _ => ⟨qg4, qk4, xb4, qd4, qa4, qn, qt, qm4⟩, kit := fun k j hk hj => match k, j, hk, hj with | 0, 0, _, _ => qi00 | 0, 1, _, _ => qi01 | 0, 2, _, _ => qi02 | 0, 3, _, _ => qi03 | 0, 4, _, _ => qi04 | 0, 5, _, _ => qi05 | 1, 0, _, _ => qi10 | 1, 1, _, _ => qi11 | 1, 2, _, _ => qi12 | 1, 3, _, _ => qi13 | 1, 4, _, _ => qi14 | 1, 5, _, _ => qi15 | 2, 0, _, _ => qi20 | 2, 1, _, _ => qi21 | 2, 2, _, _ => qi22 | 2, 3, _, _ => qi23 | 2, 4, _, _ => qi24 | 2, 5, _, _ => qi25 | 3, 0, _, _ => qi30 | 3, 1, _, _ => qi31 | 3, 2, _, _ => qi32 | 3, 3, _, _ => qi33 | 3, 4, _, _ => qi34 | 3, 5, _, _ => qi35 | 4, 0, _, _ => qi40 | 4, 1, _, _ => qi41 | 4, 2, _, _ => qi42 | 4, 3, _, _ => qi43 | 4, 4, _, _ => qi44 | 4, 5, _, _ => qi45, ve := fun k hk => match k, hk with | 0, _ => qv0 | 1, _ => qv1 | 2, _ => qv2 | 3, _ => qv3 | 4, _ => qv4, exm := fun k hk => match k, hk with | 0, _ => qe0 | 1, _ => qe1 | 2, _ => qe2 | 3, _ => qe3 | 4, _ => qe4 }, x_BadNumber := PySem.W.mg_of X G x0, x_BadBeginning := PySem.W.mg_of X G x1, x_BadCount := PySem.W.mg_of X G x2, x_BadText := PySem.W.mg_of X G x3, x_NotFound := PySem.W.mg_of X G x4, x_DigitError := PySem.W.mg_of X G x5 }
  have F0 := fun_mk (st := sd_is_int) l0 c0 k0
  have b0 := F0.binds (ps := ["value", "low", "high"]) fun _ _ _ _ _ _ us hl => match us, hl with | [_, _, _], _ => rfl
  have F1 := fun_mk (st := sd_ten_to) l1 c1 k1
  have b1 := F1.binds (ps := ["exponent"]) fun _ _ _ _ _ _ us hl => match us, hl with | [_], _ => rfl
  have F2 := fun_mk (st := sd_is_number) l2 c2 k2
  have b2 := F2.binds (ps := ["value"]) fun _ _ _ _ _ _ us hl => match us, hl with | [_], _ => rfl
  have F3 := fun_mk (st := sd_is_beginning) l3 c3 k3
  have b3 := F3.binds (ps := ["value"]) fun _ _ _ _ _ _ us hl => match us, hl with | [_], _ => rfl
  have F4 := fun_mk (st := sd_check_number) l4 c4 k4
  have b4 := F4.binds (ps := ["value"]) fun _ _ _ _ _ _ us hl => match us, hl with | [_], _ => rfl
  have F5 := fun_mk (st := sd_check_beginning) l5 c5 k5
  have b5 := F5.binds (ps := ["value"]) fun _ _ _ _ _ _ us hl => match us, hl with | [_], _ => rfl
  have F6 := fun_mk (st := sd_check_count) l6 c6 k6
  have b6 := F6.binds (ps := ["value", "low", "high"]) fun _ _ _ _ _ _ us hl => match us, hl with | [_, _, _], _ => rfl
  have F7 := fun_mk (st := sd_check_base) l7 c7 k7
  have b7 := F7.binds (ps := ["value"]) fun _ _ _ _ _ _ us hl => match us, hl with | [_], _ => rfl
  have F8 := fun_mk (st := sd_scales) l8 c8 k8
  have b8 := F8.binds (ps := []) fun _ _ _ _ _ _ us hl => match us, hl with | [], _ => rfl
  have F9 := fun_mk (st := sd_crosses) l9 c9 k9
  have b9 := F9.binds (ps := ["low", "high", "first", "last", "scale"]) fun _ _ _ _ _ _ us hl => match us, hl with | [_, _, _, _, _], _ => rfl
  have F10 := fun_mk (st := sd_meets) l10 c10 k10
  have b10 := F10.binds (ps := ["low", "high", "one"]) fun _ _ _ _ _ _ us hl => match us, hl with | [_, _, _], _ => rfl
  have F11 := fun_mk (st := sd_all_meeting) l11 c11 k11
  have b11 := F11.binds (ps := ["low", "high", "many"]) fun _ _ _ _ _ _ us hl => match us, hl with | [_, _, _], _ => rfl
  have F12 := fun_mk (st := sd_size_of) l12 c12 k12
  have b12 := F12.binds (ps := ["number"]) fun _ _ _ _ _ _ us hl => match us, hl with | [_], _ => rfl
  have F13 := fun_mk (st := sd_first_of) l13 c13 k13
  have b13 := F13.binds (ps := ["number", "many"]) fun _ _ _ _ _ _ us hl => match us, hl with | [_, _], _ => rfl
  have F14 := fun_mk (st := sd_begins_of) l14 c14 k14
  have b14 := F14.binds (ps := ["number", "beginning"]) fun _ _ _ _ _ _ us hl => match us, hl with | [_, _], _ => rfl
  have F15 := fun_mk (st := sd_first_digits) l15 c15 k15
  have b15 := F15.binds (ps := ["number", "many"]) fun _ _ _ _ _ _ us hl => match us, hl with | [_, _], _ => rfl
  have F16 := fun_mk (st := sd_longer) l16 c16 k16
  have b16 := F16.binds (ps := ["beginning", "many"]) fun _ _ _ _ _ _ us hl => match us, hl with | [_, _], _ => rfl
  have F17 := fun_mk (st := sd_stretch_of) l17 c17 k17
  have b17 := F17.binds (ps := ["beginning", "count"]) fun _ _ _ _ _ _ us hl => match us, hl with | [_, _], _ => rfl
  have F18 := fun_mk (st := sd_stretch) l18 c18 k18
  have b18 := F18.binds (ps := ["beginning", "count"]) fun _ _ _ _ _ _ us hl => match us, hl with | [_, _], _ => rfl
  have F19 := fun_mk (st := sd_number_at) l19 c19 k19
  have b19 := F19.binds (ps := ["beginning", "rank"]) fun _ _ _ _ _ _ us hl => match us, hl with | [_, _], _ => rfl
  have F20 := fun_mk (st := sd_squares) l20 c20 k20
  have b20 := F20.binds (ps := ["beginning", "many"]) fun _ _ _ _ _ _ us hl => match us, hl with | [_, _], _ => rfl
  have F21 := fun_mk (st := sd_roots) l21 c21 k21
  have b21 := F21.binds (ps := ["beginning", "many"]) fun _ _ _ _ _ _ us hl => match us, hl with | [_, _], _ => rfl
  have F22 := fun_mk (st := sd_root_from) l22 c22 k22
  have b22 := F22.binds (ps := ["number"]) fun _ _ _ _ _ _ us hl => match us, hl with | [_], _ => rfl
  have F23 := fun_mk (st := sd_roots_with) l23 c23 k23
  have b23 := F23.binds (ps := ["beginning", "count"]) fun _ _ _ _ _ _ us hl => match us, hl with | [_, _], _ => rfl
  have F24 := fun_mk (st := sd_powers_of) l24 c24 k24
  have b24 := F24.binds (ps := ["base", "most"]) fun _ _ _ _ _ _ us hl => match us, hl with | [_, _], _ => rfl
  have F25 := fun_mk (st := sd_places_of) l25 c25 k25
  have b25 := F25.binds (ps := ["base", "beginning", "most"]) fun _ _ _ _ _ _ us hl => match us, hl with | [_, _, _], _ => rfl
  have F26 := fun_mk (st := sd_check_all) l26 c26 k26
  have b26 := F26.binds (ps := ["base", "beginning", "most"]) fun _ _ _ _ _ _ us hl => match us, hl with | [_, _, _], _ => rfl
  have F27 := fun_mk (st := sd_power_places) l27 c27 k27
  have b27 := F27.binds (ps := ["base", "beginning", "most"]) fun _ _ _ _ _ _ us hl => match us, hl with | [_, _, _], _ => rfl
  have F28 := fun_mk (st := sd_first_power) l28 c28 k28
  have b28 := F28.binds (ps := ["base", "beginning", "most"]) fun _ _ _ _ _ _ us hl => match us, hl with | [_, _, _], _ => rfl
  have F29 := fun_mk (st := sd_waits) l29 c29 k29
  have b29 := F29.binds (ps := ["base", "beginning", "most"]) fun _ _ _ _ _ _ us hl => match us, hl with | [_, _, _], _ => rfl
  have F30 := fun_mk (st := sd_longest_wait) l30 c30 k30
  have b30 := F30.binds (ps := ["base", "beginning", "most"]) fun _ _ _ _ _ _ us hl => match us, hl with | [_, _, _], _ => rfl
  have F31 := fun_mk (st := sd_digit_table) l31 c31 k31
  have b31 := F31.binds (ps := ["base", "most"]) fun _ _ _ _ _ _ us hl => match us, hl with | [_, _], _ => rfl
  have F32 := fun_mk (st := sd_never) l32 c32 k32
  have b32 := F32.binds (ps := ["base", "many", "most"]) fun _ _ _ _ _ _ us hl => match us, hl with | [_, _, _], _ => rfl
  have F33 := fun_mk (st := sd_powers_with) l33 c33 k33
  have b33 := F33.binds (ps := ["base", "count"]) fun _ _ _ _ _ _ us hl => match us, hl with | [_, _], _ => rfl
  have F34 := fun_mk (st := sd_check_step) l34 c34 k34
  have b34 := F34.binds (ps := ["value"]) fun _ _ _ _ _ _ us hl => match us, hl with | [_], _ => rfl
  have F35 := fun_mk (st := sd_first_of_stretch) l35 c35 k35
  have b35 := F35.binds (ps := ["number", "first", "last"]) fun _ _ _ _ _ _ us hl => match us, hl with | [_, _, _], _ => rfl
  have F36 := fun_mk (st := sd_first_multiple) l36 c36 k36
  have b36 := F36.binds (ps := ["number", "beginning"]) fun _ _ _ _ _ _ us hl => match us, hl with | [_, _], _ => rfl
  have F37 := fun_mk (st := sd_multiple_places) l37 c37 k37
  have b37 := F37.binds (ps := ["number", "beginning", "most"]) fun _ _ _ _ _ _ us hl => match us, hl with | [_, _, _], _ => rfl
  have F38 := fun_mk (st := sd_count_multiples) l38 c38 k38
  have b38 := F38.binds (ps := ["number", "beginning", "count"]) fun _ _ _ _ _ _ us hl => match us, hl with | [_, _, _], _ => rfl
  have F39 := fun_mk (st := sd_product_bounds) l39 c39 k39
  have b39 := F39.binds (ps := ["one", "other"]) fun _ _ _ _ _ _ us hl => match us, hl with | [_, _], _ => rfl
  have F40 := fun_mk (st := sd_products) l40 c40 k40
  have b40 := F40.binds (ps := ["one", "other", "many"]) fun _ _ _ _ _ _ us hl => match us, hl with | [_, _, _], _ => rfl
  have F41 := fun_mk (st := sd_least_behind) l41 c41 k41
  have b41 := F41.binds (ps := ["one", "other", "beginning", "more"]) fun _ _ _ _ _ _ us hl => match us, hl with | [_, _, _, _], _ => rfl
  have F42 := fun_mk (st := sd_product_example) l42 c42 k42
  have b42 := F42.binds (ps := ["one", "other", "beginning"]) fun _ _ _ _ _ _ us hl => match us, hl with | [_, _, _], _ => rfl
  have F43 := fun_mk (st := sd_sums) l43 c43 k43
  have b43 := F43.binds (ps := ["one", "other", "many"]) fun _ _ _ _ _ _ us hl => match us, hl with | [_, _, _], _ => rfl
  have F44 := fun_mk (st := sd_quotients) l44 c44 k44
  have b44 := F44.binds (ps := ["one", "other", "many"]) fun _ _ _ _ _ _ us hl => match us, hl with | [_, _, _], _ => rfl
  have F45 := fun_mk (st := sd_is_row) l45 c45 k45
  have b45 := F45.binds (ps := ["value"]) fun _ _ _ _ _ _ us hl => match us, hl with | [_], _ => rfl
  have F46 := fun_mk (st := sd_parts_of) l46 c46 k46
  have b46 := F46.binds (ps := ["value"]) fun _ _ _ _ _ _ us hl => match us, hl with | [_], _ => rfl
  have F47 := fun_mk (st := sd_text_of) l47 c47 k47
  have b47 := F47.binds (ps := ["value"]) fun _ _ _ _ _ _ us hl => match us, hl with | [_], _ => rfl
  have F48 := fun_mk (st := sd_format_beginnings) l48 c48 k48
  have b48 := F48.binds (ps := ["value"]) fun _ _ _ _ _ _ us hl => match us, hl with | [_], _ => rfl
  have F49 := fun_mk (st := sd_law_start) l49 c49 k49
  have b49 := F49.binds (ps := ["_law_script"]) fun _ _ _ _ _ _ us hl => match us, hl with | [_], _ => rfl
  have F50 := fun_mk (st := sd_law_draw) l50 c50 k50
  have b50 := F50.binds (ps := ["_law_draws", "_law_limit"]) fun _ _ _ _ _ _ us hl => match us, hl with | [_, _], _ => rfl
  have F51 := fun_mk (st := sd_law_pick) l51 c51 k51
  have b51 := F51.binds (ps := ["_law_draws", "_law_choices"]) fun _ _ _ _ _ _ us hl => match us, hl with | [_, _], _ => rfl
  have F52 := fun_mk (st := sd_law_error) l52 c52 k52
  have b52 := F52.binds (ps := ["_law_caught"]) fun _ _ _ _ _ _ us hl => match us, hl with | [_], _ => rfl
  have F53 := fun_mk (st := sd_law_ten) l53 c53 k53
  have b53 := F53.binds (ps := ["_law_exponent"]) fun _ _ _ _ _ _ us hl => match us, hl with | [_], _ => rfl
  have F54 := fun_mk (st := sd_law_powers) l54 c54 k54
  have b54 := F54.binds (ps := ["_law_which", "_law_most"]) fun _ _ _ _ _ _ us hl => match us, hl with | [_, _], _ => rfl
  have F55 := fun_mk (st := sd_row_first_digits) l55 c55 k55
  have b55 := F55.binds (ps := ["self", "many"]) fun _ _ _ _ _ _ us hl => match us, hl with | [_, _], _ => rfl
  have F56 := fun_mk (st := sd_row_init) l56 c56 k56
  have b56 := F56.binds (ps := ["self", "number"]) fun _ _ _ _ _ _ us hl => match us, hl with | [_, _], _ => rfl
  have F57 := fun_mk (st := sd_law_counted) l57 c57 k57
  have b57 := F57.binds (ps := ["_law_which", "_law_count"]) fun _ _ _ _ _ _ us hl => match us, hl with | [_, _], _ => rfl
  have F58 := fun_mk (st := sd_row_grown) l58 c58 k58
  have b58 := F58.binds (ps := ["self", "number"]) fun _ _ _ _ _ _ us hl => match us, hl with | [_, _], _ => rfl
  have F59 := fun_mk (st := sd_row_multiply) l59 c59 k59
  have b59 := F59.binds (ps := ["self", "base"]) fun _ _ _ _ _ _ us hl => match us, hl with | [_, _], _ => rfl
  have F60 := fun_mk (st := sd_law_based) l60 c60 k60
  have b60 := F60.binds (ps := ["_law_which", "_law_base"]) fun _ _ _ _ _ _ us hl => match us, hl with | [_, _], _ => rfl
  have F61 := fun_mk (st := sd_law_asked) l61 c61 k61
  have b61 := F61.binds (ps := ["_law_group", "_law_which", "_law_one"]) fun _ _ _ _ _ _ us hl => match us, hl with | [_, _, _], _ => rfl
  have F62 := fun_mk (st := sd_row_add) l62 c62 k62
  have b62 := F62.binds (ps := ["self", "number"]) fun _ _ _ _ _ _ us hl => match us, hl with | [_, _], _ => rfl
  have F63 := fun_mk (st := sd_row_len) l63 c63 k63
  have b63 := F63.binds (ps := ["self"]) fun _ _ _ _ _ _ us hl => match us, hl with | [_], _ => rfl
  have F64 := fun_mk (st := sd_row_number) l64 c64 k64
  have b64 := F64.binds (ps := ["self"]) fun _ _ _ _ _ _ us hl => match us, hl with | [_], _ => rfl
  have F65 := fun_mk (st := sd_row_undo) l65 c65 k65
  have b65 := F65.binds (ps := ["self"]) fun _ _ _ _ _ _ us hl => match us, hl with | [_], _ => rfl
  have F66 := fun_mk (st := sd_law_row) l66 c66 k66
  have b66 := F66.binds (ps := []) fun _ _ _ _ _ _ us hl => match us, hl with | [], _ => rfl
  have F67 := fun_mk (st := sd_law) l67 c67 k67
  have b67 := F67.binds (ps := ["_law_script"]) fun _ _ _ _ _ _ us hl => match us, hl with | [_], _ => rfl
  refine ⟨PySem.W.fnOf "law" "law" (defArgs sd_law) (defBody sd_law) (defScope sd_law) .none kV67 dc67 pm67 an67 cd67 ct67, fun s v => .of_eq rfl, fun base _ _ => ?_⟩
  have C_is_int := Callee.mk ⟨f0, _, _, ok_is_int (P := l.prog) (w := w) (base := base) F0 T , PySem.W.mg_of X G a0, k0, b0⟩
  have C_ten_to := Callee.mk ⟨f1, _, _, ok_ten_to (P := l.prog) (w := w) (base := base) F1 T , PySem.W.mg_of X G a1, k1, b1⟩
  have C_is_number := Callee.mk ⟨f2, _, _, ok_is_number (P := l.prog) (w := w) (base := base) F2 T C_is_int C_ten_to, PySem.W.mg_of X G a2, k2, b2⟩
  have C_is_beginning := Callee.mk ⟨f3, _, _, ok_is_beginning (P := l.prog) (w := w) (base := base) F3 T C_is_int, PySem.W.mg_of X G a3, k3, b3⟩
  have C_check_number := Callee.mk ⟨f4, _, _, ok_check_number (P := l.prog) (w := w) (base := base) F4 T C_is_number, PySem.W.mg_of X G a4, k4, b4⟩
  have C_check_beginning := Callee.mk ⟨f5, _, _, ok_check_beginning (P := l.prog) (w := w) (base := base) F5 T C_is_beginning, PySem.W.mg_of X G a5, k5, b5⟩
  have C_check_count := Callee.mk ⟨f6, _, _, ok_check_count (P := l.prog) (w := w) (base := base) F6 T C_is_int, PySem.W.mg_of X G a6, k6, b6⟩
  have C_check_base := Callee.mk ⟨f7, _, _, ok_check_base (P := l.prog) (w := w) (base := base) F7 T C_is_int, PySem.W.mg_of X G a7, k7, b7⟩
  have C_scales := Callee.mk ⟨f8, _, _, ok_scales (P := l.prog) (w := w) (base := base) F8 T C_ten_to, PySem.W.mg_of X G a8, k8, b8⟩
  have C_crosses := Callee.mk ⟨f9, _, _, ok_crosses (P := l.prog) (w := w) (base := base) F9 T , PySem.W.mg_of X G a9, k9, b9⟩
  have C_meets := Callee.mk ⟨f10, _, _, ok_meets (P := l.prog) (w := w) (base := base) F10 T C_crosses C_scales, PySem.W.mg_of X G a10, k10, b10⟩
  have C_all_meeting := Callee.mk ⟨f11, _, _, ok_all_meeting (P := l.prog) (w := w) (base := base) F11 T C_ten_to C_scales C_crosses, PySem.W.mg_of X G a11, k11, b11⟩
  have C_size_of := Callee.mk ⟨f12, _, _, ok_size_of (P := l.prog) (w := w) (base := base) F12 T , PySem.W.mg_of X G a12, k12, b12⟩
  have C_first_of := Callee.mk ⟨f13, _, _, ok_first_of (P := l.prog) (w := w) (base := base) F13 T , PySem.W.mg_of X G a13, k13, b13⟩
  have C_begins_of := Callee.mk ⟨f14, _, _, ok_begins_of (P := l.prog) (w := w) (base := base) F14 T C_size_of, PySem.W.mg_of X G a14, k14, b14⟩
  have C_first_digits := Callee.mk ⟨f15, _, _, ok_first_digits (P := l.prog) (w := w) (base := base) F15 T C_check_number C_check_count C_first_of, PySem.W.mg_of X G a15, k15, b15⟩
  have C_longer := Callee.mk ⟨f16, _, _, ok_longer (P := l.prog) (w := w) (base := base) F16 T C_check_beginning C_check_count C_size_of C_ten_to, PySem.W.mg_of X G a16, k16, b16⟩
  have C_stretch_of := Callee.mk ⟨f17, _, _, ok_stretch_of (P := l.prog) (w := w) (base := base) F17 T C_ten_to C_size_of, PySem.W.mg_of X G a17, k17, b17⟩
  have C_stretch := Callee.mk ⟨f18, _, _, ok_stretch (P := l.prog) (w := w) (base := base) F18 T C_check_beginning C_check_count C_stretch_of C_size_of, PySem.W.mg_of X G a18, k18, b18⟩
  have C_number_at := Callee.mk ⟨f19, _, _, ok_number_at (P := l.prog) (w := w) (base := base) F19 T C_check_beginning C_check_count C_ten_to, PySem.W.mg_of X G a19, k19, b19⟩
  have C_squares := Callee.mk ⟨f20, _, _, ok_squares (P := l.prog) (w := w) (base := base) F20 T C_check_beginning C_check_count C_all_meeting, PySem.W.mg_of X G a20, k20, b20⟩
  have C_roots := Callee.mk ⟨f21, _, _, ok_roots (P := l.prog) (w := w) (base := base) F21 T C_check_beginning C_check_count C_scales C_ten_to C_crosses, PySem.W.mg_of X G a21, k21, b21⟩
  have C_root_from := Callee.mk ⟨f22, _, _, ok_root_from (P := l.prog) (w := w) (base := base) F22 T , PySem.W.mg_of X G a22, k22, b22⟩
  have C_roots_with := Callee.mk ⟨f23, _, _, ok_roots_with (P := l.prog) (w := w) (base := base) F23 T C_check_beginning C_check_count C_stretch_of C_root_from, PySem.W.mg_of X G a23, k23, b23⟩
  have C_powers_of := Callee.mk ⟨f24, _, _, ok_powers_of (P := l.prog) (w := w) (base := base) F24 T , PySem.W.mg_of X G a24, k24, b24⟩
  have C_places_of := Callee.mk ⟨f25, _, _, ok_places_of (P := l.prog) (w := w) (base := base) F25 T C_begins_of C_powers_of, PySem.W.mg_of X G a25, k25, b25⟩
  have C_check_all := Callee.mk ⟨f26, _, _, ok_check_all (P := l.prog) (w := w) (base := base) F26 T C_check_base C_check_beginning C_check_count, PySem.W.mg_of X G a26, k26, b26⟩
  have C_power_places := Callee.mk ⟨f27, _, _, ok_power_places (P := l.prog) (w := w) (base := base) F27 T C_check_all C_places_of, PySem.W.mg_of X G a27, k27, b27⟩
  have C_first_power := Callee.mk ⟨f28, _, _, ok_first_power (P := l.prog) (w := w) (base := base) F28 T C_check_all C_places_of, PySem.W.mg_of X G a28, k28, b28⟩
  have C_waits := Callee.mk ⟨f29, _, _, ok_waits (P := l.prog) (w := w) (base := base) F29 T C_check_all C_places_of, PySem.W.mg_of X G a29, k29, b29⟩
  have C_longest_wait := Callee.mk ⟨f30, _, _, ok_longest_wait (P := l.prog) (w := w) (base := base) F30 T C_check_all C_places_of, PySem.W.mg_of X G a30, k30, b30⟩
  have C_digit_table := Callee.mk ⟨f31, _, _, ok_digit_table (P := l.prog) (w := w) (base := base) F31 T C_check_base C_check_count C_powers_of C_first_of, PySem.W.mg_of X G a31, k31, b31⟩
  have C_never := Callee.mk ⟨f32, _, _, ok_never (P := l.prog) (w := w) (base := base) F32 T C_check_base C_check_count C_powers_of C_ten_to C_size_of C_first_of, PySem.W.mg_of X G a32, k32, b32⟩
  have C_powers_with := Callee.mk ⟨f33, _, _, ok_powers_with (P := l.prog) (w := w) (base := base) F33 T C_check_base C_check_count C_powers_of C_size_of, PySem.W.mg_of X G a33, k33, b33⟩
  have C_check_step := Callee.mk ⟨f34, _, _, ok_check_step (P := l.prog) (w := w) (base := base) F34 T C_is_int, PySem.W.mg_of X G a34, k34, b34⟩
  have C_first_of_stretch := Callee.mk ⟨f35, _, _, ok_first_of_stretch (P := l.prog) (w := w) (base := base) F35 T , PySem.W.mg_of X G a35, k35, b35⟩
  have C_first_multiple := Callee.mk ⟨f36, _, _, ok_first_multiple (P := l.prog) (w := w) (base := base) F36 T C_check_step C_check_beginning C_size_of C_stretch_of C_first_of_stretch, PySem.W.mg_of X G a36, k36, b36⟩
  have C_multiple_places := Callee.mk ⟨f37, _, _, ok_multiple_places (P := l.prog) (w := w) (base := base) F37 T C_check_step C_check_beginning C_check_count C_begins_of, PySem.W.mg_of X G a37, k37, b37⟩
  have C_count_multiples := Callee.mk ⟨f38, _, _, ok_count_multiples (P := l.prog) (w := w) (base := base) F38 T C_check_step C_check_beginning C_check_count C_stretch_of C_size_of, PySem.W.mg_of X G a38, k38, b38⟩
  have C_product_bounds := Callee.mk ⟨f39, _, _, ok_product_bounds (P := l.prog) (w := w) (base := base) F39 T , PySem.W.mg_of X G a39, k39, b39⟩
  have C_products := Callee.mk ⟨f40, _, _, ok_products (P := l.prog) (w := w) (base := base) F40 T C_check_beginning C_check_count C_product_bounds C_all_meeting, PySem.W.mg_of X G a40, k40, b40⟩
  have C_least_behind := Callee.mk ⟨f41, _, _, ok_least_behind (P := l.prog) (w := w) (base := base) F41 T C_ten_to C_size_of C_begins_of, PySem.W.mg_of X G a41, k41, b41⟩
  have C_product_example := Callee.mk ⟨f42, _, _, ok_product_example (P := l.prog) (w := w) (base := base) F42 T C_check_beginning C_product_bounds C_least_behind C_meets C_ten_to, PySem.W.mg_of X G a42, k42, b42⟩
  have C_sums := Callee.mk ⟨f43, _, _, ok_sums (P := l.prog) (w := w) (base := base) F43 T C_check_beginning C_check_count C_all_meeting C_ten_to C_size_of, PySem.W.mg_of X G a43, k43, b43⟩
  have C_quotients := Callee.mk ⟨f44, _, _, ok_quotients (P := l.prog) (w := w) (base := base) F44 T C_check_beginning C_check_count C_all_meeting, PySem.W.mg_of X G a44, k44, b44⟩
  have C_is_row := Callee.mk ⟨f45, _, _, ok_is_row (P := l.prog) (w := w) (base := base) F45 T C_is_beginning, PySem.W.mg_of X G a45, k45, b45⟩
  have C_parts_of := Callee.mk ⟨f46, _, _, ok_parts_of (P := l.prog) (w := w) (base := base) F46 T , PySem.W.mg_of X G a46, k46, b46⟩
  have C_text_of := Callee.mk ⟨f47, _, _, ok_text_of (P := l.prog) (w := w) (base := base) F47 T C_parts_of, PySem.W.mg_of X G a47, k47, b47⟩
  have C_format_beginnings := Callee.mk ⟨f48, _, _, ok_format_beginnings (P := l.prog) (w := w) (base := base) F48 T C_text_of C_is_row, PySem.W.mg_of X G a48, k48, b48⟩
  have C_law_start := Callee.mk ⟨f49, _, _, ok_law_start (P := l.prog) (w := w) (base := base) F49 T , PySem.W.mg_of X G a49, k49, b49⟩
  have C_law_draw := Callee.mk ⟨f50, _, _, ok_law_draw (P := l.prog) (w := w) (base := base) F50 T , PySem.W.mg_of X G a50, k50, b50⟩
  have C_law_pick := Callee.mk ⟨f51, _, _, ok_law_pick (P := l.prog) (w := w) (base := base) F51 T C_law_draw, PySem.W.mg_of X G a51, k51, b51⟩
  have C_law_error := Callee.mk ⟨f52, _, _, ok_law_error (P := l.prog) (w := w) (base := base) F52 T , PySem.W.mg_of X G a52, k52, b52⟩
  have E_law_error := CalleeE.mk ⟨f52, _, _, okE_law_error (P := l.prog) (w := w) (base := base) F52 T, PySem.W.mg_of X G a52, k52, b52⟩
  have C_law_ten := Callee.mk ⟨f53, _, _, ok_law_ten (P := l.prog) (w := w) (base := base) F53 T , PySem.W.mg_of X G a53, k53, b53⟩
  have C_law_powers := Callee.mk ⟨f54, _, _, ok_law_powers (P := l.prog) (w := w) (base := base) F54 T C_number_at C_power_places C_first_power C_waits C_digit_table C_never C_powers_with C_multiple_places, PySem.W.mg_of X G a54, k54, b54⟩
  have C_row_first_digits := MCallee.mk ⟨f55, _, _, ok_row_first_digits (P := l.prog) (w := w) (base := base) F55 T C_check_count C_first_of, ⟨a55, i55, k55⟩, b55⟩
  have C_row_init := NCallee.mk ⟨f56, _, _, ok_row_init (P := l.prog) (w := w) (base := base) F56 T C_check_number, ⟨rm, a56, i56, rk⟩, b56, PySem.W.mg_of X G rA⟩
  have C_law_counted := Callee.mk ⟨f57, _, _, ok_law_counted (P := l.prog) (w := w) (base := base) F57 T C_law_powers C_first_digits C_longer C_row_first_digits C_products C_quotients C_sums C_squares C_roots C_never C_stretch C_count_multiples C_roots_with C_row_init, PySem.W.mg_of X G a57, k57, b57⟩
  have C_row_grown := MCallee.mk ⟨f58, _, _, ok_row_grown (P := l.prog) (w := w) (base := base) F58 T C_is_number, ⟨a58, i58, k58⟩, b58⟩
  have C_row_multiply := MCallee.mk ⟨f59, _, _, ok_row_multiply (P := l.prog) (w := w) (base := base) F59 T C_check_base C_row_grown, ⟨a59, i59, k59⟩, b59⟩
  have C_law_based := Callee.mk ⟨f60, _, _, ok_law_based (P := l.prog) (w := w) (base := base) F60 T C_power_places C_first_power C_waits C_longest_wait C_digit_table C_never C_powers_with C_row_multiply C_first_multiple C_multiple_places C_count_multiples C_row_init, PySem.W.mg_of X G a60, k60, b60⟩
  have C_law_asked := Callee.mk ⟨f61, _, _, ok_law_asked (P := l.prog) (w := w) (base := base) F61 T C_law_error C_law_counted C_law_based C_format_beginnings C_longest_wait C_stretch C_roots_with C_product_example, PySem.W.mg_of X G a61, k61, b61⟩
  have C_row_add := MCallee.mk ⟨f62, _, _, ok_row_add (P := l.prog) (w := w) (base := base) F62 T C_check_number C_row_grown, ⟨a62, i62, k62⟩, b62⟩
  have C_row_len := MCallee.mk ⟨f63, _, _, ok_row_len (P := l.prog) (w := w) (base := base) F63 T , ⟨a63, i63, k63⟩, b63⟩
  have C_row_number := MCallee.mk ⟨f64, _, _, ok_row_number (P := l.prog) (w := w) (base := base) F64 T , ⟨a64, i64, k64⟩, b64⟩
  have C_row_undo := MCallee.mk ⟨f65, _, _, ok_row_undo (P := l.prog) (w := w) (base := base) F65 T , ⟨a65, i65, k65⟩, b65⟩
  have C_law_row := Callee.mk ⟨f66, _, _, ok_law_row (P := l.prog) (w := w) (base := base) F66 T C_row_init C_law_ten C_row_add C_row_len C_row_multiply C_row_number C_row_undo C_law_error E_law_error, PySem.W.mg_of X G a66, k66, b66⟩
  exact ok_law F67 T C_law_start C_law_asked C_law_row C_law_pick
end FD
open PySem PySem.W PyProof.Rows
set_option maxRecDepth 100000 in
set_option maxHeartbeats 0 in
theorem PySem.Challenge.cw_firstdigits_k12_more_errors_holds : PySem.Challenge.rw_firstdigits_k12_more_errors.Holds := by
  w_on; o_law; k_head; (case hw => w_witness2)
  k_fill
  refine FD.walk (l := PySem.Challenge.rw_firstdigits_k12_more_errors) (k := 9) (x := "_law_script") rfl rfl ⟨rfl, by decide, by decide⟩ (fun w h Y => PySem.W.kIn_of Y) ?F
  case F =>
    intro w mg fa h KX G hmg
    refine' FD.all_mk KX G hmg ?ydig ?rA ?rg ?rh ?ro ?rs ?rm ?rk ?rl ?rp ?a0 ?l0 ?c0 ?k0 ?a1 ?l1 ?c1 ?k1 ?a2 ?l2 ?c2 ?k2 ?a3 ?l3 ?c3 ?k3 ?a4 ?l4 ?c4 ?k4 ?a5 ?l5 ?c5 ?k5 ?a6 ?l6 ?c6 ?k6 ?a7 ?l7 ?c7 ?k7 ?a8 ?l8 ?c8 ?k8 ?a9 ?l9 ?c9 ?k9 ?a10 ?l10 ?c10 ?k10 ?a11 ?l11 ?c11 ?k11 ?a12 ?l12 ?c12 ?k12 ?a13 ?l13 ?c13 ?k13 ?a14 ?l14 ?c14 ?k14 ?a15 ?l15 ?c15 ?k15 ?a16 ?l16 ?c16 ?k16 ?a17 ?l17 ?c17 ?k17 ?a18 ?l18 ?c18 ?k18 ?a19 ?l19 ?c19 ?k19 ?a20 ?l20 ?c20 ?k20 ?a21 ?l21 ?c21 ?k21 ?a22 ?l22 ?c22 ?k22 ?a23 ?l23 ?c23 ?k23 ?a24 ?l24 ?c24 ?k24 ?a25 ?l25 ?c25 ?k25 ?a26 ?l26 ?c26 ?k26 ?a27 ?l27 ?c27 ?k27 ?a28 ?l28 ?c28 ?k28 ?a29 ?l29 ?c29 ?k29 ?a30 ?l30 ?c30 ?k30 ?a31 ?l31 ?c31 ?k31 ?a32 ?l32 ?c32 ?k32 ?a33 ?l33 ?c33 ?k33 ?a34 ?l34 ?c34 ?k34 ?a35 ?l35 ?c35 ?k35 ?a36 ?l36 ?c36 ?k36 ?a37 ?l37 ?c37 ?k37 ?a38 ?l38 ?c38 ?k38 ?a39 ?l39 ?c39 ?k39 ?a40 ?l40 ?c40 ?k40 ?a41 ?l41 ?c41 ?k41 ?a42 ?l42 ?c42 ?k42 ?a43 ?l43 ?c43 ?k43 ?a44 ?l44 ?c44 ?k44 ?a45 ?l45 ?c45 ?k45 ?a46 ?l46 ?c46 ?k46 ?a47 ?l47 ?c47 ?k47 ?a48 ?l48 ?c48 ?k48 ?a49 ?l49 ?c49 ?k49 ?a50 ?l50 ?c50 ?k50 ?a51 ?l51 ?c51 ?k51 ?a52 ?l52 ?c52 ?k52 ?a53 ?l53 ?c53 ?k53 ?a54 ?l54 ?c54 ?k54 ?i55 ?a55 ?l55 ?c55 ?k55 ?i56 ?a56 ?l56 ?c56 ?k56 ?a57 ?l57 ?c57 ?k57 ?i58 ?a58 ?l58 ?c58 ?k58 ?i59 ?a59 ?l59 ?c59 ?k59 ?a60 ?l60 ?c60 ?k60 ?a61 ?l61 ?c61 ?k61 ?i62 ?a62 ?l62 ?c62 ?k62 ?i63 ?a63 ?l63 ?c63 ?k63 ?i64 ?a64 ?l64 ?c64 ?k64 ?i65 ?a65 ?l65 ?c65 ?k65 ?a66 ?l66 ?c66 ?k66 ?a67 ?l67 ?c67 ?k67 ?z_ValueError ?z_all ?z_any ?z_bool ?z_enumerate ?z_int ?z_isinstance ?z_len ?z_list ?z_max ?z_range ?z_str ?z_zip ?y_MOST_DIGITS ?y_MOST_POWER ?x0 ?xe0 ?xk0 ?xb0 ?xt0 ?x1 ?xe1 ?xk1 ?xb1 ?xt1 ?x2 ?xe2 ?xk2 ?xb2 ?xt2 ?x3 ?xe3 ?xk3 ?xb3 ?xt3 ?x4 ?xe4 ?xk4 ?xb4 ?xt4 ?x5 ?qn ?qt ?qg0 ?qk0 ?qd0 ?qa0 ?qm0 ?qv0 ?qe0 ?qi00 ?qi01 ?qi02 ?qi03 ?qi04 ?qi05 ?qg1 ?qk1 ?qd1 ?qa1 ?qm1 ?qv1 ?qe1 ?qi10 ?qi11 ?qi12 ?qi13 ?qi14 ?qi15 ?qg2 ?qk2 ?qd2 ?qa2 ?qm2 ?qv2 ?qe2 ?qi20 ?qi21 ?qi22 ?qi23 ?qi24 ?qi25 ?qg3 ?qk3 ?qd3 ?qa3 ?qm3 ?qv3 ?qe3 ?qi30 ?qi31 ?qi32 ?qi33 ?qi34 ?qi35 ?qg4 ?qk4 ?qd4 ?qa4 ?qm4 ?qv4 ?qe4 ?qi40 ?qi41 ?qi42 ?qi43 ?qi44 ?qi45
    (case ydig => k_is)
    (case rA => k_is)
    (case rg => k_is)
    (case rh => k_is)
    (case ro => k_is)
    (case rs => k_is)
    (case rm => k_is)
    (case rk => k_is)
    (case rl => k_is)
    (case rp => k_is)
    (case a0 => k_is)
    (case l0 => k_is)
    (case c0 => k_is)
    (case k0 => k_is)
    (case a1 => k_is)
    (case l1 => k_is)
    (case c1 => k_is)
    (case k1 => k_is)
    (case a2 => k_is)
    (case l2 => k_is)
    (case c2 => k_is)
    (case k2 => k_is)
    (case a3 => k_is)
    (case l3 => k_is)
    (case c3 => k_is)
    (case k3 => k_is)
    (case a4 => k_is)
    (case l4 => k_is)
    (case c4 => k_is)
    (case k4 => k_is)
    (case a5 => k_is)
    (case l5 => k_is)
    (case c5 => k_is)
    (case k5 => k_is)
    (case a6 => k_is)
    (case l6 => k_is)
    (case c6 => k_is)
    (case k6 => k_is)
    (case a7 => k_is)
    (case l7 => k_is)
    (case c7 => k_is)
    (case k7 => k_is)
    (case a8 => k_is)
    (case l8 => k_is)
    (case c8 => k_is)
    (case k8 => k_is)
    (case a9 => k_is)
    (case l9 => k_is)
    (case c9 => k_is)
    (case k9 => k_is)
    (case a10 => k_is)
    (case l10 => k_is)
    (case c10 => k_is)
    (case k10 => k_is)
    (case a11 => k_is)
    (case l11 => k_is)
    (case c11 => k_is)
    (case k11 => k_is)
    (case a12 => k_is)
    (case l12 => k_is)
    (case c12 => k_is)
    (case k12 => k_is)
    (case a13 => k_is)
    (case l13 => k_is)
    (case c13 => k_is)
    (case k13 => k_is)
    (case a14 => k_is)
    (case l14 => k_is)
    (case c14 => k_is)
    (case k14 => k_is)
    (case a15 => k_is)
    (case l15 => k_is)
    (case c15 => k_is)
    (case k15 => k_is)
    (case a16 => k_is)
    (case l16 => k_is)
    (case c16 => k_is)
    (case k16 => k_is)
    (case a17 => k_is)
    (case l17 => k_is)
    (case c17 => k_is)
    (case k17 => k_is)
    (case a18 => k_is)
    (case l18 => k_is)
    (case c18 => k_is)
    (case k18 => k_is)
    (case a19 => k_is)
    (case l19 => k_is)
    (case c19 => k_is)
    (case k19 => k_is)
    (case a20 => k_is)
    (case l20 => k_is)
    (case c20 => k_is)
    (case k20 => k_is)
    (case a21 => k_is)
    (case l21 => k_is)
    (case c21 => k_is)
    (case k21 => k_is)
    (case a22 => k_is)
    (case l22 => k_is)
    (case c22 => k_is)
    (case k22 => k_is)
    (case a23 => k_is)
    (case l23 => k_is)
    (case c23 => k_is)
    (case k23 => k_is)
    (case a24 => k_is)
    (case l24 => k_is)
    (case c24 => k_is)
    (case k24 => k_is)
    (case a25 => k_is)
    (case l25 => k_is)
    (case c25 => k_is)
    (case k25 => k_is)
    (case a26 => k_is)
    (case l26 => k_is)
    (case c26 => k_is)
    (case k26 => k_is)
    (case a27 => k_is)
    (case l27 => k_is)
    (case c27 => k_is)
    (case k27 => k_is)
    (case a28 => k_is)
    (case l28 => k_is)
    (case c28 => k_is)
    (case k28 => k_is)
    (case a29 => k_is)
    (case l29 => k_is)
    (case c29 => k_is)
    (case k29 => k_is)
    (case a30 => k_is)
    (case l30 => k_is)
    (case c30 => k_is)
    (case k30 => k_is)
    (case a31 => k_is)
    (case l31 => k_is)
    (case c31 => k_is)
    (case k31 => k_is)
    (case a32 => k_is)
    (case l32 => k_is)
    (case c32 => k_is)
    (case k32 => k_is)
    (case a33 => k_is)
    (case l33 => k_is)
    (case c33 => k_is)
    (case k33 => k_is)
    (case a34 => k_is)
    (case l34 => k_is)
    (case c34 => k_is)
    (case k34 => k_is)
    (case a35 => k_is)
    (case l35 => k_is)
    (case c35 => k_is)
    (case k35 => k_is)
    (case a36 => k_is)
    (case l36 => k_is)
    (case c36 => k_is)
    (case k36 => k_is)
    (case a37 => k_is)
    (case l37 => k_is)
    (case c37 => k_is)
    (case k37 => k_is)
    (case a38 => k_is)
    (case l38 => k_is)
    (case c38 => k_is)
    (case k38 => k_is)
    (case a39 => k_is)
    (case l39 => k_is)
    (case c39 => k_is)
    (case k39 => k_is)
    (case a40 => k_is)
    (case l40 => k_is)
    (case c40 => k_is)
    (case k40 => k_is)
    (case a41 => k_is)
    (case l41 => k_is)
    (case c41 => k_is)
    (case k41 => k_is)
    (case a42 => k_is)
    (case l42 => k_is)
    (case c42 => k_is)
    (case k42 => k_is)
    (case a43 => k_is)
    (case l43 => k_is)
    (case c43 => k_is)
    (case k43 => k_is)
    (case a44 => k_is)
    (case l44 => k_is)
    (case c44 => k_is)
    (case k44 => k_is)
    (case a45 => k_is)
    (case l45 => k_is)
    (case c45 => k_is)
    (case k45 => k_is)
    (case a46 => k_is)
    (case l46 => k_is)
    (case c46 => k_is)
    (case k46 => k_is)
    (case a47 => k_is)
    (case l47 => k_is)
    (case c47 => k_is)
    (case k47 => k_is)
    (case a48 => k_is)
    (case l48 => k_is)
    (case c48 => k_is)
    (case k48 => k_is)
    (case a49 => k_is)
    (case l49 => k_is)
    (case c49 => k_is)
    (case k49 => k_is)
    (case a50 => k_is)
    (case l50 => k_is)
    (case c50 => k_is)
    (case k50 => k_is)
    (case a51 => k_is)
    (case l51 => k_is)
    (case c51 => k_is)
    (case k51 => k_is)
    (case a52 => k_is)
    (case l52 => k_is)
    (case c52 => k_is)
    (case k52 => k_is)
    (case a53 => k_is)
    (case l53 => k_is)
    (case c53 => k_is)
    (case k53 => k_is)
    (case a54 => k_is)
    (case l54 => k_is)
    (case c54 => k_is)
    (case k54 => k_is)
    (case i55 => k_is)
    (case a55 => k_is)
    (case l55 => k_is)
    (case c55 => k_is)
    (case k55 => k_is)
    (case i56 => k_is)
    (case a56 => k_is)
    (case l56 => k_is)
    (case c56 => k_is)
    (case k56 => k_is)
    (case a57 => k_is)
    (case l57 => k_is)
    (case c57 => k_is)
    (case k57 => k_is)
    (case i58 => k_is)
    (case a58 => k_is)
    (case l58 => k_is)
    (case c58 => k_is)
    (case k58 => k_is)
    (case i59 => k_is)
    (case a59 => k_is)
    (case l59 => k_is)
    (case c59 => k_is)
    (case k59 => k_is)
    (case a60 => k_is)
    (case l60 => k_is)
    (case c60 => k_is)
    (case k60 => k_is)
    (case a61 => k_is)
    (case l61 => k_is)
    (case c61 => k_is)
    (case k61 => k_is)
    (case i62 => k_is)
    (case a62 => k_is)
    (case l62 => k_is)
    (case c62 => k_is)
    (case k62 => k_is)
    (case i63 => k_is)
    (case a63 => k_is)
    (case l63 => k_is)
    (case c63 => k_is)
    (case k63 => k_is)
    (case i64 => k_is)
    (case a64 => k_is)
    (case l64 => k_is)
    (case c64 => k_is)
    (case k64 => k_is)
    (case i65 => k_is)
    (case a65 => k_is)
    (case l65 => k_is)
    (case c65 => k_is)
    (case k65 => k_is)
    (case a66 => k_is)
    (case l66 => k_is)
    (case c66 => k_is)
    (case k66 => k_is)
    (case a67 => k_is)
    (case l67 => k_is)
    (case c67 => k_is)
    (case k67 => k_is)
    (case z_ValueError => k_is)
    (case z_all => k_is)
    (case z_any => k_is)
    (case z_bool => k_is)
    (case z_enumerate => k_is)
    (case z_int => k_is)
    (case z_isinstance => k_is)
    (case z_len => k_is)
    (case z_list => k_is)
    (case z_max => k_is)
    (case z_range => k_is)
    (case z_str => k_is)
    (case z_zip => k_is)
    (case y_MOST_DIGITS => k_is)
    (case y_MOST_POWER => k_is)
    (case x0 => k_is)
    (case xe0 => k_exc)
    (case xk0 => k_is)
    (case xb0 => k_is)
    (case xt0 => k_is)
    (case x1 => k_is)
    (case xe1 => k_exc)
    (case xk1 => k_is)
    (case xb1 => k_is)
    (case xt1 => k_is)
    (case x2 => k_is)
    (case xe2 => k_exc)
    (case xk2 => k_is)
    (case xb2 => k_is)
    (case xt2 => k_is)
    (case x3 => k_is)
    (case xe3 => k_exc)
    (case xk3 => k_is)
    (case xb3 => k_is)
    (case xt3 => k_is)
    (case x4 => k_is)
    (case xe4 => k_exc)
    (case xk4 => k_is)
    (case xb4 => k_is)
    (case xt4 => k_is)
    (case x5 => k_is)
    (case qn => k_is)
    (case qt => k_is)
    (case qg0 => k_is)
    (case qk0 => k_is)
    (case qd0 => k_is)
    (case qa0 => k_is)
    (case qm0 => k_is)
    (case qv0 => kit_is)
    (case qe0 => kts_exm)
    (case qi00 => kit_is)
    (case qi01 => kit_is)
    (case qi02 => kit_is)
    (case qi03 => kit_is)
    (case qi04 => kit_is)
    (case qi05 => kit_is)
    (case qg1 => k_is)
    (case qk1 => k_is)
    (case qd1 => k_is)
    (case qa1 => k_is)
    (case qm1 => k_is)
    (case qv1 => kit_is)
    (case qe1 => kts_exm)
    (case qi10 => kit_is)
    (case qi11 => kit_is)
    (case qi12 => kit_is)
    (case qi13 => kit_is)
    (case qi14 => kit_is)
    (case qi15 => kit_is)
    (case qg2 => k_is)
    (case qk2 => k_is)
    (case qd2 => k_is)
    (case qa2 => k_is)
    (case qm2 => k_is)
    (case qv2 => kit_is)
    (case qe2 => kts_exm)
    (case qi20 => kit_is)
    (case qi21 => kit_is)
    (case qi22 => kit_is)
    (case qi23 => kit_is)
    (case qi24 => kit_is)
    (case qi25 => kit_is)
    (case qg3 => k_is)
    (case qk3 => k_is)
    (case qd3 => k_is)
    (case qa3 => k_is)
    (case qm3 => k_is)
    (case qv3 => kit_is)
    (case qe3 => kts_exm)
    (case qi30 => kit_is)
    (case qi31 => kit_is)
    (case qi32 => kit_is)
    (case qi33 => kit_is)
    (case qi34 => kit_is)
    (case qi35 => kit_is)
    (case qg4 => k_is)
    (case qk4 => k_is)
    (case qd4 => k_is)
    (case qa4 => k_is)
    (case qm4 => k_is)
    (case qv4 => kit_is)
    (case qe4 => kts_exm)
    (case qi40 => kit_is)
    (case qi41 => kit_is)
    (case qi42 => kit_is)
    (case qi43 => kit_is)
    (case qi44 => kit_is)
    (case qi45 => kit_is)
