import PyProof.Rows.All
import Wide.All
import OpenK.AllK
import Wide.FinOn
import HandS.ForMost
import HandS.TupAny
import HandS.Deep
import HandS.IsInst
import HandS.DictComp
import HandS.More
import HandS.Wide
import HandS.SortInts
import HandS.TupLe
import HandS.Conv
import HandS.SetFor
import HandS.Codes
import PySem.Challenge.RW_sameclock_k47_shorter_ways
set_option Elab.async false
set_option linter.all false
set_option maxRecDepth 100000
namespace Mi
open PySem PySem.Spec PyProof.Rows L2

/-! ### data -/
inductive D where
  | non | bl (b : Bool) | int (i : Int) | str (x : Str)
  | tup (ds : List D) | rol (ds : List D)
  | ref (p : Nat) | glo (x : Str) | ty (n : String)
inductive O where
  | lst (ds : List D) | dct (kvs : List (Key × D)) | dtt (kvs : List (List Key × D)) | ins (C : Str) (fs : List (Str × D))
abbrev S := List O
abbrev Env := List (Option D)
structure G where
  K : PySem.W.Frag
  mg : Str → Option Value

/-- a tuple, a list that is only read: not in the store, or an object of the module -/
def RdT (g : G) (m : List Addr) (H : Hp) (a : Addr) (xs : List V) : Prop :=
  (H a = some (.tup xs) ∧ a ∉ m) ∨
    ∃ (o : Obj) (its : Array Value) (n : Nat), g.K.lookup a = some o ∧ o.cls = .type "tuple" ∧ o.data = .seq its n ∧ its.size ≤ sizeLine ∧ Vals xs its.toList
def RdL (g : G) (m : List Addr) (H : Hp) (a : Addr) (xs : List V) : Prop :=
  ((∃ o, H a = some (.frz o (.lst xs))) ∧ a ∉ m) ∨
    ∃ (o : Obj) (its : Array Value) (n : Nat), g.K.lookup a = some o ∧ o.cls = .type "list" ∧ o.dict = none ∧ o.data = .seq its n ∧ its.size ≤ sizeLine ∧ Vals xs its.toList
theorem RdT.sq {g : G} {m : List Addr} {H : Hp} {a : Addr} {xs : List V} (h : RdT g m H a xs) : SqT g.K H a xs := h.elim (fun z => .inl (.inl z.1)) .inr
theorem RdL.sq {g : G} {m : List Addr} {H : Hp} {a : Addr} {xs : List V} (h : RdL g m H a xs) : SqL g.K H a xs := h.elim (fun z => .inl (.inr z.1)) .inr

mutual
inductive Rep (g : G) (m : List Addr) (H : Hp) : V → D → Prop
  | non : Rep g m H .non .non
  | bl (b : Bool) : Rep g m H (.bl b) (.bl b)
  | int (i : Int) : Rep g m H (.int i) (.int i)
  | str (x : Str) : Rep g m H (.str x) (.str x)
  | ty (n : String) : Rep g m H (.ty n) (.ty n)
  | tup {a : Addr} {xs : List V} {ds : List D} : RdT g m H a xs → Reps g m H xs ds → Rep g m H (.ref a) (.tup ds)
  | rol {a : Addr} {xs : List V} {ds : List D} : RdL g m H a xs → Reps g m H xs ds → Rep g m H (.ref a) (.rol ds)
  | ref {a : Addr} {p : Nat} : m[p]? = some a → Rep g m H (.ref a) (.ref p)
  | glo {a : Addr} {x : Str} : g.mg x = some (.ref a) → Rep g m H (.ref a) (.glo x)
inductive Reps (g : G) (m : List Addr) (H : Hp) : List V → List D → Prop
  | nil : Reps g m H [] []
  | cons {v : V} {vs : List V} {d : D} {ds : List D} : Rep g m H v d → Reps g m H vs ds → Reps g m H (v :: vs) (d :: ds)
end

/-- (m, H) goes on to (m', H'): what is not in the store stays -/
structure Le (m : List Addr) (H : Hp) (m' : List Addr) (H' : Hp) : Prop where
  pre : m <+: m'
  rest : ∀ a o, a ∉ m → H a = some o → H' a = some o
  fresh : ∀ a, a ∈ m' → a ∉ m → H a = none
theorem Le.refl (m : List Addr) (H : Hp) : Le m H m H := ⟨List.prefix_refl m, fun _ _ _ h => h, fun _ h h' => absurd h h'⟩
theorem Le.nin {m m' : List Addr} {H H' : Hp} (l : Le m H m' H') {a : Addr} {o : HO} (h : a ∉ m) (e : H a = some o) : a ∉ m' := fun h' => by
  rw [l.fresh a h' h] at e; cases e
theorem Le.trans {m m' m'' : List Addr} {H H' H'' : Hp} (l : Le m H m' H') (k : Le m' H' m'' H'') : Le m H m'' H'' := by
  refine ⟨l.pre.trans k.pre, fun a o h e => k.rest a o (l.nin h e) (l.rest a o h e), fun a h h' => ?_⟩
  by_cases z : a ∈ m'
  · exact l.fresh a z h'
  · have := k.fresh a h z
    cases e : H a with
    | none => rfl
    | some o => rw [l.rest a o h' e] at this; cases this
theorem Le.get {m m' : List Addr} {H H' : Hp} (l : Le m H m' H') {p : Nat} {a : Addr} (h : m[p]? = some a) : m'[p]? = some a := by
  obtain ⟨t, rfl⟩ := l.pre
  have hp : p < m.length := (List.getElem?_eq_some_iff.mp h).1
  rw [List.getElem?_append_left hp]
  exact h
/-- what data hang on: the tuples and frozen lists that are not in the store -/
structure Lr (m : List Addr) (H : Hp) (m' : List Addr) (H' : Hp) : Prop where
  pre : m <+: m'
  tup : ∀ a xs, a ∉ m → H a = some (.tup xs) → H' a = some (.tup xs) ∧ a ∉ m'
  frz : ∀ a o u, a ∉ m → H a = some (.frz o u) → H' a = some (.frz o u) ∧ a ∉ m'
theorem Le.lr {m m' : List Addr} {H H' : Hp} (l : Le m H m' H') : Lr m H m' H' := ⟨l.pre, fun a xs h e => ⟨l.rest a _ h e, l.nin h e⟩, fun a o u h e => ⟨l.rest a _ h e, l.nin h e⟩⟩
theorem Lr.get {m m' : List Addr} {H H' : Hp} (l : Lr m H m' H') {p : Nat} {a : Addr} (h : m[p]? = some a) : m'[p]? = some a := by
  obtain ⟨t, rfl⟩ := l.pre
  have hp : p < m.length := (List.getElem?_eq_some_iff.mp h).1
  rw [List.getElem?_append_left hp]
  exact h
theorem RdT.lr {g : G} {m m' : List Addr} {H H' : Hp} (l : Lr m H m' H') {a : Addr} {xs : List V} (h : RdT g m H a xs) : RdT g m' H' a xs :=
  h.elim (fun z => .inl (l.tup a xs z.2 z.1)) .inr
theorem RdL.lr {g : G} {m m' : List Addr} {H H' : Hp} (l : Lr m H m' H') {a : Addr} {xs : List V} (h : RdL g m H a xs) : RdL g m' H' a xs :=
  h.elim (fun z => let ⟨o, e⟩ := z.1; .inl ⟨⟨o, (l.frz a o _ z.2 e).1⟩, (l.frz a o _ z.2 e).2⟩) .inr
theorem RdT.le {g : G} {m m' : List Addr} {H H' : Hp} (l : Le m H m' H') {a : Addr} {xs : List V} (h : RdT g m H a xs) : RdT g m' H' a xs := h.lr l.lr
theorem RdL.le {g : G} {m m' : List Addr} {H H' : Hp} (l : Le m H m' H') {a : Addr} {xs : List V} (h : RdL g m H a xs) : RdL g m' H' a xs := h.lr l.lr
mutual
theorem Rep.lr {g : G} {m m' : List Addr} {H H' : Hp} (l : Lr m H m' H') : ∀ {v : V} {d : D}, Rep g m H v d → Rep g m' H' v d
  | _, _, .non => .non
  | _, _, .bl b => .bl b
  | _, _, .int i => .int i
  | _, _, .str x => .str x
  | _, _, .ty n => .ty n
  | _, _, .tup h r => .tup (h.lr l) (Reps.lr l r)
  | _, _, .rol h r => .rol (h.lr l) (Reps.lr l r)
  | _, _, .ref h => .ref (l.get h)
  | _, _, .glo h => .glo h
theorem Reps.lr {g : G} {m m' : List Addr} {H H' : Hp} (l : Lr m H m' H') : ∀ {v : List V} {d : List D}, Reps g m H v d → Reps g m' H' v d
  | _, _, .nil => .nil
  | _, _, .cons r t => .cons (Rep.lr l r) (Reps.lr l t)
end
theorem Rep.le {g : G} {m m' : List Addr} {H H' : Hp} (l : Le m H m' H') {v : V} {d : D} (r : Rep g m H v d) : Rep g m' H' v d := r.lr l.lr
theorem Reps.le {g : G} {m m' : List Addr} {H H' : Hp} (l : Le m H m' H') {v : List V} {d : List D} (r : Reps g m H v d) : Reps g m' H' v d := r.lr l.lr
theorem Reps.length {g : G} {m : List Addr} {H : Hp} : ∀ {xs : List V} {ds : List D}, Reps g m H xs ds → xs.length = ds.length
  | _, _, .nil => rfl
  | _, _, .cons _ t => by rw [List.length_cons, List.length_cons, t.length]
theorem Reps.get {g : G} {m : List Addr} {H : Hp} : ∀ {xs : List V} {ds : List D} {i : Nat} {d : D}, Reps g m H xs ds → ds[i]? = some d → ∃ x, xs[i]? = some x ∧ Rep g m H x d
  | _, _, _, _, .nil, e => by simp at e
  | _, _, 0, _, .cons r _, e => by simp at e; subst e; exact ⟨_, rfl, r⟩
  | _, _, i + 1, _, .cons _ t, e => by
    obtain ⟨u, h1, h2⟩ := Reps.get (i := i) t (by simpa using e)
    exact ⟨u, by simpa using h1, h2⟩
theorem Reps.get' {g : G} {m : List Addr} {H : Hp} : ∀ {xs : List V} {ds : List D} {i : Nat} {x : V}, Reps g m H xs ds → xs[i]? = some x → ∃ d, ds[i]? = some d ∧ Rep g m H x d
  | _, _, _, _, .nil, e => by simp at e
  | _, _, 0, _, .cons r _, e => by simp at e; subst e; exact ⟨_, rfl, r⟩
  | _, _, i + 1, _, .cons _ t, e => by
    obtain ⟨u, h1, h2⟩ := Reps.get' (i := i) t (by simpa using e)
    exact ⟨u, by simpa using h1, h2⟩
theorem Reps.append {g : G} {m : List Addr} {H : Hp} : ∀ {xs ys : List V} {ds es : List D}, Reps g m H xs ds → Reps g m H ys es → Reps g m H (xs ++ ys) (ds ++ es)
  | _, _, _, _, .nil, s => s
  | _, _, _, _, .cons r t, s => .cons r (t.append s)
theorem Reps.take {g : G} {m : List Addr} {H : Hp} : ∀ {xs : List V} {ds : List D} (n : Nat), Reps g m H xs ds → Reps g m H (xs.take n) (ds.take n)
  | _, _, 0, _ => .nil
  | _, _, _ + 1, .nil => .nil
  | _, _, n + 1, .cons r t => .cons r (t.take n)
theorem Reps.drop {g : G} {m : List Addr} {H : Hp} : ∀ {xs : List V} {ds : List D} (n : Nat), Reps g m H xs ds → Reps g m H (xs.drop n) (ds.drop n)
  | _, _, 0, r => r
  | _, _, _ + 1, .nil => .nil
  | _, _, n + 1, .cons _ t => t.drop n
theorem Reps.set {g : G} {m : List Addr} {H : Hp} {x : V} {d : D} (r : Rep g m H x d) : ∀ {xs : List V} {ds : List D} (i : Nat), Reps g m H xs ds → Reps g m H (xs.set i x) (ds.set i d)
  | _, _, _, .nil => .nil
  | _, _, 0, .cons _ t => .cons r t
  | _, _, i + 1, .cons q t => .cons q (t.set r i)
theorem Reps.reverse {g : G} {m : List Addr} {H : Hp} : ∀ {xs : List V} {ds : List D}, Reps g m H xs ds → Reps g m H xs.reverse ds.reverse
  | _, _, .nil => .nil
  | _, _, .cons r t => by
    rw [List.reverse_cons, List.reverse_cons]
    exact t.reverse.append (.cons r .nil)

/-! ### the store -/
/-- a key of a dict -/
def keyD : D → Option Key
  | .int i => some (.inl i)
  | .str x => some (.inr x)
  | _ => none
def keysD : List D → Option (List Key)
  | [] => some []
  | d :: ds => match keyD d, keysD ds with
    | some k, some ks => some (k :: ks)
    | _, _ => none
def tkeyD : D → Option (List Key)
  | .tup ds => keysD ds
  | _ => none
/-- the entries of a dict as they lie -/
def EntK {κ : Type} (g : G) (m : List Addr) (H : Hp) : List (κ × V) → List (κ × D) → Prop := Paired fun p q => q.1 = p.1 ∧ Rep g m H p.2 q.2
def EntF (g : G) (m : List Addr) (H : Hp) : List (Str × V) → List (Str × D) → Prop := Paired fun p q => q.1 = p.1 ∧ Rep g m H p.2 q.2
def OR (g : G) (m : List Addr) (H : Hp) (a : Addr) : O → Prop
  | .lst ds => ∃ xs, H a = some (.lst xs) ∧ Reps g m H xs ds
  | .dct kvs => ∃ es, H a = some (.dK es) ∧ EntK g m H es kvs
  | .dtt kvs => ∃ es, H a = some (.dT es) ∧ EntK g m H es kvs
  | .ins C fs => ∃ c dx es, g.mg C = some (.ref c) ∧ H a = some (.ins c dx es) ∧ H dx = some (.own a) ∧ EntF g m H es fs
structure Hold (g : G) (m : List Addr) (s : S) (H : Hp) : Prop where
  len : m.length = s.length
  nd : m.Nodup
  obj : ∀ (p : Nat) (a : Addr) (o : O), m[p]? = some a → s[p]? = some o → OR g m H a o
theorem Paired.mp {α β : Type} {F F' : α → β → Prop} : ∀ {l₁ : List α} {l₂ : List β}, Paired F l₁ l₂ → (∀ a b, F a b → F' a b) → Paired F' l₁ l₂
  | _, _, .nil, _ => .nil
  | _, _, .cons r t, f => .cons (f _ _ r) (Paired.mp t f)
theorem EntK.lr {κ : Type} {g : G} {m m' : List Addr} {H H' : Hp} (l : Lr m H m' H') {es : List (κ × V)} {kvs : List (κ × D)} (h : EntK g m H es kvs) : EntK g m' H' es kvs := Paired.mp h fun _ _ z => ⟨z.1, z.2.lr l⟩
theorem EntF.lr {g : G} {m m' : List Addr} {H H' : Hp} (l : Lr m H m' H') {es : List (Str × V)} {kvs : List (Str × D)} (h : EntF g m H es kvs) : EntF g m' H' es kvs := Paired.mp h fun _ _ z => ⟨z.1, z.2.lr l⟩
theorem EntK.le {κ : Type} {g : G} {m m' : List Addr} {H H' : Hp} (l : Le m H m' H') {es : List (κ × V)} {kvs : List (κ × D)} (h : EntK g m H es kvs) : EntK g m' H' es kvs := Paired.mp h fun _ _ z => ⟨z.1, z.2.le l⟩
theorem EntF.le {g : G} {m m' : List Addr} {H H' : Hp} (l : Le m H m' H') {es : List (Str × V)} {kvs : List (Str × D)} (h : EntF g m H es kvs) : EntF g m' H' es kvs := Paired.mp h fun _ _ z => ⟨z.1, z.2.le l⟩
theorem OR.th {g : G} {m : List Addr} {H : Hp} {a : Addr} {o : O} (h : OR g m H a o) : ∃ u, H a = some u ∧ (∀ xs, u ≠ .tup xs) ∧ (∀ ob v, u ≠ .frz ob v) ∧ ∀ x, u ≠ HO.own x := by
  cases o with
  | lst ds => obtain ⟨xs, e, _⟩ := h; exact ⟨_, e, (by intro _ q; cases q), (by intro _ _ q; cases q), by intro _ q; cases q⟩
  | dct kvs => obtain ⟨es, e, _⟩ := h; exact ⟨_, e, (by intro _ q; cases q), (by intro _ _ q; cases q), by intro _ q; cases q⟩
  | dtt kvs => obtain ⟨es, e, _⟩ := h; exact ⟨_, e, (by intro _ q; cases q), (by intro _ _ q; cases q), by intro _ q; cases q⟩
  | ins C fs => obtain ⟨c, dx, es, _, e, _⟩ := h; exact ⟨_, e, (by intro _ q; cases q), (by intro _ _ q; cases q), by intro _ q; cases q⟩
section
variable {g : G} {m m' : List Addr} {s s' : S} {H H' : Hp} {a : Addr} {p : Nat} {o : O}
theorem Hold.at (h : Hold g m s H) (e : s[p]? = some o) : ∃ a, m[p]? = some a ∧ a ∈ m ∧ OR g m H a o := by
  have hp : p < s.length := (List.getElem?_eq_some_iff.mp e).1
  have hp' : p < m.length := by rw [h.len]; exact hp
  have e1 : m[p]? = some m[p] := List.getElem?_eq_getElem hp'
  exact ⟨m[p], e1, List.getElem_mem hp', h.obj p _ o e1 e⟩
theorem Hold.mem (h : Hold g m s H) (e : a ∈ m) : ∃ (p : Nat) (o : O), m[p]? = some a ∧ s[p]? = some o ∧ OR g m H a o := by
  obtain ⟨p, hp, e⟩ := List.getElem_of_mem e
  have hp' : p < s.length := by rw [← h.len]; exact hp
  have e1 : m[p]? = some a := by rw [List.getElem?_eq_getElem hp, e]
  exact ⟨p, s[p], e1, List.getElem?_eq_getElem hp', h.obj p _ _ e1 (List.getElem?_eq_getElem hp')⟩
theorem Hold.free (h : Hold g m s H) (e : H a = none) : a ∉ m := fun z => by
  obtain ⟨p, o, _, _, r⟩ := h.mem z
  obtain ⟨u, e', _⟩ := r.th
  rw [e] at e'; cases e'
theorem Hold.inj (h : Hold g m s H) {p q : Nat} {a : Addr} (h1 : m[p]? = some a) (h2 : m[q]? = some a) : p = q := by
  exact (List.getElem?_inj (List.getElem?_eq_some_iff.mp h1).1 h.nd).mp (h1.trans h2.symm)
/-- a new untracked object (a tuple) -/
theorem Le.aside (h : Hold g m s H) {u : HO} (e : H a = none) : Le m H m (upd H a u) :=
  ⟨List.prefix_refl m, fun b o _ q => by rw [upd_ne (ne_of_none q e)]; exact q, fun _ h h' => absurd h h'⟩
theorem OR.lr_of (l : Lr m H m' H') (ha : H' a = H a) (hx : ∀ d, H d = some (HO.own a) → H' d = some (HO.own a)) (h : OR g m H a o) : OR g m' H' a o := by
  cases o with
  | lst ds => obtain ⟨xs, e, r⟩ := h; exact ⟨xs, ha.trans e, r.lr l⟩
  | dct kvs => obtain ⟨es, e, r⟩ := h; exact ⟨es, ha.trans e, r.lr l⟩
  | dtt kvs => obtain ⟨es, e, r⟩ := h; exact ⟨es, ha.trans e, r.lr l⟩
  | ins C fs => obtain ⟨c, dx, es, e0, e, ex, r⟩ := h; exact ⟨c, dx, es, e0, ha.trans e, hx dx ex, r.lr l⟩
theorem OR.le_of (l : Le m H m' H') (ha : H' a = H a) (hx : ∀ d, H d = some (HO.own a) → H' d = some (HO.own a)) (h : OR g m H a o) : OR g m' H' a o := h.lr_of l.lr ha hx
theorem Hold.nown (h : Hold g m s H) {x : Addr} (e : H a = some (HO.own x)) : a ∉ m := fun z => by
  obtain ⟨p, o, _, _, r⟩ := h.mem z
  obtain ⟨u, e', _, _, n⟩ := r.th
  rw [e] at e'; cases e'; exact n _ rfl
theorem Hold.aside (h : Hold g m s H) {u : HO} (e : H a = none) : Hold g m s (upd H a u) := by
  refine ⟨h.len, h.nd, fun p b o h1 h2 => ?_⟩
  have r := h.obj p b o h1 h2
  obtain ⟨v, e', _⟩ := r.th
  exact r.le_of (Le.aside h e) (upd_ne (ne_of_none e' e)) fun d (q : _ = some (HO.own b)) => by rw [upd_ne (ne_of_none q e)]; exact q
/-- a new object of the store -/
theorem Le.new (h : Hold g m s H) {u : HO} (e : H a = none) : Le m H (m ++ [a]) (upd H a u) :=
  ⟨List.prefix_append m [a], fun b o _ q => by rw [upd_ne (ne_of_none q e)]; exact q, fun b hb hn => by
    rcases List.mem_append.mp hb with z | z
    · exact absurd z hn
    · rw [List.mem_singleton.mp z]; exact e⟩
theorem Hold.new (h : Hold g m s H) {u : HO} (e : H a = none) (ho : OR g (m ++ [a]) (upd H a u) a o) : Hold g (m ++ [a]) (s ++ [o]) (upd H a u) := by
  refine ⟨by rw [List.length_append, List.length_append, h.len]; rfl, ?_, fun p b o' h1 h2 => ?_⟩
  · rw [List.nodup_append]
    exact ⟨h.nd, by simp, fun b hb c hc => by rw [List.mem_singleton.mp hc]; intro z; exact h.free e (z ▸ hb)⟩
  · by_cases hp : p < m.length
    · rw [List.getElem?_append_left hp] at h1
      rw [List.getElem?_append_left (by rw [← h.len]; exact hp)] at h2
      have r := h.obj p b o' h1 h2
      obtain ⟨v, e', _⟩ := r.th
      exact r.le_of (Le.new h e) (upd_ne (ne_of_none e' e)) fun d (q : _ = some (HO.own b)) => by rw [upd_ne (ne_of_none q e)]; exact q
    · have hp2 : p = m.length := by
        have := (List.getElem?_eq_some_iff.mp h1).1
        rw [List.length_append, List.length_singleton] at this
        omega
      subst hp2
      rw [List.getElem?_append_right (Nat.le_refl _), Nat.sub_self] at h1
      rw [h.len, List.getElem?_append_right (Nat.le_refl _), Nat.sub_self] at h2
      cases h1; cases h2
      exact ho
/-- an object that stood aside joins the store -/
theorem Lr.join {p : Addr} {u x : HO} (hp : p ∉ m) (e : H p = some x) (h1 : ∀ xs, x ≠ .tup xs) (h2 : ∀ ob v, x ≠ .frz ob v) : Lr m H (m ++ [p]) (upd H p u) := by
  refine ⟨List.prefix_append m [p], fun a xs h q => ?_, fun a ob w h q => ?_⟩
  · have n : a ≠ p := fun z => by subst z; rw [e] at q; exact h1 xs (Option.some.inj q)
    exact ⟨by rw [upd_ne n]; exact q, fun z => (List.mem_append.mp z).elim h fun z => n (List.mem_singleton.mp z)⟩
  · have n : a ≠ p := fun z => by subst z; rw [e] at q; exact h2 ob w (Option.some.inj q)
    exact ⟨by rw [upd_ne n]; exact q, fun z => (List.mem_append.mp z).elim h fun z => n (List.mem_singleton.mp z)⟩
theorem Hold.join {p : Addr} {u x : HO} (h : Hold g m s H) (hp : p ∉ m) (e : H p = some x) (h1 : ∀ xs, x ≠ .tup xs) (h2 : ∀ ob v, x ≠ .frz ob v) (h3 : ∀ y, x ≠ .own y) (ho : OR g (m ++ [p]) (upd H p u) p o) : Hold g (m ++ [p]) (s ++ [o]) (upd H p u) := by
  refine ⟨by rw [List.length_append, List.length_append, h.len]; rfl, ?_, fun q b o' e1 e2 => ?_⟩
  · rw [List.nodup_append]
    exact ⟨h.nd, by simp, fun b hb c hc => by rw [List.mem_singleton.mp hc]; intro z; exact hp (z ▸ hb)⟩
  · by_cases hq : q < m.length
    · rw [List.getElem?_append_left hq] at e1
      rw [List.getElem?_append_left (by rw [← h.len]; exact hq)] at e2
      have r := h.obj q b o' e1 e2
      have nb : b ≠ p := fun z => hp (z ▸ List.mem_of_getElem? e1)
      exact r.lr_of (Lr.join hp e h1 h2) (upd_ne nb) fun d (q' : _ = some (HO.own b)) => by rw [upd_ne (fun z => by rw [z, e] at q'; exact h3 b (Option.some.inj q'))]; exact q'
    · have hq2 : q = m.length := by
        have := (List.getElem?_eq_some_iff.mp e1).1
        rw [List.length_append, List.length_singleton] at this
        omega
      subst hq2
      rw [List.getElem?_append_right (Nat.le_refl _), Nat.sub_self] at e1
      rw [h.len, List.getElem?_append_right (Nat.le_refl _), Nat.sub_self] at e2
      cases e1; cases e2
      exact ho
/-- .. seen from before it was made -/
theorem Le.join {m0 : List Addr} {H0 : Hp} {p : Addr} {u x : HO} (hp : H0 p = none) (l : Le m0 (upd H0 p x) m H) (hm : p ∉ m) : Le m0 H0 (m ++ [p]) (upd H p u) := by
  refine ⟨l.pre.trans (List.prefix_append m [p]), fun a o ha e => ?_, fun a ha hn => ?_⟩
  · have n := ne_of_none e hp
    rw [upd_ne n]
    exact l.rest a o ha (by rw [upd_ne n]; exact e)
  · rcases List.mem_append.mp ha with z | z
    · have q := l.fresh a z hn
      have n : a ≠ p := fun e => hm (e ▸ z)
      rw [upd_ne n] at q
      exact q
    · rw [List.mem_singleton.mp z]; exact hp
/-- the object p is another -/
theorem Le.write (h : Hold g m s H) (e : m[p]? = some a) {u : HO} : Le m H m (upd H a u) :=
  ⟨List.prefix_refl m, fun b o n q => by rw [upd_ne (fun z => n (by rw [z]; exact List.mem_of_getElem? e))]; exact q, fun _ h h' => absurd h h'⟩
theorem Hold.write (h : Hold g m s H) (e : m[p]? = some a) {u : HO} (ho : OR g m (upd H a u) a o) : Hold g m (s.set p o) (upd H a u) := by
  have ha : a ∈ m := List.mem_of_getElem? e
  refine ⟨by rw [List.length_set]; exact h.len, h.nd, fun q b o' h1 h2 => ?_⟩
  by_cases hq : p = q
  · subst hq
    rw [e] at h1; cases h1
    rw [List.getElem?_set_self (by rw [← h.len]; exact (List.getElem?_eq_some_iff.mp e).1)] at h2
    cases h2; exact ho
  · rw [List.getElem?_set_ne hq] at h2
    have r := h.obj q b o' h1 h2
    have nb : b ≠ a := fun z => by subst z; exact hq (h.inj e h1)
    exact r.le_of (Le.write h e) (upd_ne nb) fun d (q : _ = some (HO.own b)) => by rw [upd_ne (fun z => h.nown (z ▸ q) ha)]; exact q
end
end Mi

set_option Elab.async false
set_option linter.all false
set_option maxRecDepth 100000
namespace Mi
open PySem PySem.Spec PyProof.Rows L2

/-! ### results -/
abbrev XF := Option (List (Str × D))
inductive R (α : Type) where
  | no | ok (a : α) (s : S) | ex (c : Str) (fs : XF) (s : S)
def R.bind {α β : Type} : R α → (α → S → R β) → R β
  | .no, _ => .no
  | .ok a s, f => f a s
  | .ex c fs s, _ => .ex c fs s
def R.of {α : Type} : Option (α × S) → R α
  | none => .no
  | some (a, s) => .ok a s
def R.post {α : Type} (r : R α) (P : α → S → Prop) (E : Str → XF → S → Prop) : Prop :=
  match r with
  | .no => False
  | .ok a s => P a s
  | .ex c fs s => E c fs s
abbrev EX := Env → S → R D
abbrev EB := Env → S → R Bool
abbrev EA := Env → S → R (List D)

structure Ag (g : G) (m : List Addr) (σ : L2.St) (H : Hp) (env : Env) (s : S) : Prop where
  hold : Hold g m s H
  len : env.length = σ.length
  val : ∀ (i : Nat) (d : D), env[i]? = some (some d) → ∃ v, σ[i]? = some (some v) ∧ Rep g m H v d
theorem Ag.go {g : G} {m m' : List Addr} {σ : L2.St} {H H' : Hp} {env : Env} {s s' : S} (a : Ag g m σ H env s) (l : Le m H m' H') (h : Hold g m' s' H') : Ag g m' σ H' env s' :=
  ⟨h, a.len, fun i d e => let ⟨v, e1, r⟩ := a.val i d e; ⟨v, e1, r.le l⟩⟩
theorem Ag.set {g : G} {m : List Addr} {σ : L2.St} {H : Hp} {env : Env} {s : S} {v : V} {d : D} (a : Ag g m σ H env s) (r : Rep g m H v d) (i : Nat) : Ag g m (σ.set i (some v)) H (env.set i (some d)) s := by
  refine ⟨a.hold, by rw [List.length_set, List.length_set]; exact a.len, fun j e h => ?_⟩
  by_cases hj : i = j
  · subst hj
    by_cases hl : i < env.length
    · rw [List.getElem?_set_self hl] at h
      cases h
      exact ⟨v, List.getElem?_set_self (by rw [← a.len]; exact hl), r⟩
    · rw [List.getElem?_eq_none (by rw [List.length_set]; omega)] at h
      cases h
  · rw [List.getElem?_set_ne hj] at h
    obtain ⟨w, e1, q⟩ := a.val j e h
    exact ⟨w, by rw [List.getElem?_set_ne hj]; exact e1, q⟩

/-- the fields of an exception that flies -/
def XFok (g : G) (m : List Addr) (H : Hp) (da : Option Addr) : XF → Prop
  | none => da = none
  | some fs => ∃ a es, da = some a ∧ H a = some (.xd es) ∧ EntF g m H es fs
def WX (g : G) (m : List Addr) (H : Hp) (W : XK) : Str → XF → S → Prop := fun c fs s =>
  ∀ (C : Addr) (da : Option Addr) (m' : List Addr) (H' : Hp), Le m H m' H' → Hold g m' s H' → g.mg c = some (.ref C) → XFok g m' H' da fs → W (.ref C) da H'
def PD (g : G) (m : List Addr) (H : Hp) (Q : VK) : D → S → Prop := fun d s =>
  ∀ (v : V) (m' : List Addr) (H' : Hp), Le m H m' H' → Hold g m' s H' → Rep g m' H' v d → Q v H'
def PB (g : G) (m : List Addr) (H : Hp) (Q : Bool → Hp → Prop) : Bool → S → Prop := fun b s =>
  ∀ (m' : List Addr) (H' : Hp), Le m H m' H' → Hold g m' s H' → Q b H'
def PL (g : G) (m : List Addr) (H : Hp) (Q : List V → Hp → Prop) : List D → S → Prop := fun ds s =>
  ∀ (vs : List V) (m' : List Addr) (H' : Hp), Le m H m' H' → Hold g m' s H' → Reps g m' H' vs ds → Q vs H'
section
variable {g : G} {m m' : List Addr} {H H' : Hp} {W : XK}
theorem WX.le (l : Le m H m' H') {c : Str} {fs : XF} {s : S} (h : WX g m H W c fs s) : WX g m' H' W c fs s := fun C da m2 H2 l2 => h C da m2 H2 (l.trans l2)
theorem PD.le (l : Le m H m' H') {Q : VK} {d : D} {s : S} (h : PD g m H Q d s) : PD g m' H' Q d s := fun v m2 H2 l2 => h v m2 H2 (l.trans l2)
theorem PB.le (l : Le m H m' H') {Q : Bool → Hp → Prop} {d : Bool} {s : S} (h : PB g m H Q d s) : PB g m' H' Q d s := fun m2 H2 l2 => h m2 H2 (l.trans l2)
theorem PL.le (l : Le m H m' H') {Q : List V → Hp → Prop} {d : List D} {s : S} (h : PL g m H Q d s) : PL g m' H' Q d s := fun v m2 H2 l2 => h v m2 H2 (l.trans l2)
end
theorem R.post_mono {α : Type} {r : R α} {P P' : α → S → Prop} {E E' : Str → XF → S → Prop} (h : r.post P E) (hp : ∀ a s, P a s → P' a s) (he : ∀ c fs s, E c fs s → E' c fs s) : r.post P' E' := by
  cases r with
  | no => exact h
  | ok a s => exact hp _ _ h
  | ex c fs s => exact he _ _ _ h
theorem R.post_bind {α β : Type} {r : R α} {f : α → S → R β} {P : β → S → Prop} {E : Str → XF → S → Prop} (h : (r.bind f).post P E) : r.post (fun a s => (f a s).post P E) E := by
  cases r with
  | no => exact h
  | ok a s => exact h
  | ex c fs s => exact h
theorem R.post_of {α : Type} {o : Option (α × S)} {P : α → S → Prop} {E : Str → XF → S → Prop} (h : (R.of o).post P E) : ∃ a s, o = some (a, s) ∧ P a s := by
  cases o with
  | none => exact h.elim
  | some p => exact ⟨p.1, p.2, rfl, h⟩

/-! ### readings -/
def sem (g : G) (W : XK) (f : EX) : TE := fun σ H Q => ∃ m env s, Ag g m σ H env s ∧ (f env s).post (PD g m H Q) (WX g m H W)
def semB (g : G) (W : XK) (f : EB) : TT := fun σ H Q => ∃ m env s, Ag g m σ H env s ∧ (f env s).post (PB g m H Q) (WX g m H W)
def semA (g : G) (W : XK) (f : EA) : TA := fun σ H Q => ∃ m env s, Ag g m σ H env s ∧ (f env s).post (PL g m H Q) (WX g m H W)
section
variable {X : Cx} {g : G} {W : XK} {f f' : EX}
theorem PE.of {e : Expr} {t t' : TE} (h : PE X e t) (k : ∀ σ H Q, t' σ H Q → t σ H Q) : PE X e t' := ⟨fun pins s σ H Q I q => h.run pins s σ H Q I (k _ _ _ q)⟩
theorem PT.of {e : Expr} {t t' : TT} (h : PT X e t) (k : ∀ σ H Q, t' σ H Q → t σ H Q) : PT X e t' := ⟨fun pins s σ H Q I q => h.run pins s σ H Q I (k _ _ _ q)⟩
theorem PA.of {e : List Expr} {t t' : TA} (h : PA X e t) (k : ∀ σ H Q, t' σ H Q → t σ H Q) : PA X e t' := ⟨fun p pins s σ H Q I q => h.run p pins s σ H Q I (k _ _ _ q)⟩
/-- from the reading of a part: what it leaves -/
theorem sem_k {σ : L2.St} {H : Hp} {m : List Addr} {env : Env} {s : S} {P : D → S → Prop} {K : VK} (a : Ag g m σ H env s) (h : (f env s).post P (WX g m H W))
    (k : ∀ d s1 v m1 H1, P d s1 → Le m H m1 H1 → Ag g m1 σ H1 env s1 → Rep g m1 H1 v d → K v H1) : sem g W f σ H K :=
  ⟨m, env, s, a, R.post_mono h (fun d s1 p v m1 H1 l hold r => k d s1 v m1 H1 p l (a.go l hold) r) fun _ _ _ e => e⟩
theorem semB_k {fb : EB} {σ : L2.St} {H : Hp} {m : List Addr} {env : Env} {s : S} {P : Bool → S → Prop} {K : Bool → Hp → Prop} (a : Ag g m σ H env s) (h : (fb env s).post P (WX g m H W))
    (k : ∀ d s1 m1 H1, P d s1 → Le m H m1 H1 → Ag g m1 σ H1 env s1 → K d H1) : semB g W fb σ H K :=
  ⟨m, env, s, a, R.post_mono h (fun d s1 p m1 H1 l hold => k d s1 m1 H1 p l (a.go l hold)) fun _ _ _ e => e⟩
theorem semA_k {fa : EA} {σ : L2.St} {H : Hp} {m : List Addr} {env : Env} {s : S} {P : List D → S → Prop} {K : List V → Hp → Prop} (a : Ag g m σ H env s) (h : (fa env s).post P (WX g m H W))
    (k : ∀ d s1 v m1 H1, P d s1 → Le m H m1 H1 → Ag g m1 σ H1 env s1 → Reps g m1 H1 v d → K v H1) : semA g W fa σ H K :=
  ⟨m, env, s, a, R.post_mono h (fun d s1 p v m1 H1 l hold r => k d s1 v m1 H1 p l (a.go l hold) r) fun _ _ _ e => e⟩
end

/-! ### names, constants -/
def vr (i : Nat) : EX := fun env s => match env[i]? with
  | some (some d) => .ok d s
  | _ => .no
def cn (d : D) : EX := fun _ s => .ok d s
section
variable {X : Cx} {g : G} {W : XK} {f f' : EX}
theorem s_var {i : Nat} {e : Expr} (h : PE X e (tVar i)) : PE X e (sem g W (vr i)) := by
  refine PE.of h fun σ H Q ⟨m, env, s, a, q⟩ => ?_
  unfold vr at q
  split at q
  · rename_i d hd
    obtain ⟨v, e1, r⟩ := a.val i d hd
    exact ⟨v, e1, q v m H (Le.refl m H) a.hold r⟩
  · exact q.elim
theorem s_con {e : Expr} {v : V} {d : D} (h : PE X e (tC v)) (r : ∀ m H, Rep g m H v d) : PE X e (sem g W (cn d)) :=
  PE.of h fun σ H Q ⟨m, env, s, a, q⟩ => q v m H (Le.refl m H) a.hold (r m H)
theorem s_int {i : Int} {j pos} : PE X (.Constant (.int i) j pos) (sem g W (cn (.int i))) := s_con pe_int fun _ _ => .int i
theorem s_bl {b : Bool} {j pos} : PE X (.Constant (.bool b) j pos) (sem g W (cn (.bl b))) := s_con pe_bl fun _ _ => .bl b
theorem s_non {j pos} : PE X (.Constant .none j pos) (sem g W (cn .non)) := s_con pe_non fun _ _ => .non
theorem s_str {x : Str} {j pos} : PE X (.Constant (.str x) j pos) (sem g W (cn (.str x))) := s_con pe_str fun _ _ => .str x
end

/-! ### two-place operations -/
abbrev OP2 := D → D → S → Option (D × S)
def O2 (g : G) (r : R2) (o : OP2) : Prop := ∀ (m : List Addr) (H : Hp) (s : S) (v w : V) (d e x : D) (s' : S) (Q : VK), Hold g m s H → Rep g m H v d → Rep g m H w e → o d e s = some (x, s') → PD g m H Q x s' → r v w H Q
def e2 (o : OP2) (f f' : EX) : EX := fun env s => (f env s).bind fun d s1 => (f' env s1).bind fun e s2 => R.of (o d e s2)
section
variable {X : Cx} {g : G} {W : XK} {f f' f'' : EX} {a b c : Expr} {pos : Pos} {r r' : R2} {o o' : OP2}
theorem sem_2 (ho : O2 g r o) {σ : L2.St} {H : Hp} {Q : VK} (h : sem g W (e2 o f f') σ H Q) : tOp r (sem g W f) (sem g W f') σ H Q := by
  obtain ⟨m, env, s, ag, q⟩ := h
  refine sem_k ag (R.post_bind q) fun d s1 v m1 H1 q1 l1 a1 r1 => ?_
  refine sem_k a1 (R.post_mono (R.post_bind q1) (fun _ _ z => z) fun _ _ _ z => z.le l1) fun e s2 w m2 H2 q2 l2 a2 r2 => ?_
  obtain ⟨x, s', e1, q3⟩ := R.post_of q2
  exact ho m2 H2 s2 v w d e x s' Q a2.hold (r1.le l2) r2 e1 (q3.le (l1.trans l2))
theorem s_op {op : Operator} (hr : OpR X (binaryOp op) r) (ho : O2 g r o) (ha : PE X a (sem g W f)) (hb : PE X b (sem g W f')) : PE X (.BinOp a op b pos) (sem g W (e2 o f f')) :=
  PE.of (pe_op hr ha hb) fun _ _ _ h => sem_2 ho h
theorem s_cmp {op : CmpOp} (hr : OpR X (compareOp op) r) (ho : O2 g r o) (ha : PE X a (sem g W f)) (hb : PE X b (sem g W f')) (hm : behindInMarks op b = false) : PE X (.Compare a [op] [b] pos) (sem g W (e2 o f f')) :=
  PE.of (pe_cmpR hr ha hb hm) fun _ _ _ h => sem_2 ho h
theorem s_ix (hr : IxR X r) (ho : O2 g r o) (ha : PE X a (sem g W f)) (hb : PE X b (sem g W f')) (hs : PlainIx b) : PE X (.Subscript a b pos) (sem g W (e2 o f f')) :=
  PE.of (pe_ix hr ha hb hs) fun _ _ _ h => sem_2 ho h
theorem O2.or (h : O2 g r o) (h' : O2 g r' o') : O2 g (fun x y H Q => r x y H Q ∨ r' x y H Q) (fun d e s => match o d e s with | some x => some x | none => o' d e s) := by
  intro m H s v w d e x s' Q hold rv rw he q
  have he : (match o d e s with | some x => some x | none => o' d e s) = some (x, s') := he
  cases h1 : o d e s with
  | some z =>
    rw [h1] at he
    exact .inl (h m H s v w d e x s' Q hold rv rw (h1.trans he) q)
  | none =>
    rw [h1] at he
    exact .inr (h' m H s v w d e x s' Q hold rv rw he q)
end

/-! ### tests -/
/-- a bool's test; a value's test by its truth -/
def asB : D → S → R Bool
  | .bl b, s => .ok b s
  | _, _ => .no
def tB1 (f : EX) : EB := fun env s => (f env s).bind asB
def truD (d : D) (s : S) : Option Bool := match d with
  | .non => some false
  | .bl b => some b
  | .int i => some (i != 0)
  | .str x => if x.length ≤ sizeLine then some ((x.length : Int) != 0) else none
  | .tup ds => some (!ds.isEmpty)
  | .rol ds => some (!ds.isEmpty)
  | .ref p => match s[p]? with
    | some (.lst ds) => some (!ds.isEmpty)
    | some (.dct kvs) => some (!kvs.isEmpty)
    | _ => none
  | _ => none
def tTl (f : EX) : EB := fun env s => (f env s).bind fun d s1 => match truD d s1 with
  | some b => .ok b s1
  | none => .no
theorem Reps.isEmpty {g : G} {m : List Addr} {H : Hp} {xs : List V} {ds : List D} (r : Reps g m H xs ds) : xs.isEmpty = ds.isEmpty := by cases r <;> rfl
theorem ent_len {α β : Type} {F : α → β → Prop} {l₁ : List α} {l₂ : List β} (h : Paired F l₁ l₂) : l₁.isEmpty = l₂.isEmpty := by cases h <;> rfl
section
variable {X : Cx} {W : XK} {f f' : EX} {fb fb' : EB} {e a b : Expr} {rest : List Expr} {pos : Pos}
theorem truL_sem {g : G} {m : List Addr} {H : Hp} {s : S} {v : V} {d : D} {k : Bool} (hold : Hold g m s H) (r : Rep g m H v d) (h : truD d s = some k) : TruV g.K v H k := by
  cases r with
  | non => cases h; rfl
  | bl b => cases h; rfl
  | int i => cases h; rfl
  | str x =>
    have h : (if x.length ≤ sizeLine then some ((x.length : Int) != 0) else none) = some k := h
    by_cases z : x.length ≤ sizeLine
    · rw [if_pos z] at h; cases h; exact ⟨z, rfl⟩
    · rw [if_neg z] at h; cases h
  | ty n => cases h
  | tup z q => cases h; exact .inr (.inl ⟨_, z.sq, by rw [q.isEmpty]⟩)
  | rol z q => cases h; exact .inl ⟨_, z.sq, by rw [q.isEmpty]⟩
  | glo z => cases h
  | ref z =>
    rename_i a p
    have h : (match s[p]? with
      | some (.lst ds) => some (!ds.isEmpty)
      | some (.dct kvs) => some (!kvs.isEmpty)
      | _ => none) = some k := h
    split at h
    · rename_i ds hs
      cases h
      obtain ⟨xs, e1, q⟩ := hold.obj _ _ _ z hs
      exact .inl ⟨xs, .of e1, by rw [q.isEmpty]⟩
    · rename_i kvs hs
      cases h
      obtain ⟨es, e1, q⟩ := hold.obj _ _ _ z hs
      exact .inr (.inr ⟨es, e1, by rw [ent_len q]⟩)
    · cases h
theorem t_truth (h : PE X e (sem ⟨X.K, X.mg⟩ W f)) (he : ∀ whole, isTrue e X.env whole = (do let v ← whole; standAt e.pos; holding [v] (truthy v)) := by intro _; rfl) : PT X e (semB ⟨X.K, X.mg⟩ W (tTl f)) := by
  refine PT.of (pt_truth h he) fun σ H Q ⟨m, env, s, ag, q⟩ => ?_
  refine sem_k ag (R.post_bind q) fun d s1 v m1 H1 q1 l1 a1 r1 => ?_
  split at q1
  · rename_i k hk
    exact ⟨k, truL_sem a1.hold r1 hk, q1 m1 H1 l1 a1.hold⟩
  · exact q1.elim
/-- a comparison as a test -/
theorem t_cmp {op : CmpOp} {r : R2} {o : OP2} {g : G} (hr : OpR X (compareOp op) r) (ho : O2 g r o) (ha : PE X a (sem g W f)) (hb : PE X b (sem g W f')) (hm : behindInMarks op b = false) : PT X (.Compare a [op] [b] pos) (semB g W (tB1 (e2 o f f'))) := by
  refine PT.of (pt_cmpR hr ha hb hm) fun σ H Q ⟨m, env, s, ag, q⟩ => ?_
  refine sem_2 ho (sem_k ag (R.post_bind q) fun d s1 v m1 H1 q1 l1 a1 r1 => ?_)
  cases d <;> first | exact q1.elim | skip
  cases r1
  exact ⟨_, rfl, q1 m1 H1 l1 a1.hold⟩
def tAn (fb fb' : EB) : EB := fun env s => (fb env s).bind fun b s1 => if b = true then fb' env s1 else .ok false s1
def tO (fb fb' : EB) : EB := fun env s => (fb env s).bind fun b s1 => if b = true then .ok true s1 else fb' env s1
def tNo (fb : EB) : EB := fun env s => (fb env s).bind fun b s1 => .ok (!b) s1
variable {g : G}
theorem t_and1 (h : PT X a (semB g W fb)) : PW X (.BoolOp .And [a] pos) (semB g W fb) := pw_and1 h
theorem t_or1 (h : PT X a (semB g W fb)) : PW X (.BoolOp .Or [a] pos) (semB g W fb) := pw_or1 h
theorem PW.of {t t' : TT} (h : PW X e t) (k : ∀ σ H Q, t' σ H Q → t σ H Q) : PW X e t' := ⟨fun w pins s σ H Q I q => h.run w pins s σ H Q I (k _ _ _ q)⟩
theorem t_and (ha : PT X a (semB g W fb)) (hb : PW X (.BoolOp .And (b :: rest) pos) (semB g W fb')) : PW X (.BoolOp .And (a :: b :: rest) pos) (semB g W (tAn fb fb')) := by
  refine PW.of (pw_and ha hb) fun σ H Q ⟨m, env, s, ag, q⟩ => ?_
  refine semB_k ag (R.post_bind q) fun d s1 m1 H1 q1 l1 a1 => ?_
  cases d with
  | true => exact iteT ⟨m1, env, s1, a1, R.post_mono q1 (fun _ _ z => z.le l1) fun _ _ _ z => z.le l1⟩
  | false => exact iteF (q1 m1 H1 l1 a1.hold)
theorem t_or (ha : PT X a (semB g W fb)) (hb : PW X (.BoolOp .Or (b :: rest) pos) (semB g W fb')) : PW X (.BoolOp .Or (a :: b :: rest) pos) (semB g W (tO fb fb')) := by
  refine PW.of (pw_or ha hb) fun σ H Q ⟨m, env, s, ag, q⟩ => ?_
  refine semB_k ag (R.post_bind q) fun d s1 m1 H1 q1 l1 a1 => ?_
  cases d with
  | true => exact iteT (q1 m1 H1 l1 a1.hold)
  | false => exact iteF ⟨m1, env, s1, a1, R.post_mono q1 (fun _ _ z => z.le l1) fun _ _ _ z => z.le l1⟩
theorem t_not (ha : PT X a (semB g W fb)) : PT X (.UnaryOp .Not a pos) (semB g W (tNo fb)) := by
  refine PT.of (pt_not ha) fun σ H Q ⟨m, env, s, ag, q⟩ => ?_
  exact semB_k ag (R.post_bind q) fun d s1 m1 H1 q1 l1 a1 => q1 m1 H1 l1 a1.hold
/-! as values -/
def eAn (f f' : EX) : EX := fun env s => (f env s).bind fun d s1 => match d with
  | .bl true => f' env s1
  | .bl false => .ok (.bl false) s1
  | _ => .no
def eO (f f' : EX) : EX := fun env s => (f env s).bind fun d s1 => match d with
  | .bl true => .ok (.bl true) s1
  | .bl false => f' env s1
  | _ => .no
def eNo (f : EX) : EX := fun env s => (f env s).bind fun d s1 => match d with
  | .bl b => .ok (.bl (!b)) s1
  | _ => .no
theorem s_one {op} (h : PE X a (sem g W f)) : PE X (.BoolOp op [a] pos) (sem g W f) := pe_one h
theorem s_and (ha : PE X a (sem g W f)) (hb : PE X (.BoolOp .And (b :: rest) pos) (sem g W f')) : PE X (.BoolOp .And (a :: b :: rest) pos) (sem g W (eAn f f')) := by
  refine PE.of (pe_and ha hb) fun σ H Q ⟨m, env, s, ag, q⟩ => ?_
  refine sem_k ag (R.post_bind q) fun d s1 v m1 H1 q1 l1 a1 r1 => ?_
  cases r1 <;> first | exact q1.elim | skip
  rename_i k
  cases k with
  | true => exact ⟨true, rfl, iteT ⟨m1, env, s1, a1, R.post_mono q1 (fun _ _ z => z.le l1) fun _ _ _ z => z.le l1⟩⟩
  | false => exact ⟨false, rfl, iteF (q1 _ m1 H1 l1 a1.hold (.bl false))⟩
theorem s_or (ha : PE X a (sem g W f)) (hb : PE X (.BoolOp .Or (b :: rest) pos) (sem g W f')) : PE X (.BoolOp .Or (a :: b :: rest) pos) (sem g W (eO f f')) := by
  refine PE.of (pe_or ha hb) fun σ H Q ⟨m, env, s, ag, q⟩ => ?_
  refine sem_k ag (R.post_bind q) fun d s1 v m1 H1 q1 l1 a1 r1 => ?_
  cases r1 <;> first | exact q1.elim | skip
  rename_i k
  cases k with
  | true => exact ⟨true, rfl, iteT (q1 _ m1 H1 l1 a1.hold (.bl true))⟩
  | false => exact ⟨false, rfl, iteF ⟨m1, env, s1, a1, R.post_mono q1 (fun _ _ z => z.le l1) fun _ _ _ z => z.le l1⟩⟩
theorem s_not (ha : PE X a (sem g W f)) : PE X (.UnaryOp .Not a pos) (sem g W (eNo f)) := by
  refine PE.of (pe_not ha) fun σ H Q ⟨m, env, s, ag, q⟩ => ?_
  refine sem_k ag (R.post_bind q) fun d s1 v m1 H1 q1 l1 a1 r1 => ?_
  cases r1 <;> first | exact q1.elim | skip
  exact ⟨_, rfl, q1 _ m1 H1 l1 a1.hold (.bl _)⟩
def eIf (fb : EB) (f f' : EX) : EX := fun env s => (fb env s).bind fun b s1 => if b = true then f env s1 else f' env s1
theorem s_if {c : Expr} (hc : PT X c (semB g W fb)) (ha : PE X a (sem g W f)) (hb : PE X b (sem g W f')) : PE X (.IfExp c a b pos) (sem g W (eIf fb f f')) := by
  refine PE.of (pe_ifExp hc ha hb) fun σ H Q ⟨m, env, s, ag, q⟩ => ?_
  refine semB_k ag (R.post_bind q) fun d s1 m1 H1 q1 l1 a1 => ?_
  cases d with
  | true => exact iteT ⟨m1, env, s1, a1, R.post_mono q1 (fun _ _ z => z.le l1) fun _ _ _ z => z.le l1⟩
  | false => exact iteF ⟨m1, env, s1, a1, R.post_mono q1 (fun _ _ z => z.le l1) fun _ _ _ z => z.le l1⟩
/-- a < b < c -/
def eCh (o o' : OP2) (f f' f'' : EX) : EX := fun env s => (f env s).bind fun d s1 => (f' env s1).bind fun e s2 => (R.of (o d e s2)).bind fun k s3 => match k with
  | .bl true => (f'' env s3).bind fun c s4 => (R.of (o' e c s4)).bind fun k s5 => match k with
    | .bl b => .ok (.bl b) s5
    | _ => .no
  | .bl false => .ok (.bl false) s3
  | _ => .no
end
end Mi

set_option Elab.async false
set_option linter.all false
set_option maxRecDepth 100000
namespace Mi
open PySem PySem.Spec PyProof.Rows L2

section
variable {g : G} {m : List Addr} {H : Hp} {s : S} {Q : VK} {p : Addr} {xs : List V} {ds : List D}
theorem line_ok {n : Nat} (h : n ≤ 16777216) : n ≤ sizeLine := by rw [sizeLine_eq]; exact h
theorem line_of {n : Nat} (h : n ≤ sizeLine) : n ≤ 16777216 := by rw [sizeLine_eq] at h; exact h
theorem new_tup (hold : Hold g m s H) (e : H p = none) (r : Reps g m H xs ds) (q : PD g m H Q (.tup ds) s) : Q (.ref p) (upd H p (.tup xs)) :=
  q (.ref p) m _ (Le.aside hold e) (hold.aside e) (.tup (.inl ⟨upd_same, hold.free e⟩) (r.le (Le.aside hold e)))
theorem new_lst (hold : Hold g m s H) (e : H p = none) (r : Reps g m H xs ds) (q : PD g m H Q (.ref s.length) (s ++ [.lst ds])) : Q (.ref p) (upd H p (.lst xs)) :=
  q (.ref p) (m ++ [p]) _ (Le.new hold e) (hold.new e ⟨xs, upd_same, r.le (Le.new hold e)⟩) (.ref (by rw [← hold.len, List.getElem?_append_right (Nat.le_refl _), Nat.sub_self]; rfl))
theorem PD.here (hold : Hold g m s H) {v : V} {d : D} (r : Rep g m H v d) (q : PD g m H Q d s) : Q v H := q v m H (Le.refl m H) hold r
theorem rep_int {v : V} {i : Int} (r : Rep g m H v (.int i)) : v = .int i := by cases r; rfl
theorem rep_bl {v : V} {b : Bool} (r : Rep g m H v (.bl b)) : v = .bl b := by cases r; rfl
theorem rep_str {v : V} {x : Str} (r : Rep g m H v (.str x)) : v = .str x := by cases r; rfl
theorem rep_non {v : V} (r : Rep g m H v .non) : v = .non := by cases r; rfl
theorem rep_tup {v : V} (r : Rep g m H v (.tup ds)) : ∃ a xs, v = .ref a ∧ RdT g m H a xs ∧ Reps g m H xs ds := by cases r with | tup h r => exact ⟨_, _, rfl, h, r⟩
theorem rep_rol {v : V} (r : Rep g m H v (.rol ds)) : ∃ a xs, v = .ref a ∧ RdL g m H a xs ∧ Reps g m H xs ds := by cases r with | rol h r => exact ⟨_, _, rfl, h, r⟩
theorem rep_ref {v : V} {i : Nat} (r : Rep g m H v (.ref i)) : ∃ a, v = .ref a ∧ m[i]? = some a := by cases r with | ref h => exact ⟨_, rfl, h⟩
theorem rep_lst {v : V} {i : Nat} (hold : Hold g m s H) (r : Rep g m H v (.ref i)) (e : s[i]? = some (.lst ds)) : ∃ a xs, v = .ref a ∧ m[i]? = some a ∧ H a = some (.lst xs) ∧ Reps g m H xs ds := by
  obtain ⟨a, rfl, h⟩ := rep_ref r
  obtain ⟨xs, e1, r1⟩ := hold.obj i a _ h e
  exact ⟨a, xs, rfl, h, e1, r1⟩
end

/-! ### arithmetic -/
def opI (C : Int → Int → Bool) (k : Int → Int → D) : OP2 := fun d e s => match d, e with
  | .int i, .int j => if C i j = true then some (k i j, s) else none
  | _, _ => none
theorem opI_some {C : Int → Int → Bool} {k : Int → Int → D} {d e x : D} {s s' : S} (h : opI C k d e s = some (x, s')) : ∃ i j, d = .int i ∧ e = .int j ∧ C i j = true ∧ x = k i j ∧ s' = s := by
  unfold opI at h
  split at h
  · rename_i i j
    by_cases c : C i j = true
    · rw [if_pos c] at h; cases h; exact ⟨i, j, rfl, rfl, c, rfl, rfl⟩
    · rw [if_neg c] at h; cases h
  · cases h
theorem o2_I {g : G} {P : Int → Int → Prop} {f : Int → Int → V} {C : Int → Int → Bool} {k : Int → Int → D} (hC : ∀ i j, C i j = true → P i j) (hk : ∀ m H i j, C i j = true → Rep g m H (f i j) (k i j)) : O2 g (rI P f) (opI C k) := by
  intro m H s v w d e x s' Q hold rv rw he q
  obtain ⟨i, j, rfl, rfl, c, rfl, rfl⟩ := opI_some he
  exact ⟨i, j, rep_int rv, rep_int rw, hC i j c, PD.here hold (hk m H i j c) q⟩
theorem o2_I0 {g : G} {f : Int → Int → V} {k : Int → Int → D} (hk : ∀ m H i j, Rep g m H (f i j) (k i j)) : O2 g (rI0 f) (opI (fun _ _ => true) k) := by
  intro m H s v w d e x s' Q hold rv rw he q
  obtain ⟨i, j, rfl, rfl, c, rfl, rfl⟩ := opI_some he
  exact ⟨i, j, rep_int rv, rep_int rw, PD.here hold (hk m H i j) q⟩
abbrev subD : OP2 := opI (fun _ _ => true) fun i j => .int (i - j)
abbrev modD : OP2 := opI (fun _ j => decide (0 < j)) fun i j => .int (i % j)
abbrev divD : OP2 := opI (fun _ j => decide (0 < j ∧ j < 1073741824)) fun i j => .int (i / j)
abbrev divWD : OP2 := opI (fun _ j => decide (0 < j ∧ j.natAbs.log2 < 9000)) fun i j => .int (i / j)
abbrev powD : OP2 := opI (fun i j => decide (0 ≤ j ∧ j ≤ 1000000 ∧ i.natAbs < 2 ^ 64)) fun i j => .int (i ^ j.toNat)
abbrev shlD : OP2 := opI (fun i j => decide (0 ≤ j ∧ j ≤ 1000000 ∧ i.natAbs < 2 ^ 64)) fun i j => .int (i * 2 ^ j.toNat)
abbrev andD : OP2 := opI (fun _ _ => true) fun i j => .int (Builtin.bitAnd i j)
abbrev orD : OP2 := opI (fun _ _ => true) fun i j => .int (Builtin.bitOr i j)
abbrev xorD : OP2 := opI (fun _ _ => true) fun i j => .int (Builtin.bitXor i j)
abbrev ltD : OP2 := opI (fun _ _ => true) fun i j => .bl (decide (i < j))
abbrev leD : OP2 := opI (fun _ _ => true) fun i j => .bl (decide (i ≤ j))
abbrev gtD : OP2 := opI (fun _ _ => true) fun i j => .bl (decide (j < i))
abbrev geD : OP2 := opI (fun _ _ => true) fun i j => .bl (decide (j ≤ i))
section
variable {g : G} {X : Cx}
theorem o2_sub : O2 g (rI0 fun i j => .int (i - j)) subD := o2_I0 fun _ _ _ _ => .int _
theorem o2_mod : O2 g (rI (fun _ j => 0 < j) fun i j => .int (i % j)) modD := o2_I (fun _ _ h => of_decide_eq_true h) fun _ _ _ _ _ => .int _
theorem o2_div : O2 g (rI CDiv fun i j => .int (i / j)) divD := o2_I (fun _ _ h => (by have z := of_decide_eq_true h; exact z)) fun _ _ _ _ _ => .int _
theorem o2_divW : O2 g (rI CDivW fun i j => .int (i / j)) divWD := o2_I (fun _ _ h => (by have z := of_decide_eq_true h; exact z)) fun _ _ _ _ _ => .int _
theorem o2_pow : O2 g (rI CPow fun i j => .int (i ^ j.toNat)) powD := o2_I (fun _ _ h => (by have z := of_decide_eq_true h; exact z)) fun _ _ _ _ _ => .int _
theorem o2_shl : O2 g (rI CPow fun i j => .int (i * 2 ^ j.toNat)) shlD := o2_I (fun _ _ h => (by have z := of_decide_eq_true h; exact z)) fun _ _ _ _ _ => .int _
theorem o2_and : O2 g (rI0 fun i j => .int (Builtin.bitAnd i j)) andD := o2_I0 fun _ _ _ _ => .int _
theorem o2_or : O2 g (rI0 fun i j => .int (Builtin.bitOr i j)) orD := o2_I0 fun _ _ _ _ => .int _
theorem o2_xor : O2 g (rI0 fun i j => .int (Builtin.bitXor i j)) xorD := o2_I0 fun _ _ _ _ => .int _
theorem o2_lt : O2 g (rI0 fun i j => .bl (decide (i < j))) ltD := o2_I0 fun _ _ _ _ => .bl _
theorem o2_le : O2 g (rI0 fun i j => .bl (decide (i ≤ j))) leD := o2_I0 fun _ _ _ _ => .bl _
theorem o2_gt : O2 g (rI0 fun i j => .bl (decide (j < i))) gtD := o2_I0 fun _ _ _ _ => .bl _
theorem o2_ge : O2 g (rI0 fun i j => .bl (decide (j ≤ i))) geD := o2_I0 fun _ _ _ _ => .bl _

/-! a + b, a * b by kinds -/
def addD : OP2 := fun d e s => match d, e with
  | .int i, .int j => some (.int (i + j), s)
  | .str x, .str y => if x.length + y.length ≤ 16777216 then some (.str (x ++ y), s) else none
  | .tup xs, .tup ys => if xs.length + ys.length ≤ 16777216 then some (.tup (xs ++ ys), s) else none
  | .ref p, .ref q => match s[p]?, s[q]? with
    | some (.lst xs), some (.lst ys) => if xs.length + ys.length ≤ 16777216 then some (.ref s.length, s ++ [.lst (xs ++ ys)]) else none
    | _, _ => none
  | _, _ => none
def rAddA (K : PySem.W.Frag) : R2 := fun x y H Q => (rI0 fun i j => .int (i + j)) x y H Q ∨ (∃ i j, x = .str i ∧ y = .str j ∧ i.length + j.length ≤ sizeLine ∧ Q (.str (i ++ j)) H) ∨ rCatA K x y H Q ∨ rCat x y H Q
theorem op_addA : OpR X (binaryOp .Add) (rAddA X.K) := op_add.or (op_add_str.or (op_catA.or op_cat))
theorem o2_add : O2 g (rAddA g.K) addD := by
  intro m H s v w d e x s' Q hold rv rw he q
  unfold addD at he
  split at he
  · cases he
    exact .inl ⟨_, _, rep_int rv, rep_int rw, PD.here hold (.int _) q⟩
  · rename_i x y
    by_cases c : x.length + y.length ≤ 16777216
    · rw [if_pos c] at he; cases he
      exact .inr (.inl ⟨_, _, rep_str rv, rep_str rw, line_ok c, PD.here hold (.str _) q⟩)
    · rw [if_neg c] at he; cases he
  · rename_i xs ys
    by_cases c : xs.length + ys.length ≤ 16777216
    · rw [if_pos c] at he; cases he
      obtain ⟨a, vs, rfl, h1, r1⟩ := rep_tup rv
      obtain ⟨b, ws, rfl, h2, r2⟩ := rep_tup rw
      refine .inr (.inr (.inl ⟨a, b, vs, ws, rfl, rfl, h1.sq, h2.sq, line_ok (by rw [r1.length, r2.length]; exact c), fun e => ?_, fun _ e => ?_, fun _ _ p hp => ?_⟩))
      · subst e; cases r1; exact PD.here hold (.tup h2 r2) q
      · subst e; cases r2; rw [List.append_nil] at q; exact PD.here hold (.tup h1 r1) q
      · exact new_tup hold hp (r1.append r2) q
    · rw [if_neg c] at he; cases he
  · rename_i i j
    split at he
    · rename_i xs ys e1 e2
      by_cases c : xs.length + ys.length ≤ 16777216
      · rw [if_pos c] at he; cases he
        obtain ⟨a, vs, rfl, _, h1, r1⟩ := rep_lst hold rv e1
        obtain ⟨b, ws, rfl, _, h2, r2⟩ := rep_lst hold rw e2
        exact .inr (.inr (.inr ⟨a, b, vs, ws, rfl, rfl, h1, h2, line_ok (by rw [r1.length, r2.length]; exact c), fun p hp => new_lst hold hp (r1.append r2) q⟩))
      · rw [if_neg c] at he; cases he
    · cases he
  · cases he
def repD {α : Type} (n : Nat) (xs : List α) : List α := (List.replicate n xs).flatten
def mulD : OP2 := fun d e s => match d, e with
  | .int i, .int j => if (-(2 ^ 64) < i ∧ i < 2 ^ 64) ∨ (-(2 ^ 64) < j ∧ j < 2 ^ 64) then some (.int (i * j), s) else none
  | .ref p, .int k => match s[p]? with
    | some (.lst xs) => if k < 2 ^ 63 ∧ -(2 ^ 63) ≤ k ∧ xs.length * k.toNat ≤ 16777216 then some (.ref s.length, s ++ [.lst (repD k.toNat xs)]) else none
    | _ => none
  | _, _ => none
theorem Reps.rep {m : List Addr} {H : Hp} {xs : List V} {ds : List D} (r : Reps g m H xs ds) : ∀ n, Reps g m H (repD n xs) (repD n ds)
  | 0 => .nil
  | n + 1 => by
    unfold repD
    rw [List.replicate_succ, List.replicate_succ, List.flatten_cons, List.flatten_cons]
    exact r.append (Reps.rep r n)
def rMulA : R2 := fun x y H Q => (rI CMul fun i j => .int (i * j)) x y H Q ∨ rRep x y H Q
theorem op_mulA : OpR X (binaryOp .Mult) rMulA := op_mul.or op_rep
theorem o2_mul : O2 g rMulA mulD := by
  intro m H s v w d e x s' Q hold rv rw he q
  unfold mulD at he
  split at he
  · rename_i i j
    by_cases c : (-(2 ^ 64) < i ∧ i < 2 ^ 64) ∨ (-(2 ^ 64) < j ∧ j < 2 ^ 64)
    · rw [if_pos c] at he; cases he
      exact .inl ⟨_, _, rep_int rv, rep_int rw, c, PD.here hold (.int _) q⟩
    · rw [if_neg c] at he; cases he
  · rename_i i k
    split at he
    · rename_i xs e1
      by_cases c : k < 2 ^ 63 ∧ -(2 ^ 63) ≤ k ∧ xs.length * k.toNat ≤ 16777216
      · rw [if_pos c] at he; cases he
        obtain ⟨a, vs, rfl, _, h1, r1⟩ := rep_lst hold rv e1
        exact .inr ⟨a, k, vs, rfl, rep_int rw, h1, c.2.1, c.1, line_ok (by rw [r1.length]; exact c.2.2), fun p hp => new_lst hold hp (r1.rep k.toNat) q⟩
      · rw [if_neg c] at he; cases he
    · cases he
  · cases he

/-! == and != -/
def toP : Nat → S → D → Option PyData
  | 0, _, _ => none
  | n + 1, s, d => match d with
    | .non => some .none
    | .bl b => some (.bool b)
    | .int i => some (.int i)
    | .str x => some (.str x)
    | .tup ds => (ds.mapM (toP n s)).map .tuple
    | .rol ds => (ds.mapM (toP n s)).map .list
    | .ref p => match s[p]? with
      | some (.lst ds) => (ds.mapM (toP n s)).map .list
      | _ => none
    | _ => none
theorem dpAll_of {m : List Addr} {H : Hp} {F : D → Option PyData} : ∀ {xs : List V} {ds : List D} {ps : List PyData}, Reps g m H xs ds → ds.mapM F = some ps →
    (∀ x d p, Rep g m H x d → F d = some p → Dp g.K H x p) → DpAll g.K H xs ps
  | _, _, _, .nil, h, _ => by cases h; exact .nil
  | _, _, _, .cons (d := d) (ds := ds) r t, h, k => by
    rw [List.mapM_cons] at h
    cases e1 : F d with
    | none => rw [e1] at h; cases h
    | some p =>
      cases e2 : ds.mapM F with
      | none => rw [e1, e2] at h; cases h
      | some ps =>
        rw [e1, e2] at h
        cases h
        exact .cons (k _ _ _ r e1) (dpAll_of t e2 k)
theorem toP_ok {m : List Addr} {H : Hp} {s : S} (hold : Hold g m s H) : ∀ (n : Nat) (x : V) (d : D) (p : PyData), Rep g m H x d → toP n s d = some p → Dp g.K H x p
  | 0, _, _, _, _, h => by cases h
  | n + 1, x, d, p, r, h => by
    cases r with
    | non => cases h; exact .non
    | bl b => cases h; exact .bl b
    | int i => cases h; exact .int i
    | str y => cases h; exact .str y
    | ty y => cases h
    | glo z => cases h
    | @tup a xs ds z q =>
      have h : (ds.mapM (toP n s)).map PyData.tuple = some p := h
      cases e : ds.mapM (toP n s) with
      | none => rw [e] at h; cases h
      | some ps => rw [e] at h; cases h; exact .tup z.sq (dpAll_of q e fun x d p r h => toP_ok hold n x d p r h)
    | @rol a xs ds z q =>
      have h : (ds.mapM (toP n s)).map PyData.list = some p := h
      cases e : ds.mapM (toP n s) with
      | none => rw [e] at h; cases h
      | some ps => rw [e] at h; cases h; exact .lst z.sq (dpAll_of q e fun x d p r h => toP_ok hold n x d p r h)
    | @ref a i z =>
      have h : (match s[i]? with
        | some (.lst ds) => (ds.mapM (toP n s)).map PyData.list
        | _ => none) = some p := h
      split at h
      · rename_i ds e1
        obtain ⟨xs, e2, q⟩ := hold.obj i a _ z e1
        cases e : ds.mapM (toP n s) with
        | none => rw [e] at h; cases h
        | some ps => rw [e] at h; cases h; exact .lst (.of e2) (dpAll_of q e fun x d p r h => toP_ok hold n x d p r h)
      · cases h
/-- scalars of one kind, or none beside one: by their terms -/
def eqS : D → D → Option Bool
  | .non, .non => some true
  | .int i, .int j => some (decide (i = j))
  | .bl i, .bl j => some (decide (i = j))
  | .str i, .str j => some (decide (i = j))
  | .non, .int _ => some false | .int _, .non => some false
  | .non, .bl _ => some false | .bl _, .non => some false
  | .non, .str _ => some false | .str _, .non => some false
  | .int _, .str _ => some false | .str _, .int _ => some false
  | .bl _, .str _ => some false | .str _, .bl _ => some false
  | _, _ => none
def eqB (d e : D) (s : S) : Option Bool := match eqS d e with
  | some b => some b
  | none => match toP 60 s d, toP 60 s e with
    | some p, some q => if SeqAt.shaped p && SeqAt.shaped q then some (PyData.eqv p q) else none
    | _, _ => none
def eqD : OP2 := fun d e s => match eqB d e s with
  | some b => some (.bl b, s)
  | none => none
def neD : OP2 := fun d e s => match eqB d e s with
  | some b => some (.bl (!b), s)
  | none => none
def rEqA (K : PySem.W.Frag) : R2 := fun x y H Q => rEq x y H Q ∨ rEqD K x y H Q
def rNeA (K : PySem.W.Frag) : R2 := fun x y H Q => rNe x y H Q ∨ rNeD K x y H Q
theorem op_eqA (hu : X.A.units + 64 < cLine) : OpR X (compareOp .Eq) (rEqA X.K) := op_eq.or (op_eqD hu)
theorem op_neA (hu : X.A.units + 64 < cLine) : OpR X (compareOp .NotEq) (rNeA X.K) := op_ne.or (op_neD hu)
theorem eqS_ok {m : List Addr} {H : Hp} {d e : D} {b : Bool} {v w : V} (h : eqS d e = some b) (rv : Rep g m H v d) (rw : Rep g m H w e) : scal v w = true ∧ b = decide (v = w) := by
  cases rv <;> cases rw <;> first
    | (cases h; done)
    | (cases h; exact ⟨rfl, by simp⟩)
theorem eqB_ok {m : List Addr} {H : Hp} {s : S} (hold : Hold g m s H) {d e : D} {b : Bool} {v w : V} (h : eqB d e s = some b) (rv : Rep g m H v d) (rw : Rep g m H w e) :
    (scal v w = true ∧ b = decide (v = w)) ∨ (∃ p q, Dp g.K H v p ∧ Dp g.K H w q ∧ SeqAt.shaped p = true ∧ SeqAt.shaped q = true ∧ b = PyData.eqv p q) := by
  unfold eqB at h
  split at h
  · rename_i b' hb
    cases h
    exact .inl (eqS_ok hb rv rw)
  · split at h
    · rename_i p q h1 h2
      by_cases c : (SeqAt.shaped p && SeqAt.shaped q) = true
      · rw [if_pos c] at h; cases h
        rw [Bool.and_eq_true] at c
        exact .inr ⟨p, q, toP_ok hold _ _ _ _ rv h1, toP_ok hold _ _ _ _ rw h2, c.1, c.2, rfl⟩
      · rw [if_neg c] at h; cases h
    · cases h
theorem o2_eq : O2 g (rEqA g.K) eqD := by
  intro m H s v w d e x s' Q hold rv rw he q
  unfold eqD at he
  split at he
  · rename_i b hb
    cases he
    rcases eqB_ok hold hb rv rw with ⟨h1, rfl⟩ | ⟨p, p', h1, h2, h3, h4, rfl⟩
    · exact .inl ⟨h1, PD.here hold (.bl _) q⟩
    · exact .inr ⟨p, p', h1, h2, h3, h4, PD.here hold (.bl _) q⟩
  · cases he
theorem o2_ne : O2 g (rNeA g.K) neD := by
  intro m H s v w d e x s' Q hold rv rw he q
  unfold neD at he
  split at he
  · rename_i b hb
    cases he
    rcases eqB_ok hold hb rv rw with ⟨h1, rfl⟩ | ⟨p, p', h1, h2, h3, h4, rfl⟩
    · exact .inl ⟨h1, PD.here hold (.bl _) q⟩
    · exact .inr ⟨p, p', h1, h2, h3, h4, PD.here hold (.bl _) q⟩
  · cases he

/-! is None, is True -/
def isD : OP2 := fun d e s => match d, e with
  | d, .non => some (.bl (match d with | .non => true | _ => false), s)
  | .bl a, .bl b => some (.bl (decide (a = b)), s)
  | _, _ => none
def isNotD : OP2 := fun d e s => match d, e with
  | d, .non => some (.bl (match d with | .non => false | _ => true), s)
  | .bl a, .bl b => some (.bl (!decide (a = b)), s)
  | _, _ => none
def rIsA : R2 := fun x y H Q => (y = .non ∧ Q (.bl (decide (x = .non))) H) ∨ (∃ a b, x = .bl a ∧ y = .bl b ∧ Q (.bl (decide (a = b))) H)
def rIsNotA : R2 := fun x y H Q => (y = .non ∧ Q (.bl (!decide (x = .non))) H) ∨ (∃ a b, x = .bl a ∧ y = .bl b ∧ Q (.bl (!decide (a = b))) H)
theorem op_isA : OpR X (compareOp .Is) rIsA := op_isN.or op_is_bl
theorem op_isNotA : OpR X (compareOp .IsNot) rIsNotA := op_notN.or op_isnot_bl
theorem o2_is : O2 g rIsA isD := by
  intro m H s v w d e x s' Q hold rv rw he q
  unfold isD at he
  split at he
  · cases he
    refine .inl ⟨rep_non rw, PD.here hold ?_ q⟩
    cases rv <;> simp <;> exact .bl _
  · cases he
    exact .inr ⟨_, _, rep_bl rv, rep_bl rw, PD.here hold (.bl _) q⟩
  · cases he
theorem o2_isNot : O2 g rIsNotA isNotD := by
  intro m H s v w d e x s' Q hold rv rw he q
  unfold isNotD at he
  split at he
  · cases he
    refine .inl ⟨rep_non rw, PD.here hold ?_ q⟩
    cases rv <;> simp <;> exact .bl _
  · cases he
    exact .inr ⟨_, _, rep_bl rv, rep_bl rw, PD.here hold (.bl _) q⟩
  · cases he

/-! in: a list or tuple of flat things -/
def flatD : D → Bool
  | .non | .bl _ | .int _ | .str _ => true
  | _ => false
def eqF : D → D → Bool
  | .non, .non => true
  | .bl a, .bl b => a == b
  | .bl a, .int b => (if a then 1 else 0) == b
  | .int a, .bl b => a == (if b then 1 else 0)
  | .int a, .int b => a == b
  | .str a, .str b => a == b
  | _, _ => false
def itemsD (d : D) (s : S) : Option (List D) := match d with
  | .tup ds => some ds
  | .rol ds => some ds
  | .ref p => match s[p]? with
    | some (.lst ds) => some ds
    | _ => none
  | _ => none
def inD (neg : Bool) : OP2 := fun d e s => match itemsD e s with
  | some ds => if flatD d && ds.all flatD then some (.bl (if neg then !(ds.any fun y => eqF y d) else ds.any fun y => eqF y d), s) else none
  | none => none
theorem flat_ok {m : List Addr} {H : Hp} {v : V} {d : D} (r : Rep g m H v d) : flatV v = flatD d ∨ flatD d = false := by cases r <;> first | exact .inl rfl | exact .inr rfl
theorem flat_rep {m : List Addr} {H : Hp} {v : V} {d : D} (r : Rep g m H v d) (h : flatD d = true) : flatV v = true := by cases r <;> first | rfl | cases h
theorem flats_rep {m : List Addr} {H : Hp} : ∀ {vs : List V} {ds : List D}, Reps g m H vs ds → ds.all flatD = true → vs.all flatV = true
  | _, _, .nil, _ => rfl
  | _, _, .cons r t, h => by
    rw [List.all_cons, Bool.and_eq_true] at h ⊢
    exact ⟨flat_rep r h.1, flats_rep t h.2⟩
theorem eqF_rep {m : List Addr} {H : Hp} {v w : V} {d e : D} (r : Rep g m H v d) (r' : Rep g m H w e) (h : flatD d = true) (h' : flatD e = true) : eqV v w = eqF d e := by
  cases r <;> first | (cases h; done) | (cases r' <;> first | (cases h'; done) | rfl)
theorem inV_rep {m : List Addr} {H : Hp} {v : V} {d : D} (r : Rep g m H v d) (h : flatD d = true) : ∀ {vs : List V} {ds : List D}, Reps g m H vs ds → ds.all flatD = true → inV v vs = ds.any fun y => eqF y d
  | _, _, .nil, _ => rfl
  | _, _, .cons q t, h' => by
    rw [List.all_cons, Bool.and_eq_true] at h'
    unfold inV
    rw [List.any_cons, List.any_cons, eqF_rep q r h'.1 h]
    have := inV_rep r h t h'.2
    unfold inV at this
    rw [this]
/-- a sequence as it is read -/
theorem items_rep {m : List Addr} {H : Hp} {s : S} {v : V} {d : D} {ds : List D} (hold : Hold g m s H) (r : Rep g m H v d) (h : itemsD d s = some ds) : ∃ p xs, v = .ref p ∧ (SqL g.K H p xs ∨ SqT g.K H p xs) ∧ Reps g m H xs ds := by
  cases r with
  | tup z q => cases h; exact ⟨_, _, rfl, .inr z.sq, q⟩
  | rol z q => cases h; exact ⟨_, _, rfl, .inl z.sq, q⟩
  | @ref a i z =>
    have h : (match s[i]? with
      | some (.lst ds) => some ds
      | _ => none) = some ds := h
    split at h
    · rename_i e1
      cases h
      obtain ⟨xs, e2, q⟩ := hold.obj i a _ z e1
      exact ⟨a, xs, rfl, .inl (.of e2), q⟩
    · cases h
  | _ => cases h
theorem o2_in {neg : Bool} : O2 g (rIn g.K neg) (inD neg) := by
  intro m H s v w d e x s' Q hold rv rw he q
  unfold inD at he
  split at he
  · rename_i ds hd
    by_cases c : (flatD d && ds.all flatD) = true
    · rw [if_pos c] at he; cases he
      rw [Bool.and_eq_true] at c
      obtain ⟨p, xs, rfl, hq, rs⟩ := items_rep hold rw hd
      refine ⟨p, xs, rfl, hq, flat_rep rv c.1, flats_rep rs c.2, ?_⟩
      rw [inV_rep rv c.1 rs c.2]
      exact PD.here hold (.bl _) q
    · rw [if_neg c] at he; cases he
  · cases he

/-! xs[i] -/
def ixD : OP2 := fun d e s => match d, e with
  | .str z, .int i => if z.length ≤ 16777216 then (match atI z.cps.toList i with | some c => some (.str ⟨#[c]⟩, s) | none => none) else none
  | d, .int i => match itemsD d s with
    | some ds => (match atI ds i with | some x => some (x, s) | none => none)
    | none => none
  | _, _ => none
theorem atI_rep {m : List Addr} {H : Hp} {xs : List V} {ds : List D} {i : Int} {d : D} (r : Reps g m H xs ds) (h : atI ds i = some d) : ∃ v, atI xs i = some v ∧ Rep g m H v d := by
  unfold atI at h ⊢
  rw [← r.length] at h
  cases e : ixN xs.length i with
  | none => rw [e] at h; cases h
  | some j =>
    rw [e] at h
    exact r.get h
theorem o2_ix : O2 g (rIx g.K) ixD := by
  intro m H s v w d e x s' Q hold rv rw he q
  unfold ixD at he
  split at he
  · rename_i z i
    by_cases c : z.length ≤ 16777216
    · rw [if_pos c] at he
      split at he
      · rename_i c' hc
        cases he
        exact .inr (.inr ⟨z, i, c', rep_str rv, rep_int rw, line_ok c, hc, PD.here hold (.str _) q⟩)
      · cases he
    · rw [if_neg c] at he; cases he
  · rename_i d' i _
    split at he
    · rename_i ds hd
      split at he
      · rename_i y hy
        cases he
        obtain ⟨p, xs, rfl, hq, rs⟩ := items_rep hold rv hd
        obtain ⟨y', h1, h2⟩ := atI_rep rs hy
        rcases hq with hq | hq
        · exact .inl ⟨p, xs, i, y', rfl, rep_int rw, hq, h1, PD.here hold h2 q⟩
        · exact .inr (.inl ⟨p, xs, i, y', rfl, rep_int rw, hq, h1, PD.here hold h2 q⟩)
      · cases he
    · cases he
  · cases he
end
end Mi

set_option Elab.async false
set_option linter.all false
set_option maxRecDepth 100000
namespace Mi
open PySem PySem.Spec PyProof.Rows L2

/-! ### arguments, displays, calls -/
def aN : EA := fun _ s => .ok [] s
def aC (f : EX) (fa : EA) : EA := fun env s => (f env s).bind fun d s1 => (fa env s1).bind fun ds s2 => .ok (d :: ds) s2
def eTup (fa : EA) : EX := fun env s => (fa env s).bind fun ds s1 => if ds.length ≤ 16777216 then .ok (.tup ds) s1 else .no
def eLst (fa : EA) : EX := fun env s => (fa env s).bind fun ds s1 => if ds.length ≤ 16777216 then .ok (.ref s1.length) (s1 ++ [.lst ds]) else .no
abbrev FN := List D → S → R D
def eCall (n : Nat) (F : FN) (fa : EA) : EX := fun env s => (fa env s).bind fun ds s1 => if ds.length = n then F ds s1 else .no
abbrev OPN := List D → S → Option (D × S)
def eB (o : OPN) (fa : EA) : EX := fun env s => (fa env s).bind fun ds s1 => R.of (o ds s1)
abbrev RN := List V → Hp → VK → Prop
def ON (g : G) (r : RN) (o : OPN) : Prop := ∀ (m : List Addr) (H : Hp) (s : S) (vs : List V) (ds : List D) (x : D) (s' : S) (Q : VK), Hold g m s H → Reps g m H vs ds → o ds s = some (x, s') → PD g m H Q x s' → r vs H Q
theorem ON.or {g : G} {r r' : RN} {o o' : OPN} (h : ON g r o) (h' : ON g r' o') : ON g (fun vs H Q => r vs H Q ∨ r' vs H Q) (fun ds s => match o ds s with | some x => some x | none => o' ds s) := by
  intro m H s vs ds x s' Q hold rv he q
  have he : (match o ds s with | some x => some x | none => o' ds s) = some (x, s') := he
  cases h1 : o ds s with
  | some z =>
    rw [h1] at he
    exact .inl (h m H s vs ds x s' Q hold rv (h1.trans he) q)
  | none =>
    rw [h1] at he
    exact .inr (h' m H s vs ds x s' Q hold rv he q)
/-- what a def of the program promises: it does F -/
def spF (g : G) (n : Nat) (F : FN) : Sp := fun vs H Q E => ∃ m s ds, ds.length = n ∧ Hold g m s H ∧ Reps g m H vs ds ∧ (F ds s).post (PD g m H Q) (WX g m H E)
section
variable {X : Cx} {g : G} {W : XK} {f f' : EX} {fa : EA} {e : Expr} {es : List Expr} {pos : Pos}
theorem a_nil : PA X [] (semA g W aN) := PA.of pa_nil fun _ H Q ⟨m, env, s, a, q⟩ => q [] m H (Le.refl m H) a.hold .nil
theorem a_cons (h : PE X e (sem g W f)) (hr : PA X es (semA g W fa)) (hs : starEach (e :: es) X.env = (false, eval e X.env) :: starEach es X.env := by rfl) : PA X (e :: es) (semA g W (aC f fa)) := by
  refine PA.of (pa_cons h hr hs) fun σ H Q ⟨m, env, s, ag, q⟩ => ?_
  refine sem_k ag (R.post_bind q) fun d s1 v m1 H1 q1 l1 a1 r1 => ?_
  refine semA_k a1 (R.post_mono (R.post_bind q1) (fun _ _ z => z) fun _ _ _ z => z.le l1) fun ds s2 vs m2 H2 q2 l2 a2 r2 => ?_
  exact q2 (v :: vs) m2 H2 (l1.trans l2) a2.hold (.cons (r1.le l2) r2)
theorem s_tup {x1} (h : PA X es (semA g W fa)) : PE X (.Tuple es x1 pos) (sem g W (eTup fa)) := by
  refine PE.of (pe_tup h) fun σ H Q ⟨m, env, s, ag, q⟩ => ?_
  refine semA_k ag (R.post_bind q) fun ds s1 vs m1 H1 q1 l1 a1 r1 => ?_
  by_cases c : ds.length ≤ 16777216
  · rw [if_pos c] at q1
    exact ⟨line_ok (by rw [r1.length]; exact c), fun p hp => new_tup a1.hold hp r1 (PD.le l1 q1)⟩
  · rw [if_neg c] at q1; exact q1.elim
theorem s_lst (h : PA X es (semA g W fa)) : PE X (.List es pos) (sem g W (eLst fa)) := by
  refine PE.of (pe_lst h) fun σ H Q ⟨m, env, s, ag, q⟩ => ?_
  refine semA_k ag (R.post_bind q) fun ds s1 vs m1 H1 q1 l1 a1 r1 => ?_
  by_cases c : ds.length ≤ 16777216
  · rw [if_pos c] at q1
    exact ⟨line_ok (by rw [r1.length]; exact c), fun p hp => new_lst a1.hold hp r1 (PD.le l1 q1)⟩
  · rw [if_neg c] at q1; exact q1.elim
theorem sem_call {n : Nat} {F : FN} {σ : L2.St} {H : Hp} {Q : VK} (h : sem g W (eCall n F fa) σ H Q) : tCall (spF g n F) [] W (semA g W fa) σ H Q := by
  obtain ⟨m, env, s, ag, q⟩ := h
  refine semA_k ag (R.post_bind q) fun ds s1 vs m1 H1 q1 l1 a1 r1 => ?_
  by_cases c : ds.length = n
  · rw [if_pos c] at q1
    rw [List.append_nil]
    exact ⟨m1, s1, ds, c, a1.hold, r1, R.post_mono q1 (fun _ _ z => PD.le l1 z) fun _ _ _ z => WX.le l1 z⟩
  · rw [if_neg c] at q1; exact q1.elim
theorem s_call {n : Nat} {F : FN} (h : PE X e (tCall (spF g n F) [] W (semA g W fa))) : PE X e (sem g W (eCall n F fa)) := PE.of h fun _ _ _ q => sem_call q
theorem s_call0 {n : Nat} {F : FN} {p : Pos} {x : Str} (h : PE X e (fun _ H Q => spF g n F [] H Q W)) : PE X e (sem g W (eCall n F aN)) := by
  refine PE.of h fun σ H Q ⟨m, env, s, ag, q⟩ => ?_
  have q : (if ([] : List D).length = n then F [] s else .no).post (PD g m H Q) (WX g m H W) := q
  by_cases c : ([] : List D).length = n
  · rw [if_pos c] at q
    exact ⟨m, s, [], c, ag.hold, .nil, q⟩
  · rw [if_neg c] at q; exact q.elim
/-- a call of a built-in, by its rule -/
theorem s_blt {r : RN} {o : OPN} (h : PE X e (tCB r (semA g W fa))) (ho : ON g r o) : PE X e (sem g W (eB o fa)) := by
  refine PE.of h fun σ H Q ⟨m, env, s, ag, q⟩ => ?_
  refine semA_k ag (R.post_bind q) fun ds s1 vs m1 H1 q1 l1 a1 r1 => ?_
  obtain ⟨x, s', e1, q2⟩ := R.post_of q1
  exact ho m1 H1 s1 vs ds x s' Q a1.hold r1 e1 (PD.le l1 q2)
end

/-! ### built-in methods -/
abbrev OPM := D → List D → S → Option (D × S)
abbrev RM := V → List V → Hp → VK → Prop
def OM (g : G) (r : RM) (o : OPM) : Prop := ∀ (m : List Addr) (H : Hp) (s : S) (v : V) (vs : List V) (d : D) (ds : List D) (x : D) (s' : S) (Q : VK), Hold g m s H → Rep g m H v d → Reps g m H vs ds → o d ds s = some (x, s') → PD g m H Q x s' → r v vs H Q
/-- the receiver is of that built-in type -/
def tyD (T : String) (d : D) (s : S) : Bool := match d with
  | .str _ => T == "str"
  | .rol _ => T == "list"
  | .ref p => match s[p]? with
    | some (.lst _) => T == "list"
    | some (.dct _) => T == "dict"
    | some (.dtt _) => T == "dict"
    | _ => false
  | _ => false
def eM (T : String) (o : OPM) (f : EX) (fa : EA) : EX := fun env s => (f env s).bind fun d s1 => if tyD T d s1 = true then (fa env s1).bind fun ds s2 => R.of (o d ds s2) else .no
theorem tyD_ok {g : G} {m : List Addr} {H : Hp} {s : S} {v : V} {d : D} {T : String} (hold : Hold g m s H) (r : Rep g m H v d) (h : tyD T d s = true) : tyV g.K T v H := by
  cases r with
  | str x => exact eq_of_beq h
  | rol z q => exact .inl ⟨eq_of_beq h, _, z.sq⟩
  | @ref a i z =>
    have h : (match s[i]? with
      | some (.lst _) => T == "list"
      | some (.dct _) => T == "dict"
      | some (.dtt _) => T == "dict"
      | _ => false) = true := h
    split at h
    · rename_i ds e1
      obtain ⟨xs, e2, _⟩ := hold.obj i a _ z e1
      exact .inl ⟨eq_of_beq h, _, .of e2⟩
    · rename_i kvs e1
      obtain ⟨es, e2, _⟩ := hold.obj i a _ z e1
      exact .inr (.inr (.inl ⟨eq_of_beq h, .inl ⟨_, e2⟩⟩))
    · rename_i kvs e1
      obtain ⟨es, e2, _⟩ := hold.obj i a _ z e1
      exact .inr (.inr (.inl ⟨eq_of_beq h, .inr ⟨_, e2⟩⟩))
    · cases h
  | _ => cases h
section
variable {X : Cx} {g : G} {W : XK} {f f' : EX} {fa : EA} {e : Expr} {es : List Expr} {pos : Pos} {T : String} {r : RM} {o : OPM}
theorem s_meth (h : PE X e (tBM g.K T r (sem g W f) (semA g W fa))) (ho : OM g r o) : PE X e (sem g W (eM T o f fa)) := by
  refine PE.of h fun σ H Q ⟨m, env, s, ag, q⟩ => ?_
  refine sem_k ag (R.post_bind q) fun d s1 v m1 H1 q1 l1 a1 r1 => ?_
  by_cases c : tyD T d s1 = true
  · rw [if_pos c] at q1
    refine ⟨tyD_ok a1.hold r1 c, ?_⟩
    refine semA_k a1 (R.post_mono (R.post_bind q1) (fun _ _ z => z) fun _ _ _ z => z.le l1) fun ds s2 vs m2 H2 q2 l2 a2 r2 => ?_
    obtain ⟨x, s', e1, q3⟩ := R.post_of q2
    exact ho m2 H2 s2 v vs d ds x s' Q a2.hold (r1.le l2) r2 e1 (PD.le (l1.trans l2) q3)
  · rw [if_neg c] at q1; exact q1.elim
theorem s_meth0 (h : PE X e (tBM0 g.K T r (sem g W f))) (ho : OM g r o) : PE X e (sem g W (eM T o f aN)) := by
  refine PE.of h fun σ H Q ⟨m, env, s, ag, q⟩ => ?_
  refine sem_k ag (R.post_bind q) fun d s1 v m1 H1 q1 l1 a1 r1 => ?_
  by_cases c : tyD T d s1 = true
  · rw [if_pos c] at q1
    refine ⟨tyD_ok a1.hold r1 c, ?_⟩
    obtain ⟨x, s', e1, q3⟩ := R.post_of (show (R.of (o d [] s1)).post _ _ from q1)
    exact ho m1 H1 s1 v [] d [] x s' Q a1.hold r1 .nil e1 (PD.le l1 q3)
  · rw [if_neg c] at q1; exact q1.elim
end

/-! ### slices -/
abbrev EO := Env → S → R (Option Int)
def oN : EO := fun _ s => .ok none s
def oS (f : EX) : EO := fun env s => (f env s).bind fun d s1 => match d with
  | .int i => .ok (some i) s1
  | _ => .no
def PO' (g : G) (m : List Addr) (H : Hp) (Q : Option Int → Hp → Prop) : Option Int → S → Prop := fun o s => ∀ (m' : List Addr) (H' : Hp), Le m H m' H' → Hold g m' s H' → Q o H'
def semO (g : G) (W : XK) (f : EO) : TO := fun σ H Q => ∃ m env s, Ag g m σ H env s ∧ (f env s).post (PO' g m H Q) (WX g m H W)
def cutD (xs : List D) (lo hi : Option Int) : List D := (xs.drop (HT.sIx xs.length 0 lo)).take (HT.sIx xs.length xs.length hi - HT.sIx xs.length 0 lo)
def slD (d : D) (lo hi : Option Int) (s : S) : Option (D × S) := match d with
  | .str z => if z.length ≤ 16777216 then some (.str (cutS z lo hi), s) else none
  | .tup ds => some (.tup (cutD ds lo hi), s)
  | .rol ds => some (.ref s.length, s ++ [.lst (cutD ds lo hi)])
  | .ref p => match s[p]? with
    | some (.lst ds) => some (.ref s.length, s ++ [.lst (cutD ds lo hi)])
    | _ => none
  | _ => none
def eSl (f : EX) (l h : EO) : EX := fun env s => (f env s).bind fun d s1 => (l env s1).bind fun lo s2 => (h env s2).bind fun hi s3 => R.of (slD d lo hi s3)
def rSlAll (K : PySem.W.Frag) : V → Option Int → Option Int → Hp → VK → Prop := fun x lo hi H Q => rSlL K x lo hi H Q ∨ rSlA K x lo hi H Q ∨ rSlS x lo hi H Q
section
variable {X : Cx} {g : G} {W : XK} {f f' : EX} {l h : EO} {e : Expr} {lo hi : Option Expr} {pos p2 : Pos}
theorem PO.of {e : Option Expr} {t t' : TO} (h : PO X e t) (k : ∀ σ H Q, t' σ H Q → t σ H Q) : PO X e t' := ⟨fun pins s σ H Q I q => h.run pins s σ H Q I (k _ _ _ q)⟩
theorem o_none : PO X none (semO g W oN) := PO.of po_none fun _ H Q ⟨m, env, s, a, q⟩ => q m H (Le.refl m H) a.hold
theorem o_some (he : PE X e (sem g W f)) : PO X (some e) (semO g W (oS f)) := by
  refine PO.of (po_some he) fun σ H Q ⟨m, env, s, ag, q⟩ => ?_
  refine sem_k ag (R.post_bind q) fun d s1 v m1 H1 q1 l1 a1 r1 => ?_
  cases r1 <;> first | exact q1.elim | skip
  exact ⟨_, rfl, q1 m1 H1 l1 a1.hold⟩
theorem semO_k {fo : EO} {σ : L2.St} {H : Hp} {m : List Addr} {env : Env} {s : S} {P : Option Int → S → Prop} {K : Option Int → Hp → Prop} (a : Ag g m σ H env s) (h : (fo env s).post P (WX g m H W))
    (k : ∀ d s1 m1 H1, P d s1 → Le m H m1 H1 → Ag g m1 σ H1 env s1 → K d H1) : semO g W fo σ H K :=
  ⟨m, env, s, a, R.post_mono h (fun d s1 p m1 H1 l hold => k d s1 m1 H1 p l (a.go l hold)) fun _ _ _ e => e⟩
theorem sl_all : SlR X (rSlAll X.K) := sl_list.or (sl_tupA.or sl_str)
theorem cut_rep {m : List Addr} {H : Hp} {xs : List V} {ds : List D} (r : Reps g m H xs ds) (lo hi : Option Int) : Reps g m H (cutV xs lo hi) (cutD ds lo hi) := by
  unfold cutV cutD
  rw [r.length]
  exact (r.drop _).take _
theorem sl_ok {m : List Addr} {H : Hp} {s : S} {v : V} {d : D} {lo hi : Option Int} {x : D} {s' : S} {Q : VK} (hold : Hold g m s H) (r : Rep g m H v d) (he : slD d lo hi s = some (x, s')) (q : PD g m H Q x s') : rSlAll g.K v lo hi H Q := by
  cases r with
  | str z =>
    have he : (if z.length ≤ 16777216 then some (D.str (cutS z lo hi), s) else none) = some (x, s') := he
    by_cases c : z.length ≤ 16777216
    · rw [if_pos c] at he; cases he
      exact .inr (.inr ⟨z, rfl, line_ok c, PD.here hold (.str _) q⟩)
    · rw [if_neg c] at he; cases he
  | @tup a xs ds z t =>
    cases he
    refine .inr (.inl ⟨a, xs, rfl, z.sq, fun ⟨h1, h2⟩ => ?_, fun _ p hp => new_tup hold hp (cut_rep t lo hi) q⟩)
    have e1 : cutD ds lo hi = ds := by
      unfold cutD
      rw [t.length] at h1 h2
      rw [h1, h2, List.drop_zero, Nat.sub_zero, List.take_length]
    rw [e1] at q
    exact PD.here hold (.tup z t) q
  | @rol a xs ds z t =>
    cases he
    exact .inl ⟨a, xs, rfl, z.sq, fun p hp => new_lst hold hp (cut_rep t lo hi) q⟩
  | @ref a i z =>
    have he : (match s[i]? with
      | some (.lst ds) => some (D.ref s.length, s ++ [.lst (cutD ds lo hi)])
      | _ => none) = some (x, s') := he
    split at he
    · rename_i ds e1
      cases he
      obtain ⟨xs, e2, t⟩ := hold.obj i a _ z e1
      exact .inl ⟨a, xs, rfl, .of e2, fun p hp => new_lst hold hp (cut_rep t lo hi) q⟩
    · cases he
  | _ => cases he
theorem s_slice (he : PE X e (sem ⟨X.K, X.mg⟩ W f)) (hl : PO X lo (semO ⟨X.K, X.mg⟩ W l)) (hu : PO X hi (semO ⟨X.K, X.mg⟩ W h)) : PE X (.Subscript e (.Slice lo hi none p2) pos) (sem ⟨X.K, X.mg⟩ W (eSl f l h)) := by
  refine PE.of (pe_slice sl_all he hl hu) fun σ H Q ⟨m, env, s, ag, q⟩ => ?_
  refine sem_k ag (R.post_bind q) fun d s1 v m1 H1 q1 l1 a1 r1 => ?_
  refine semO_k a1 (R.post_mono (R.post_bind q1) (fun _ _ z => z) fun _ _ _ z => z.le l1) fun lo s2 m2 H2 q2 l2 a2 => ?_
  refine semO_k a2 (R.post_mono (R.post_bind q2) (fun _ _ z => z) fun _ _ _ z => z.le (l1.trans l2)) fun hi s3 m3 H3 q3 l3 a3 => ?_
  obtain ⟨x, s', e1, q4⟩ := R.post_of q3
  exact sl_ok (g := ⟨X.K, X.mg⟩) a3.hold (r1.le (l2.trans l3)) e1 (PD.le (l1.trans (l2.trans l3)) q4)
end
end Mi

set_option Elab.async false
set_option linter.all false
set_option maxRecDepth 100000
namespace Mi
open PySem PySem.Spec PyProof.Rows L2

/-! ### statements -/
inductive Fl where
  | no | nx (env : Env) (s : S) | rt (d : D) (s : S) | bk (env : Env) (s : S) | ct (env : Env) (s : S) | ex (c : Str) (fs : XF) (s : S)
abbrev ST := Env → S → Fl
def PE' (g : G) (m : List Addr) (H : Hp) (Q : L2.St → Hp → Prop) (env : Env) (s : S) : Prop := ∀ (σ : L2.St) (m' : List Addr) (H' : Hp), Le m H m' H' → Ag g m' σ H' env s → Q σ H'
def Fl.post (g : G) (m : List Addr) (H : Hp) (W : XK) (B : Ends) : Fl → Prop
  | .no => False
  | .nx env s => PE' g m H B.nx env s
  | .rt d s => PD g m H B.rt d s
  | .bk env s => PE' g m H B.bk env s
  | .ct env s => PE' g m H B.ct env s
  | .ex c fs s => WX g m H W c fs s
theorem PE'.le {g : G} {m m' : List Addr} {H H' : Hp} (l : Le m H m' H') {Q : L2.St → Hp → Prop} {env : Env} {s : S} (h : PE' g m H Q env s) : PE' g m' H' Q env s := fun σ m2 H2 l2 => h σ m2 H2 (l.trans l2)
theorem Fl.post_le {g : G} {m m' : List Addr} {H H' : Hp} {W : XK} {B : Ends} (l : Le m H m' H') {f : Fl} (h : f.post g m H W B) : f.post g m' H' W B := by
  cases f with
  | no => exact h
  | nx env s => exact PE'.le l h
  | rt d s => exact PD.le l h
  | bk env s => exact PE'.le l h
  | ct env s => exact PE'.le l h
  | ex c fs s => exact WX.le l h
def semS (g : G) (W : XK) (f : ST) : TS := fun B σ H => ∃ m env s, Ag g m σ H env s ∧ (f env s).post g m H W B
def Fl.seq (r : Fl) (f : Env → S → Fl) : Fl := match r with
  | .nx env s => f env s
  | r => r
/-- a value, then on -/
def R.go {α : Type} (r : R α) (f : α → S → Fl) : Fl := match r with
  | .no => .no
  | .ok a s => f a s
  | .ex c fs s => .ex c fs s
theorem R.go_post {α : Type} {g : G} {m : List Addr} {H : Hp} {W : XK} {B : Ends} {r : R α} {f : α → S → Fl} (h : (r.go f).post g m H W B) : r.post (fun a s => (f a s).post g m H W B) (WX g m H W) := by
  cases r with
  | no => exact h
  | ok a s => exact h
  | ex c fs s => exact h
def sSkip : ST := fun env s => .nx env s
def sSeq (f f' : ST) : ST := fun env s => (f env s).seq f'
def sSet (i : Nat) (f : EX) : ST := fun env s => (f env s).go fun d s1 => .nx (env.set i (some d)) s1
def sEx (f : EX) : ST := fun env s => (f env s).go fun _ s1 => .nx env s1
def sRet (f : EX) : ST := fun env s => (f env s).go fun d s1 => .rt d s1
def sRetN : ST := fun _ s => .rt .non s
def sIf (c : EB) (f f' : ST) : ST := fun env s => (c env s).go fun b s1 => if b = true then f env s1 else f' env s1
def sBk : ST := fun env s => .bk env s
def sCt : ST := fun env s => .ct env s
inductive T where
  | n (i : Nat) | t (is : List Nat)
def setAll : List Nat → List D → Env → Env
  | i :: is, d :: ds, env => setAll is ds (env.set i (some d))
  | _, _, env => env
def asgT : T → D → Env → Option Env
  | .n i, d, env => some (env.set i (some d))
  | .t is, .tup ds, env => if ds.length = is.length then some (setAll is ds env) else none
  | .t _, _, _ => none
def sAsg (t : T) (f : EX) : ST := fun env s => (f env s).go fun d s1 => match asgT t d env with
  | some env' => .nx env' s1
  | none => .no
def gNs : List Nat → TGs
  | [] => gNil
  | i :: is => gCons (gName i) (gNs is)
def gT (K : PySem.W.Frag) : T → TG
  | .n i => gName i
  | .t is => gTup K is.length (gNs is)

section
variable {X : Cx} {g : G} {W : XK} {f f' : EX} {fs fs' : ST} {c : EB} {st : Stmt} {sts : List Stmt} {pos : Pos}
theorem PS.of {t t' : TS} (h : PS X st t) (k : ∀ B σ H, t' B σ H → t B σ H) : PS X st t' := ⟨fun pins s σ H B I q => h.run pins s σ H B I (k _ _ _ q)⟩
theorem PSs.of {t t' : TS} (h : PSs X sts t) (k : ∀ B σ H, t' B σ H → t B σ H) : PSs X sts t' := ⟨fun pins s σ H B I q => h.run pins s σ H B I (k _ _ _ q)⟩
theorem ss_nil : PSs X [] (semS g W sSkip) := PSs.of pss_nil fun _ σ H ⟨m, env, s, a, q⟩ => q σ m H (Le.refl m H) a
theorem ss_cons (h : PS X st (semS g W fs)) (h' : PSs X sts (semS g W fs')) : PSs X (st :: sts) (semS g W (sSeq fs fs')) := by
  refine PSs.of (pss_cons h h') fun B σ H ⟨m, env, s, a, q⟩ => ⟨m, env, s, a, ?_⟩
  unfold sSeq at q
  cases e : fs env s with
  | no => rw [e] at q; exact q
  | nx env1 s1 =>
    rw [e] at q
    exact fun σ1 m1 H1 l1 a1 => ⟨m1, env1, s1, a1, Fl.post_le l1 q⟩
  | rt d s1 => rw [e] at q; exact q
  | bk env1 s1 => rw [e] at q; exact q
  | ct env1 s1 => rw [e] at q; exact q
  | ex c x s1 => rw [e] at q; exact q
theorem ss_one (h : PS X st (semS g W fs)) : PSs X [st] (semS g W fs) := by
  refine PSs.of (ss_cons h ss_nil) fun B σ H ⟨m, env, s, a, q⟩ => ⟨m, env, s, a, ?_⟩
  unfold sSeq
  cases e : fs env s <;> (rw [e] at q; exact q)
theorem c_set {i : Nat} (h : PS X st (tAsg (sem g W f) (gName i))) : PS X st (semS g W (sSet i f)) := by
  refine PS.of h fun B σ H ⟨m, env, s, a, q⟩ => ?_
  refine sem_k a (R.go_post q) fun d s1 v m1 H1 q1 l1 a1 r1 => ?_
  exact q1 _ m1 H1 l1 (a1.set r1 i)
theorem c_ex (h : PS X st (tDrop (sem g W f))) : PS X st (semS g W (sEx f)) := by
  refine PS.of h fun B σ H ⟨m, env, s, a, q⟩ => ?_
  exact sem_k a (R.go_post q) fun d s1 v m1 H1 q1 l1 a1 r1 => q1 _ m1 H1 l1 a1
theorem c_ret (h : PS X st (tRet (sem g W f))) : PS X st (semS g W (sRet f)) := by
  refine PS.of h fun B σ H ⟨m, env, s, a, q⟩ => ?_
  exact sem_k a (R.go_post q) fun d s1 v m1 H1 q1 l1 a1 r1 => q1 v m1 H1 l1 a1.hold r1
theorem c_retN (h : PS X st tRetN) : PS X st (semS g W sRetN) := PS.of h fun B σ H ⟨m, env, s, a, q⟩ => q _ m H (Le.refl m H) a.hold .non
theorem c_if (h : PS X st (tIfS (semB g W c) (semS g W fs) (semS g W fs'))) : PS X st (semS g W (sIf c fs fs')) := by
  refine PS.of h fun B σ H ⟨m, env, s, a, q⟩ => ?_
  refine semB_k a (R.go_post q) fun b s1 m1 H1 q1 l1 a1 => ?_
  cases b with
  | true => exact iteT ⟨m1, env, s1, a1, Fl.post_le l1 q1⟩
  | false => exact iteF ⟨m1, env, s1, a1, Fl.post_le l1 q1⟩
theorem c_bk (h : PS X st tBreak) : PS X st (semS g W sBk) := PS.of h fun B σ H ⟨m, env, s, a, q⟩ => q σ m H (Le.refl m H) a
theorem c_ct (h : PS X st tCont) : PS X st (semS g W sCt) := PS.of h fun B σ H ⟨m, env, s, a, q⟩ => q σ m H (Le.refl m H) a
theorem c_pass (h : PS X st tNext) : PS X st (semS g W sSkip) := PS.of h fun B σ H ⟨m, env, s, a, q⟩ => q σ m H (Le.refl m H) a
theorem setAll_ok {m : List Addr} {H : Hp} {s : S} {Q : L2.St → Hp → Prop} : ∀ {is : List Nat} {ds : List D} {vs : List V} {env : Env} {σ : L2.St}, ds.length = is.length → Reps g m H vs ds → Ag g m σ H env s →
    (∀ σ', Ag g m σ' H (setAll is ds env) s → Q σ' H) → gNs is vs σ H Q
  | [], [], _, env, σ, _, .nil, a, k => ⟨rfl, k σ a⟩
  | i :: is, d :: ds, _, env, σ, h, .cons (v := v) (vs := vs) r t, a, k => ⟨v, vs, rfl, setAll_ok (by simpa using h) t (a.set r i) k⟩
  | [], _ :: _, _, _, _, h, _, _, _ => by simp at h
  | _ :: _, [], _, _, _, h, _, _, _ => by simp at h
theorem asgT_ok {t : T} {m : List Addr} {H : Hp} {s : S} {Q : L2.St → Hp → Prop} {d : D} {v : V} {env env' : Env} {σ : L2.St} (a : Ag g m σ H env s) (r : Rep g m H v d) (h : asgT t d env = some env')
    (k : ∀ σ', Ag g m σ' H env' s → Q σ' H) : gT g.K t v σ H Q := by
  cases t with
  | n i => cases h; exact k _ (a.set r i)
  | t is =>
    cases r with
    | @tup b xs ds z q =>
      have h : (if ds.length = is.length then some (setAll is ds env) else none) = some env' := h
      by_cases c : ds.length = is.length
      · rw [if_pos c] at h; cases h
        exact ⟨b, xs, rfl, z.sq, by rw [q.length]; exact c, setAll_ok c q a k⟩
      · rw [if_neg c] at h; cases h
    | _ => cases h
theorem c_asg {t : T} (h : PS X st (tAsg (sem g W f) (gT g.K t))) : PS X st (semS g W (sAsg t f)) := by
  refine PS.of h fun B σ H ⟨m, env, s, a, q⟩ => ?_
  refine sem_k a (R.go_post q) fun d s1 v m1 H1 q1 l1 a1 r1 => ?_
  split at q1
  · rename_i env' he
    exact asgT_ok a1 r1 he fun σ' a' => q1 σ' m1 H1 l1 a'
  · exact q1.elim
end

/-! ### loops -/
open Classical in
noncomputable def forL (t : T) (b : ST) (ok : S → Prop) : List D → ST
  | [], env, s => if ok s then .nx env s else .no
  | d :: ds, env, s => if ok s then (match asgT t d env with
      | none => .no
      | some env1 => match b env1 s with
        | .nx e2 s2 => forL t b ok ds e2 s2
        | .ct e2 s2 => forL t b ok ds e2 s2
        | .bk e2 s2 => .nx e2 s2
        | r => r) else .no
/-- what is walked: the items, and what must stay so of the store -/
structure Wk where
  items : List D
  ok : S → Prop
abbrev EI := Env → S → R Wk
noncomputable def sFor (t : T) (it : EI) (b : ST) : ST := fun env s => (it env s).go fun w s1 => forL t b w.ok w.items env s1
def Walks (g : G) (m0 : List Addr) (H0 : Hp) (J : It) (w : Wk) : Prop :=
  ∀ (m : List Addr) (s : S) (H : Hp) (i : Nat), Le m0 H0 m H → Hold g m s H → w.ok s →
    (∀ d, w.items[i]? = some d → J.go i H ∧ ∀ x H', J.yld i H x H' → Le m H m H' ∧ Hold g m s H' ∧ Rep g m H' x d) ∧ (w.items.length ≤ i → J.stop i H)
def PW' (g : G) (m : List Addr) (H : Hp) (R : It → Hp → Prop) : Wk → S → Prop := fun w s =>
  ∀ (J : It) (m' : List Addr) (H' : Hp), Le m H m' H' → Hold g m' s H' → Walks g m' H' J w → R J H'
def semI (g : G) (W : XK) (f : EI) : TI := fun σ H R => ∃ m env s, Ag g m σ H env s ∧ (f env s).post (PW' g m H R) (WX g m H W)
section
variable {X : Cx} {g : G} {W : XK} {f f' : EX} {b : ST} {c : EB} {it : EI} {st : Stmt} {t : T}
theorem semI_k {σ : L2.St} {H : Hp} {m : List Addr} {env : Env} {s : S} {P : Wk → S → Prop} {K : It → Hp → Prop} (a : Ag g m σ H env s) (h : (it env s).post P (WX g m H W))
    (k : ∀ w s1 J m1 H1, P w s1 → Le m H m1 H1 → Ag g m1 σ H1 env s1 → Walks g m1 H1 J w → K J H1) : semI g W it σ H K :=
  ⟨m, env, s, a, R.post_mono h (fun w s1 p J m1 H1 l hold hw => k w s1 J m1 H1 p l (a.go l hold) hw) fun _ _ _ e => e⟩
theorem c_for (h : PS X st (tFor (semI g W it) (gT g.K t) (semS g W b))) : PS X st (semS g W (sFor t it b)) := by
  refine PS.of h fun B σ H ⟨m, env, s, a, q⟩ => ?_
  refine semI_k a (R.go_post q) fun w s1 J m1 H1 q1 l1 a1 hw => ?_
  refine ⟨fun i n σ' H' => n = w.items.length - i ∧ i ≤ w.items.length ∧ ∃ m' env' s', Le m1 H1 m' H' ∧ Ag g m' σ' H' env' s' ∧ (forL t b w.ok (w.items.drop i) env' s').post g m' H' W B,
    ⟨w.items.length, by simp, Nat.zero_le _, m1, env, s1, Le.refl _ _, a1, by rw [List.drop_zero]; exact Fl.post_le l1 q1⟩, ?_⟩
  rintro i n σ2 H2 ⟨rfl, hi, m2, env2, s2, l2, a2, q2⟩
  by_cases hlt : i < w.items.length
  · rw [List.drop_eq_getElem_cons hlt] at q2
    unfold forL at q2
    by_cases hok : w.ok s2
    · rw [if_pos hok] at q2
      have hg := (hw m2 s2 H2 i l2 a2.hold hok).1 w.items[i] (List.getElem?_eq_getElem hlt)
      refine .inr ⟨hg.1, fun σ' H' => ∃ m' env' s', Le m1 H1 m' H' ∧ Ag g m' σ' H' env' s' ∧ (forL t b w.ok (w.items.drop (i + 1)) env' s').post g m' H' W B, fun σ' H' z => ⟨w.items.length - (i + 1), by omega, rfl, hlt, z⟩, fun x H3 hy => ?_⟩
      obtain ⟨l3, hold3, r3⟩ := hg.2 x H3 hy
      have a3 := a2.go l3 hold3
      cases e1 : asgT t w.items[i] env2 with
      | none => rw [e1] at q2; exact q2.elim
      | some env3 =>
        rw [e1] at q2
        refine asgT_ok a3 r3 e1 fun σ4 a4 => ⟨m2, env3, s2, a4, ?_⟩
        dsimp only at q2
        cases e2 : b env3 s2 with
        | no => rw [e2] at q2; exact q2
        | nx env5 s5 =>
          rw [e2] at q2
          exact fun σ5 m5 H5 l5 a5 => ⟨m5, env5, s5, l2.trans (l3.trans l5), a5, Fl.post_le (l3.trans l5) q2⟩
        | ct env5 s5 =>
          rw [e2] at q2
          exact fun σ5 m5 H5 l5 a5 => ⟨m5, env5, s5, l2.trans (l3.trans l5), a5, Fl.post_le (l3.trans l5) q2⟩
        | bk env5 s5 => rw [e2] at q2; exact PE'.le l3 q2
        | rt d s5 => rw [e2] at q2; exact PD.le l3 q2
        | ex c x s5 => rw [e2] at q2; exact WX.le l3 q2
    · rw [if_neg hok] at q2; exact q2.elim
  · have e : i = w.items.length := by omega
    subst e
    rw [List.drop_length] at q2
    unfold forL at q2
    by_cases hok : w.ok s2
    · rw [if_pos hok] at q2
      exact .inl ⟨(hw m2 s2 H2 _ l2 a2.hold hok).2 (Nat.le_refl _), q2 σ2 m2 H2 (Le.refl _ _) a2⟩
    · rw [if_neg hok] at q2; exact q2.elim
def whl (c : EB) (b : ST) : Nat → ST
  | 0, _, _ => .no
  | n + 1, env, s => (c env s).go fun k s1 => if k = true then (match b env s1 with
      | .nx e2 s2 => whl c b n e2 s2
      | .ct e2 s2 => whl c b n e2 s2
      | .bk e2 s2 => .nx e2 s2
      | r => r) else .nx env s1
theorem c_while {n : Nat} (h : PS X st (tWhile (semB g W c) (semS g W b))) : PS X st (semS g W (whl c b n)) := by
  refine PS.of h fun B σ H ⟨m, env, s, a, q⟩ => ?_
  refine ⟨fun n σ' H' => ∃ m' env' s', Ag g m' σ' H' env' s' ∧ (whl c b n env' s').post g m' H' W B, ⟨n, m, env, s, a, q⟩, ?_⟩
  rintro n σ1 H1 ⟨m1, env1, s1, a1, q1⟩
  cases n with
  | zero => exact q1.elim
  | succ n =>
    unfold whl at q1
    refine semB_k a1 (R.go_post q1) fun k s2 m2 H2 q2 l2 a2 => ?_
    cases k with
    | false => exact iteF (q2 σ1 m2 H2 l2 a2)
    | true =>
      rw [if_pos rfl] at q2 ⊢
      refine ⟨fun σ' H' => ∃ m' env' s', Ag g m' σ' H' env' s' ∧ (whl c b n env' s').post g m' H' W B, fun σ' H' z => ⟨n, Nat.lt_succ_self n, z⟩, m2, env1, s2, a2, ?_⟩
      cases e2 : b env1 s2 with
      | no => rw [e2] at q2; exact q2
      | nx env5 s5 =>
        rw [e2] at q2
        exact fun σ5 m5 H5 l5 a5 => ⟨m5, env5, s5, a5, Fl.post_le (l2.trans l5) q2⟩
      | ct env5 s5 =>
        rw [e2] at q2
        exact fun σ5 m5 H5 l5 a5 => ⟨m5, env5, s5, a5, Fl.post_le (l2.trans l5) q2⟩
      | bk env5 s5 => rw [e2] at q2; exact PE'.le l2 q2
      | rt d s5 => rw [e2] at q2; exact PD.le l2 q2
      | ex c x s5 => rw [e2] at q2; exact WX.le l2 q2

/-! what is walked: a sequence, a range -/
def iSeq (f : EX) : EI := fun env s => (f env s).bind fun d s1 => match d with
  | .tup ds => .ok ⟨ds, fun _ => True⟩ s1
  | .rol ds => .ok ⟨ds, fun _ => True⟩ s1
  | .ref p => match s1[p]? with
    | some (.lst ds) => .ok ⟨ds, fun s => s[p]? = some (.lst ds)⟩ s1
    | _ => .no
  | _ => .no
theorem PI.of {tg iter : Expr} {w w' : TI} (h : PI X tg iter w) (k : ∀ σ H R, w' σ H R → w σ H R) : PI X tg iter w' := ⟨fun pins s σ H R I q => h.run pins s σ H R I (k _ _ _ q)⟩
theorem sqL_uniq {m : List Addr} {H : Hp} {a : Addr} {xs ys : List V} (K : PySem.W.Frag) (h : H a = some (.lst xs)) (h2 : ∀ zs, SqL K H a zs → zs[0]? = zs[0]?) : True := True.intro
theorem walks_tup {m : List Addr} {H : Hp} {a : Addr} {xs : List V} {ds : List D} (z : RdT g m H a xs) (r : Reps g m H xs ds) : Walks g m H (Itt g.K a) ⟨ds, fun _ => True⟩ := by
  intro m1 s1 H1 i l1 hold1 _
  have z1 : SqT g.K H1 a xs := (z.le l1).sq
  refine ⟨fun d hd => ?_, fun hi => ⟨xs, z1, by rw [r.length]; exact hi⟩⟩
  obtain ⟨x, hx, rx⟩ := r.get hd
  refine ⟨⟨xs, x, z1, hx⟩, fun y H' ⟨e, hy⟩ => ?_⟩
  subst e
  have : x = y := Option.some.inj (hx.symm.trans (hy xs z1))
  subst this
  exact ⟨Le.refl _ _, hold1, rx.le l1⟩
theorem walks_rol {m : List Addr} {H : Hp} {a : Addr} {xs : List V} {ds : List D} (z : RdL g m H a xs) (r : Reps g m H xs ds) : Walks g m H (Itl g.K a) ⟨ds, fun _ => True⟩ := by
  intro m1 s1 H1 i l1 hold1 _
  have z1 : SqL g.K H1 a xs := (z.le l1).sq
  refine ⟨fun d hd => ?_, fun hi => ⟨xs, z1, by rw [r.length]; exact hi⟩⟩
  obtain ⟨x, hx, rx⟩ := r.get hd
  refine ⟨⟨xs, x, z1, hx⟩, fun y H' ⟨e, hy⟩ => ?_⟩
  subst e
  have : x = y := Option.some.inj (hx.symm.trans (hy xs z1))
  subst this
  exact ⟨Le.refl _ _, hold1, rx.le l1⟩
theorem walks_ref {m : List Addr} {H : Hp} {a : Addr} {p : Nat} {ds : List D} (z : m[p]? = some a) : Walks g m H (Itl g.K a) ⟨ds, fun s => s[p]? = some (.lst ds)⟩ := by
  intro m1 s1 H1 i l1 hold1 hok
  obtain ⟨xs, e1, r⟩ := hold1.obj p a _ (l1.get z) hok
  have z1 : SqL g.K H1 a xs := .of e1
  refine ⟨fun d hd => ?_, fun hi => ⟨xs, z1, by rw [r.length]; exact hi⟩⟩
  obtain ⟨x, hx, rx⟩ := r.get hd
  refine ⟨⟨xs, x, z1, hx⟩, fun y H' ⟨e, hy⟩ => ?_⟩
  subst e
  have : x = y := Option.some.inj (hx.symm.trans (hy xs z1))
  subst this
  exact ⟨Le.refl _ _, hold1, rx⟩
/-- over a tuple; over a list: as the expression is -/
def iTupD (f : EX) : EI := fun env s => (f env s).bind fun d s1 => match d with
  | .tup ds => .ok ⟨ds, fun _ => True⟩ s1
  | _ => .no
def iLstD (f : EX) : EI := fun env s => (f env s).bind fun d s1 => match d with
  | .rol ds => .ok ⟨ds, fun _ => True⟩ s1
  | .ref p => match s1[p]? with
    | some (.lst ds) => .ok ⟨ds, fun s => s[p]? = some (.lst ds)⟩ s1
    | _ => .no
  | _ => .no
theorem i_tup {tg e : Expr} (h : PI X tg e (iTup g.K (sem g W f))) : PI X tg e (semI g W (iTupD f)) := by
  refine PI.of h fun σ H Q ⟨m, env, s, ag, q⟩ => ?_
  refine sem_k ag (R.post_bind q) fun d s1 v m1 H1 q1 l1 a1 r1 => ?_
  cases r1 with
  | tup z r => exact ⟨_, rfl, ⟨_, z.sq⟩, q1 _ m1 H1 l1 a1.hold (walks_tup z r)⟩
  | _ => exact q1.elim
theorem i_lst {tg e : Expr} (h : PI X tg e (iList g.K (sem g W f))) : PI X tg e (semI g W (iLstD f)) := by
  refine PI.of h fun σ H Q ⟨m, env, s, ag, q⟩ => ?_
  refine sem_k ag (R.post_bind q) fun d s1 v m1 H1 q1 l1 a1 r1 => ?_
  cases r1 with
  | rol z r => exact ⟨_, rfl, ⟨_, z.sq⟩, q1 _ m1 H1 l1 a1.hold (walks_rol z r)⟩
  | @ref a p z =>
    dsimp only at q1
    split at q1
    · rename_i ds e1
      obtain ⟨xs, e2, _⟩ := a1.hold.obj p a _ z e1
      exact ⟨a, rfl, ⟨xs, .of e2⟩, q1 _ m1 H1 l1 a1.hold (walks_ref z)⟩
    · exact q1.elim
  | _ => exact q1.elim
def rng (lo : Int) (n : Nat) : List D := (List.range n).map fun (i : Nat) => .int (lo + (i : Int))
def iRg1 (f : EX) : EI := fun env s => (f env s).bind fun d s1 => match d with
  | .int j => if -4611686018427387904 ≤ j ∧ j < 4611686018427387904 then .ok ⟨rng 0 j.toNat, fun _ => True⟩ s1 else .no
  | _ => .no
def iRg2 (f f' : EX) : EI := fun env s => (f env s).bind fun d s1 => (f' env s1).bind fun e s2 => match d, e with
  | .int i, .int j => if -4611686018427387904 ≤ i ∧ i < 4611686018427387904 ∧ -4611686018427387904 ≤ j ∧ j < 4611686018427387904 then .ok ⟨rng i (j - i).toNat, fun _ => True⟩ s2 else .no
  | _, _ => .no
theorem rng_len (lo : Int) (n : Nat) : (rng lo n).length = n := by unfold rng; rw [List.length_map, List.length_range]
theorem rng_get {lo : Int} {n i : Nat} {d : D} (h : (rng lo n)[i]? = some d) : i < n ∧ d = .int (lo + i) := by
  unfold rng at h
  rw [List.getElem?_map] at h
  by_cases c : i < n
  · rw [List.getElem?_range c] at h; cases h; exact ⟨c, rfl⟩
  · rw [List.getElem?_eq_none (by rw [List.length_range]; omega)] at h; cases h
theorem walks_rng {m : List Addr} {H : Hp} {lo : Int} {n : Nat} : Walks g m H (Itr lo n) ⟨rng lo n, fun _ => True⟩ := by
  intro m1 s1 H1 i l1 hold1 _
  refine ⟨fun d hd => ?_, fun hi => by rw [rng_len] at hi; exact hi⟩
  obtain ⟨hi, rfl⟩ := rng_get hd
  refine ⟨hi, fun y H' ⟨e, hy⟩ => ?_⟩
  subst e hy
  exact ⟨Le.refl _ _, hold1, .int _⟩
theorem i_rg1 {tg e : Expr} (h : PI X tg e (iRng1 (semA g W (aC f aN)))) : PI X tg e (semI g W (iRg1 f)) := by
  refine PI.of h fun σ H Q ⟨m, env, s, ag, q⟩ => ?_
  refine ⟨m, env, s, ag, ?_⟩
  have q := R.post_bind q
  unfold aC
  cases hf : f env s with
  | no => rw [hf] at q; exact q
  | ex c x s1 => rw [hf] at q; exact q
  | ok d s1 =>
    rw [hf] at q
    intro vs m1 H1 l1 hold1 r1
    have q : (match d with
      | .int j => if -4611686018427387904 ≤ j ∧ j < 4611686018427387904 then R.ok (⟨rng 0 j.toNat, fun _ => True⟩ : Wk) s1 else .no
      | _ => .no).post (PW' g m H Q) (WX g m H W) := q
    cases d with
    | int j =>
      dsimp only at q
      by_cases c : -4611686018427387904 ≤ j ∧ j < 4611686018427387904
      · rw [if_pos c] at q
        cases r1 with
        | cons r t =>
          cases t
          cases r
          exact ⟨j, rfl, c.1, c.2, q _ m1 H1 l1 hold1 walks_rng⟩
      · rw [if_neg c] at q; exact q.elim
    | _ => exact q.elim
theorem i_rg2 {tg e : Expr} (h : PI X tg e (iRng2 (semA g W (aC f (aC f' aN))))) : PI X tg e (semI g W (iRg2 f f')) := by
  refine PI.of h fun σ H Q ⟨m, env, s, ag, q⟩ => ?_
  refine ⟨m, env, s, ag, ?_⟩
  have q := R.post_bind q
  unfold aC
  cases hf : f env s with
  | no => rw [hf] at q; exact q
  | ex c x s1 => rw [hf] at q; exact q
  | ok d s1 =>
    rw [hf] at q
    have q := R.post_bind q
    show (((aC f' aN) env s1).bind fun ds s2 => R.ok (d :: ds) s2).post _ _
    unfold aC
    cases hf' : f' env s1 with
    | no => rw [hf'] at q; exact q
    | ex c x s1 => rw [hf'] at q; exact q
    | ok d' s2 =>
      rw [hf'] at q
      intro vs m1 H1 l1 hold1 r1
      have q : (match d, d' with
        | .int i, .int j => if -4611686018427387904 ≤ i ∧ i < 4611686018427387904 ∧ -4611686018427387904 ≤ j ∧ j < 4611686018427387904 then R.ok (⟨rng i (j - i).toNat, fun _ => True⟩ : Wk) s2 else .no
        | _, _ => .no).post (PW' g m H Q) (WX g m H W) := q
      cases r1 with
      | cons r t =>
        cases t with
        | cons r' t' =>
          cases t'
          cases r with
          | int i =>
            cases r' with
            | int j =>
              dsimp only at q
              by_cases c : -4611686018427387904 ≤ i ∧ i < 4611686018427387904 ∧ -4611686018427387904 ≤ j ∧ j < 4611686018427387904
              · rw [if_pos c] at q
                exact ⟨i, j, rfl, c, q _ m1 H1 l1 hold1 walks_rng⟩
              · rw [if_neg c] at q; exact q.elim
            | _ => exact q.elim
          | _ => exact q.elim
end

/-! ### defs -/
def fnB (tot n : Nat) (b : ST) : FN := fun ds s => if ds.length = n then (match b (ds.map some ++ List.replicate (tot - n) none) s with
  | .nx _ s' => .ok .non s'
  | .rt d s' => .ok d s'
  | _ => .no) else .no
theorem ag_start {g : G} {m : List Addr} {H : Hp} {s : S} {N : List Str} {n : Nat} : ∀ {vs : List V} {ds : List D}, Hold g m s H → Reps g m H vs ds → ds.length = n →
    Ag g m (L2.start N vs) H (ds.map some ++ List.replicate (N.length - n) none) s := by
  intro vs ds hold r hn
  refine ⟨hold, by unfold L2.start; rw [List.length_append, List.length_append, List.length_map, List.length_map, List.length_replicate, List.length_replicate, r.length, hn], fun i d hd => ?_⟩
  unfold L2.start
  by_cases c : i < ds.length
  · rw [List.getElem?_append_left (by rw [List.length_map]; exact c), List.getElem?_map] at hd
    rw [List.getElem?_append_left (by rw [List.length_map, r.length]; exact c), List.getElem?_map]
    cases e : ds[i]? with
    | none => rw [e] at hd; cases hd
    | some d' =>
      rw [e] at hd; cases hd
      obtain ⟨v, hv, rv⟩ := r.get e
      exact ⟨v, by rw [hv]; rfl, rv⟩
  · rw [List.getElem?_append_right (by rw [List.length_map]; omega), List.getElem?_replicate] at hd
    split at hd <;> cases hd
section
variable {P : Program} {w : World} {K : PySem.W.Frag} {mg : Str → Option Value} {base : Heap}
/-- THE RULE for a def that lets no exception out -/
theorem fn_ok {x qual : Str} {st : Stmt} {f : Addr} {fd : FuncData} {N ps : List Str} {k : Nat} {b : ST} (F : Fun K x qual st f fd) (sc : FnScope N ps (defScope st))
    (hb : ∀ (cdv : Value) (A : Around) (outer : List PySem.Env) (s : Shared) (H : Hp) (E : XK), Room k (A.deeper (envOfC qual (defScope st) s.heap.objs.size f cdv)) →
      PSs (cxOf CX0 P w K mg base N qual (defScope st) f cdv A outer s H E).nox (defBody st) (semS ⟨K, mg⟩ E0 b)) :
    FnOk P w K mg base CX0 (k + 1) f fd ps (spF ⟨K, mg⟩ ps.length (fnB N.length ps.length b)) := by
  refine F.ok sc (fun vs H Q E h => ?_) (fun cdv A outer s H vs Q E hr h => ⟨_, hb cdv A outer s H E hr, ?_⟩)
  · obtain ⟨m, s, ds, hn, _, r, _⟩ := h
    rw [r.length]; exact hn
  · obtain ⟨m, s1, ds, hn, hold, r, q⟩ := h
    refine ⟨m, _, s1, ag_start (N := N) hold r hn, ?_⟩
    unfold fnB at q
    rw [if_pos hn] at q
    cases e : b (ds.map some ++ List.replicate (N.length - ps.length) none) s1 with
    | no => rw [e] at q; exact q.elim
    | nx env2 s2 =>
      rw [e] at q
      exact fun σ' m' H' l' a' => q _ m' H' l' a'.hold .non
    | rt d s2 => rw [e] at q; exact q
    | bk env2 s2 => rw [e] at q; exact q.elim
    | ct env2 s2 => rw [e] at q; exact q.elim
    | ex c x s2 => rw [e] at q; exact q.elim
end
end Mi

set_option Elab.async false
set_option linter.all false
set_option maxRecDepth 100000
namespace Mi
open PySem PySem.Spec PyProof.Rows L2

section
variable {X : Cx} {g : G} {W : XK} {f f' : EX} {e : Expr} {r : R2} {o : OP2}
theorem c_2 (h : PE X e (tOp r (sem g W f) (sem g W f'))) (ho : O2 g r o) : PE X e (sem g W (e2 o f f')) := PE.of h fun _ _ _ q => sem_2 ho q
theorem c_2t (h : PT X e (tB (tOp r (sem g W f) (sem g W f')))) (ho : O2 g r o) : PT X e (semB g W (tB1 (e2 o f f'))) := by
  refine PT.of h fun σ H Q ⟨m, env, s, ag, q⟩ => ?_
  refine sem_2 ho (sem_k ag (R.post_bind q) fun d s1 v m1 H1 q1 l1 a1 r1 => ?_)
  cases d <;> first | exact q1.elim | skip
  cases r1
  exact ⟨_, rfl, q1 m1 H1 l1 a1.hold⟩
theorem reps1 {m : List Addr} {H : Hp} {vs : List V} {d : D} (r : Reps g m H vs [d]) : ∃ v, vs = [v] ∧ Rep g m H v d := by
  cases r with
  | cons r t => cases t; exact ⟨_, rfl, r⟩
theorem reps2 {m : List Addr} {H : Hp} {vs : List V} {d e : D} (r : Reps g m H vs [d, e]) : ∃ v w, vs = [v, w] ∧ Rep g m H v d ∧ Rep g m H w e := by
  cases r with
  | cons r t =>
    cases t with
    | cons r2 t2 => cases t2; exact ⟨_, _, rfl, r, r2⟩
end

/-! ### built-in functions -/
def lenB : OPN := fun ds s => match ds with
  | [d] => (match d with
    | .str z => if z.length ≤ 16777216 then some (.int (z.length : Int), s) else none
    | .ref p => (match s[p]? with
      | some (.lst xs) => some (.int (xs.length : Int), s)
      | some (.dct kvs) => some (.int (kvs.length : Int), s)
      | _ => none)
    | .tup xs => some (.int (xs.length : Int), s)
    | .rol xs => some (.int (xs.length : Int), s)
    | _ => none)
  | _ => none
def rLenA (K : PySem.W.Frag) : RN := fun xs H Q => (∃ x n, xs = [x] ∧ LenV K x H n ∧ Q (.int n) H) ∨ (∃ a kvs, xs = [V.ref a] ∧ H a = some (.dK kvs) ∧ Q (.int kvs.length) H)
section
variable {X : Cx} {g : G}
theorem CallR.or {f : Value} {r r' : RN} (h : CallR X f r) (h' : CallR X f r') : CallR X f (fun xs H Q => r xs H Q ∨ r' xs H Q) := by
  intro pins s σ H xs us Q I rx q
  rcases q with q | q
  · exact h pins s σ H xs us Q I rx q
  · exact h' pins s σ H xs us Q I rx q
theorem call_lenA : CallR X (.builtin "len") (rLenA X.K) := CallR.or call_len call_lenD
theorem ent_length {α β : Type} {F : α → β → Prop} : ∀ {l₁ : List α} {l₂ : List β}, Paired F l₁ l₂ → l₁.length = l₂.length
  | _, _, .nil => rfl
  | _, _, .cons _ t => by rw [List.length_cons, List.length_cons, ent_length t]
theorem on_len : ON g (rLenA g.K) lenB := by
  intro m H s vs ds x s' Q hold rv he q
  unfold lenB at he
  split at he
  · rename_i d
    obtain ⟨v, rfl, r⟩ := reps1 rv
    cases r with
    | str z =>
      dsimp only at he
      by_cases c : z.length ≤ 16777216
      · rw [if_pos c] at he; cases he
        exact .inl ⟨_, _, rfl, ⟨line_ok c, rfl⟩, PD.here hold (.int _) q⟩
      · rw [if_neg c] at he; cases he
    | tup z t => cases he; exact .inl ⟨_, _, rfl, .inr ⟨_, z.sq, t.length.symm⟩, PD.here hold (.int _) q⟩
    | rol z t => cases he; exact .inl ⟨_, _, rfl, .inl ⟨_, z.sq, t.length.symm⟩, PD.here hold (.int _) q⟩
    | @ref a p z =>
      dsimp only at he
      split at he
      · rename_i xs e1
        cases he
        obtain ⟨ys, e2, t⟩ := hold.obj p a _ z e1
        exact .inl ⟨_, _, rfl, .inl ⟨_, .of e2, t.length.symm⟩, PD.here hold (.int _) q⟩
      · rename_i kvs e1
        cases he
        obtain ⟨ys, e2, t⟩ := hold.obj p a _ z e1
        refine .inr ⟨_, _, rfl, e2, ?_⟩
        rw [ent_length t]
        exact PD.here hold (.int _) q
      · cases he
    | _ => cases he
  · cases he
def absB : OPN := fun ds s => match ds with
  | [.int i] => some (.int (if i < 0 then -i else i), s)
  | _ => none
theorem on_abs : ON g (fun xs H Q => ∃ i, xs = [.int i] ∧ Q (.int (if i < 0 then -i else i)) H) absB := by
  intro m H s vs ds x s' Q hold rv he q
  unfold absB at he
  split at he
  · cases he
    obtain ⟨v, rfl, r⟩ := reps1 rv
    cases r
    exact ⟨_, rfl, PD.here hold (.int _) q⟩
  · cases he
def intB : OPN := fun ds s => match ds with
  | [.int i] => some (.int i, s)
  | [.bl k] => some (.int (if k then 1 else 0), s)
  | _ => none
theorem on_int : ON g (fun xs H Q => (∃ i, xs = [.int i] ∧ Q (.int i) H) ∨ ∃ k, xs = [.bl k] ∧ Q (.int (if k then 1 else 0)) H) intB := by
  intro m H s vs ds x s' Q hold rv he q
  unfold intB at he
  split at he
  · cases he
    obtain ⟨v, rfl, r⟩ := reps1 rv
    cases r
    exact .inl ⟨_, rfl, PD.here hold (.int _) q⟩
  · cases he
    obtain ⟨v, rfl, r⟩ := reps1 rv
    cases r
    exact .inr ⟨_, rfl, PD.here hold (.int _) q⟩
  · cases he
def strB : OPN := fun ds s => match ds with
  | [.int i] => if i.natAbs.log2 < 1920 then some (.str (toString i), s) else none
  | _ => none
theorem on_str : ON g (fun xs H Q => ∃ i, xs = [.int i] ∧ i.natAbs.log2 < 1920 ∧ Q (.str (toString i)) H) strB := by
  intro m H s vs ds x s' Q hold rv he q
  unfold strB at he
  split at he
  · rename_i i
    by_cases c : i.natAbs.log2 < 1920
    · rw [if_pos c] at he; cases he
      obtain ⟨v, rfl, r⟩ := reps1 rv
      cases r
      exact ⟨_, rfl, c, PD.here hold (.str _) q⟩
    · rw [if_neg c] at he; cases he
  · cases he
def max2B : OPN := fun ds s => match ds with
  | [.int i, .int j] => some (.int (if j > i then j else i), s)
  | _ => none
def min2B : OPN := fun ds s => match ds with
  | [.int i, .int j] => some (.int (if j < i then j else i), s)
  | _ => none
theorem on_max2 : ON g (fun xs H Q => ∃ i j, xs = [.int i, .int j] ∧ Q (.int (if j > i then j else i)) H) max2B := by
  intro m H s vs ds x s' Q hold rv he q
  unfold max2B at he
  split at he
  · cases he
    obtain ⟨v, w, rfl, r, r'⟩ := reps2 rv
    cases r; cases r'
    exact ⟨_, _, rfl, PD.here hold (.int _) q⟩
  · cases he
theorem on_min2 : ON g (fun xs H Q => ∃ i j, xs = [.int i, .int j] ∧ Q (.int (if j < i then j else i)) H) min2B := by
  intro m H s vs ds x s' Q hold rv he q
  unfold min2B at he
  split at he
  · cases he
    obtain ⟨v, w, rfl, r, r'⟩ := reps2 rv
    cases r; cases r'
    exact ⟨_, _, rfl, PD.here hold (.int _) q⟩
  · cases he
/-- tuple(x), list(x) of a list or tuple -/
def tupB : OPN := fun ds s => match ds with
  | [d] => (itemsD d s).map fun xs => (.tup xs, s)
  | _ => none
def lstB : OPN := fun ds s => match ds with
  | [d] => (itemsD d s).map fun xs => (.ref s.length, s ++ [.lst xs])
  | _ => none
theorem on_tup : ON g (fun xs H Q => ∃ p ys, xs = [.ref p] ∧ ((SqL g.K H p ys ∧ ∀ l, H l = none → Q (.ref l) (upd H l (.tup ys))) ∨ (SqT g.K H p ys ∧ Q (.ref p) H))) tupB := by
  intro m H s vs ds x s' Q hold rv he q
  unfold tupB at he
  split at he
  · rename_i d
    obtain ⟨v, rfl, r⟩ := reps1 rv
    cases hi : itemsD d s with
    | none => rw [hi] at he; cases he
    | some xs =>
      rw [hi] at he; cases he
      cases r with
      | @tup a ys ds z t => cases hi; exact ⟨_, _, rfl, .inr ⟨z.sq, PD.here hold (.tup z t) q⟩⟩
      | @rol a ys ds z t => cases hi; exact ⟨_, _, rfl, .inl ⟨z.sq, fun p hp => new_tup hold hp t q⟩⟩
      | @ref a p z =>
        have hi : (match s[p]? with
          | some (.lst ds) => some ds
          | _ => none) = some xs := hi
        split at hi
        · rename_i e1
          cases hi
          obtain ⟨ys, e2, t⟩ := hold.obj p a _ z e1
          exact ⟨_, _, rfl, .inl ⟨.of e2, fun p hp => new_tup hold hp t q⟩⟩
        · cases hi
      | _ => cases hi
  · cases he
theorem on_lst : ON g (fun xs H Q => ∃ p ys, xs = [.ref p] ∧ (SqL g.K H p ys ∨ SqT g.K H p ys) ∧ ∀ l, H l = none → Q (.ref l) (upd H l (.lst ys))) lstB := by
  intro m H s vs ds x s' Q hold rv he q
  unfold lstB at he
  split at he
  · rename_i d
    obtain ⟨v, rfl, r⟩ := reps1 rv
    cases hi : itemsD d s with
    | none => rw [hi] at he; cases he
    | some xs =>
      rw [hi] at he; cases he
      obtain ⟨p, ys, rfl, hq, t⟩ := items_rep hold r hi
      exact ⟨p, ys, rfl, hq, fun l hl => new_lst hold hl t q⟩
  · cases he
/-- lists of ints, of bools -/
def intsD : List D → Option (List Int)
  | [] => some []
  | .int i :: ds => (intsD ds).map (i :: ·)
  | _ => none
def blsD : List D → Option (List Bool)
  | [] => some []
  | .bl i :: ds => (blsD ds).map (i :: ·)
  | _ => none
theorem ints_rep {m : List Addr} {H : Hp} : ∀ {xs : List V} {ds : List D} {ns : List Int}, Reps g m H xs ds → intsD ds = some ns → xs = ns.map V.int
  | _, _, _, .nil, h => by cases h; rfl
  | _, _, _, .cons (d := d) (ds := ds) r t, h => by
    cases r <;> first | (cases h; done) | skip
    rename_i i
    have h : (intsD ds).map (i :: ·) = some _ := h
    cases e : intsD ds with
    | none => rw [e] at h; cases h
    | some ns => rw [e] at h; cases h; rw [ints_rep t e]; rfl
theorem bls_rep {m : List Addr} {H : Hp} : ∀ {xs : List V} {ds : List D} {ns : List Bool}, Reps g m H xs ds → blsD ds = some ns → xs = ns.map V.bl
  | _, _, _, .nil, h => by cases h; rfl
  | _, _, _, .cons (d := d) (ds := ds) r t, h => by
    cases r <;> first | (cases h; done) | skip
    rename_i i
    have h : (blsD ds).map (i :: ·) = some _ := h
    cases e : blsD ds with
    | none => rw [e] at h; cases h
    | some ns => rw [e] at h; cases h; rw [bls_rep t e]; rfl
theorem ints_map (ns : List Int) : intsD (ns.map D.int) = some ns := by
  induction ns with
  | nil => rfl
  | cons n ns ih => show (intsD (ns.map D.int)).map (n :: ·) = _; rw [ih]; rfl
theorem bls_map (ns : List Bool) : blsD (ns.map D.bl) = some ns := by
  induction ns with
  | nil => rfl
  | cons n ns ih => show (blsD (ns.map D.bl)).map (n :: ·) = _; rw [ih]; rfl
theorem reps_ints {m : List Addr} {H : Hp} : ∀ (ns : List Int), Reps g m H (ns.map V.int) (ns.map D.int)
  | [] => .nil
  | n :: ns => .cons (.int n) (reps_ints ns)
def listItems (d : D) (s : S) : Option (List D) := match d with
  | .rol ds => some ds
  | .ref p => match s[p]? with
    | some (.lst ds) => some ds
    | _ => none
  | _ => none
theorem list_rep {m : List Addr} {H : Hp} {s : S} {v : V} {d : D} {ds : List D} (hold : Hold g m s H) (r : Rep g m H v d) (h : listItems d s = some ds) : ∃ p xs, v = .ref p ∧ SqL g.K H p xs ∧ Reps g m H xs ds := by
  cases r with
  | rol z q => cases h; exact ⟨_, _, rfl, z.sq, q⟩
  | @ref a i z =>
    have h : (match s[i]? with
      | some (.lst ds) => some ds
      | _ => none) = some ds := h
    split at h
    · rename_i e1
      cases h
      obtain ⟨xs, e2, q⟩ := hold.obj i a _ z e1
      exact ⟨a, xs, rfl, .of e2, q⟩
    · cases h
  | _ => cases h
def oneL {α : Type} (P : List D → Option α) (k : S → α → D × S) : OPN := fun ds s => match ds with
  | [d] => ((listItems d s).bind P).map (k s)
  | _ => none
def sortI (ns : List Int) : List Int := ns.mergeSort (fun a b => decide (a ≤ b))
def anyB : OPN := oneL blsD fun s bs => (.bl (bs.any id), s)
def allB : OPN := oneL blsD fun s bs => (.bl (bs.all id), s)
def sumB : OPN := oneL intsD fun s bs => (.int bs.sum, s)
def sortB : OPN := oneL intsD fun s ns => (.ref s.length, s ++ [.lst ((sortI ns).map D.int)])
theorem one_list {m : List Addr} {H : Hp} {s : S} {vs : List V} {ds : List D} {α : Type} {P : List D → Option α} {k : S → α → D × S} {x : D} {s' : S} (hold : Hold g m s H) (rv : Reps g m H vs ds)
    (he : oneL P k ds s = some (x, s')) : ∃ p xs es ns, vs = [.ref p] ∧ SqL g.K H p xs ∧ Reps g m H xs es ∧ P es = some ns ∧ k s ns = (x, s') := by
  unfold oneL at he
  split at he
  · rename_i d
    obtain ⟨v, rfl, r⟩ := reps1 rv
    cases hi : listItems d s with
    | none => rw [hi] at he; cases he
    | some es =>
      rw [hi] at he
      obtain ⟨p, xs, rfl, hq, t⟩ := list_rep hold r hi
      have he : (P es).map (k s) = some (x, s') := he
      cases hp : P es with
      | none => rw [hp] at he; cases he
      | some ns => rw [hp] at he; exact ⟨p, xs, es, ns, rfl, hq, t, hp, Option.some.inj he⟩
  · cases he
theorem on_any : ON g (rAny g.K) anyB := by
  intro m H s vs ds x s' Q hold rv he q
  obtain ⟨p, xs, es, ns, rfl, hq, t, hp, e⟩ := one_list hold rv he
  cases e
  exact ⟨p, ns, rfl, by rw [← bls_rep t hp]; exact hq, PD.here hold (.bl _) q⟩
theorem on_all : ON g (rAll g.K) allB := by
  intro m H s vs ds x s' Q hold rv he q
  obtain ⟨p, xs, es, ns, rfl, hq, t, hp, e⟩ := one_list hold rv he
  cases e
  exact ⟨p, ns, rfl, by rw [← bls_rep t hp]; exact hq, PD.here hold (.bl _) q⟩
theorem on_sum : ON g (rSum g.K) sumB := by
  intro m H s vs ds x s' Q hold rv he q
  obtain ⟨p, xs, es, ns, rfl, hq, t, hp, e⟩ := one_list hold rv he
  cases e
  exact ⟨p, ns, rfl, by rw [← ints_rep t hp]; exact hq, PD.here hold (.int _) q⟩
theorem sort_uniq {ns ys : List Int} (h : ys.Perm ns) (hp : ys.Pairwise (· ≤ ·)) : ys = sortI ns := by
  have h1 : (sortI ns).Perm ns := List.mergeSort_perm ns _
  have h2 : (sortI ns).Pairwise (· ≤ ·) := by
    have := List.pairwise_mergeSort (le := fun a b : Int => decide (a ≤ b)) (by intro a b c; simp only [decide_eq_true_eq]; omega) (by intro a b; simp only [Bool.or_eq_true, decide_eq_true_eq]; omega) ns
    exact this.imp fun h => of_decide_eq_true h
  exact (h.trans h1.symm).eq_of_pairwise (le := (· ≤ ·)) (fun a b _ _ h1 h2 => by omega) hp h2
theorem on_sort : ON g (rSortedI g.K) sortB := by
  intro m H s vs ds x s' Q hold rv he q
  obtain ⟨p, xs, es, ns, rfl, hq, t, hp, e⟩ := one_list hold rv he
  cases e
  refine ⟨p, ns, rfl, by rw [← ints_rep t hp]; exact hq, fun ys l h1 h2 hl => ?_⟩
  rw [sort_uniq h1 h2]
  exact new_lst hold hl (reps_ints _) q
end
end Mi

set_option Elab.async false
set_option linter.all false
set_option maxRecDepth 100000
namespace Mi
open PySem PySem.Spec PyProof.Rows L2

section
variable {g : G} {m : List Addr} {H : Hp} {s : S} {p : Nat} {a : Addr} {v : V} {d : D} {W : XK}
/-- the object p is written: what then holds -/
theorem wr_lst (hold : Hold g m s H) (z : m[p]? = some a) {xs : List V} {ds : List D} (r : Reps g m H xs ds) : Hold g m (s.set p (.lst ds)) (upd H a (.lst xs)) :=
  hold.write z ⟨xs, upd_same, r.le (Le.write hold z)⟩
theorem wr_dct (hold : Hold g m s H) (z : m[p]? = some a) {xs : List (Key × V)} {ds : List (Key × D)} (r : EntK g m H xs ds) : Hold g m (s.set p (.dct ds)) (upd H a (.dK xs)) :=
  hold.write z ⟨xs, upd_same, r.le (Le.write hold z)⟩

/-! ### methods of lists -/
def appM : OPM := fun d ds s => match d, ds with
  | .ref p, [x] => match s[p]? with
    | some (.lst xs) => if xs.length < 16777216 then some (.non, s.set p (.lst (xs ++ [x]))) else none
    | _ => none
  | _, _ => none
theorem om_app : OM g rAppend appM := by
  intro m H s v vs d ds x s' Q hold r rs he q
  unfold appM at he
  split at he
  · rename_i p y
    split at he
    · rename_i xs e1
      by_cases c : xs.length < 16777216
      · rw [if_pos c] at he; cases he
        obtain ⟨a, ys, rfl, z, e2, t⟩ := rep_lst hold r e1
        obtain ⟨w, rfl, rw1⟩ := reps1 rs
        refine ⟨a, ys, w, rfl, rfl, e2, by rw [sizeLine_eq, t.length]; exact c, ?_⟩
        exact q .non m _ (Le.write hold z) (wr_lst hold z (t.append (.cons rw1 .nil))) .non
      · rw [if_neg c] at he; cases he
    · cases he
  · cases he
def extM : OPM := fun d ds s => match d, ds with
  | .ref p, [.ref q] => match s[p]?, s[q]? with
    | some (.lst xs), some (.lst ys) => if xs.length + ys.length ≤ 16777216 then some (.non, s.set p (.lst (xs ++ ys))) else none
    | _, _ => none
  | _, _ => none
theorem om_ext : OM g rExtend extM := by
  intro m H s v vs d ds x s' Q hold r rs he q
  unfold extM at he
  split at he
  · rename_i p p'
    split at he
    · rename_i xs ys e1 e1'
      by_cases c : xs.length + ys.length ≤ 16777216
      · rw [if_pos c] at he; cases he
        obtain ⟨a, us, rfl, z, e2, t⟩ := rep_lst hold r e1
        obtain ⟨w, rfl, rw1⟩ := reps1 rs
        obtain ⟨b, ws, rfl, z', e2', t'⟩ := rep_lst hold rw1 e1'
        refine ⟨a, b, us, ws, rfl, rfl, e2, e2', line_ok (by rw [t.length, t'.length]; exact c), ?_⟩
        exact q .non m _ (Le.write hold z) (wr_lst hold z (t.append t')) .non
      · rw [if_neg c] at he; cases he
    · cases he
  · cases he
def popM : OPM := fun d ds s => match d, ds with
  | .ref p, [] => match s[p]? with
    | some (.lst xs) => match xs[xs.length - 1]? with
      | some x => some (x, s.set p (.lst xs.dropLast))
      | none => none
    | _ => none
  | _, _ => none
theorem Reps.dropLast {xs : List V} {ds : List D} (r : Reps g m H xs ds) : Reps g m H xs.dropLast ds.dropLast := by
  rw [List.dropLast_eq_take, List.dropLast_eq_take, r.length]
  exact r.take _
theorem om_pop : OM g rPop popM := by
  intro m H s v vs d ds x s' Q hold r rs he q
  unfold popM at he
  split at he
  · rename_i p
    split at he
    · rename_i xs e1
      split at he
      · rename_i y hy
        cases he
        obtain ⟨a, us, rfl, z, e2, t⟩ := rep_lst hold r e1
        cases rs
        rw [← t.length] at hy
        obtain ⟨w, hw, rw1⟩ := t.get hy
        refine ⟨a, us, w, rfl, rfl, e2, hw, ?_⟩
        exact q w m _ (Le.write hold z) (wr_lst hold z t.dropLast) (rw1.le (Le.write hold z))
      · cases he
    · cases he
  · cases he

/-! ### dicts with ints and texts as keys -/
def valD (kvs : List (Key × D)) (k : Key) : Option D := (kvs.find? fun kv => decide (kv.1 = k)).map (·.2)
def putD (kvs : List (Key × D)) (k : Key) (v : D) : List (Key × D) :=
  if (kvs.any fun kv => decide (kv.1 = k)) = true then kvs.map (fun kv => if kv.1 = k then (kv.1, v) else kv) else kvs ++ [(k, v)]
def dropD (kvs : List (Key × D)) (k : Key) : List (Key × D) := kvs.filter fun kv => decide (kv.1 ≠ k)
theorem key_rep {v : V} {d : D} {k : Key} (r : Rep g m H v d) (h : keyD d = some k) : v = kV k := by
  cases r <;> first | (cases h; done) | (cases h; rfl)
theorem val_rep {es : List (Key × V)} {kvs : List (Key × D)} {k : Key} (r : EntK g m H es kvs) : (valD kvs k = none ∧ valV es k = none) ∨ ∃ v d, valD kvs k = some d ∧ valV es k = some v ∧ Rep g m H v d := by
  unfold EntK at r
  induction r with
  | nil => exact .inl ⟨rfl, rfl⟩
  | @cons p q ps qs h t ih =>
    by_cases c : p.1 = k
    · have c' : q.1 = k := h.1.trans c
      refine .inr ⟨p.2, q.2, ?_, valV_pos c, h.2⟩
      unfold valD
      rw [List.find?_cons, decide_eq_true c']
      rfl
    · have c' : ¬ q.1 = k := fun z => c (h.1.symm.trans z)
      rw [valV_neg c]
      have e : valD (q :: qs) k = valD qs k := by
        unfold valD
        rw [List.find?_cons, decide_eq_false c']
      rw [e]
      exact ih
theorem any_rep {es : List (Key × V)} {kvs : List (Key × D)} {k : Key} (r : EntK g m H es kvs) : (es.any fun kv => decide (kv.1 = k)) = (kvs.any fun kv => decide (kv.1 = k)) := by
  unfold EntK at r
  induction r with
  | nil => rfl
  | @cons p q ps qs h t ih => rw [List.any_cons, List.any_cons, ih, h.1]
theorem put_rep {es : List (Key × V)} {kvs : List (Key × D)} {k : Key} {v : V} {d : D} (r : EntK g m H es kvs) (rv : Rep g m H v d) : EntK g m H (putK es k v) (putD kvs k d) := by
  unfold putK putD
  rw [any_rep r]
  split
  · unfold EntK at r ⊢
    rename_i hh; clear hh
    induction r with
    | nil => exact .nil
    | @cons p q ps qs h t ih =>
      rw [List.map_cons, List.map_cons]
      refine .cons ?_ ih
      by_cases c : p.1 = k
      · rw [if_pos c, if_pos (h.1.trans c)]; exact ⟨h.1, rv⟩
      · rw [if_neg c, if_neg (fun z => c (h.1.symm.trans z))]; exact h
  · unfold EntK at r ⊢
    rename_i hh; clear hh
    induction r with
    | nil => exact .cons ⟨rfl, rv⟩ .nil
    | @cons p q ps qs h t ih => exact .cons h ih
theorem drop_rep {es : List (Key × V)} {kvs : List (Key × D)} {k : Key} (r : EntK g m H es kvs) : EntK g m H (dropK es k) (dropD kvs k) := by
  unfold dropK dropD
  unfold EntK at r ⊢
  induction r with
  | nil => exact .nil
  | @cons p q ps qs h t ih =>
    rw [List.filter_cons, List.filter_cons]
    by_cases c : p.1 = k
    · rw [if_neg (by simp [c]), if_neg (by simp [h.1.trans c])]; exact ih
    · rw [if_pos (by simp [c]), if_pos (by rw [h.1]; simp [c])]; exact .cons h ih
def dctAt (d : D) (s : S) : Option (List (Key × D)) := match d with
  | .ref p => match s[p]? with
    | some (.dct kvs) => some kvs
    | _ => none
  | _ => none
theorem dct_rep {kvs : List (Key × D)} (hold : Hold g m s H) (r : Rep g m H v d) (h : dctAt d s = some kvs) : ∃ p a es, d = .ref p ∧ v = .ref a ∧ m[p]? = some a ∧ H a = some (.dK es) ∧ EntK g m H es kvs := by
  cases r with
  | @ref a p z =>
    have h : (match s[p]? with
      | some (.dct kvs) => some kvs
      | _ => none) = some kvs := h
    split at h
    · rename_i e1
      cases h
      obtain ⟨es, e2, t⟩ := hold.obj p a _ z e1
      exact ⟨p, a, es, rfl, rfl, z, e2, t⟩
    · cases h
  | _ => cases h
def dgetD : OP2 := fun d e s => match dctAt d s, keyD e with
  | some kvs, some k => (valD kvs k).map fun x => (x, s)
  | _, _ => none
theorem o2_dget : O2 g (fun x y H Q => ∃ a v, x = .ref a ∧ DGet H a y (some v) ∧ Q v H) dgetD := by
  intro m H s v w d e x s' Q hold rv rw he q
  unfold dgetD at he
  split at he
  · rename_i kvs k h1 h2
    obtain ⟨p, a, es, rfl, rfl, z, e2, t⟩ := dct_rep hold rv h1
    rcases val_rep (k := k) t with ⟨e3, _⟩ | ⟨u, d, e3, e4, r⟩
    · rw [e3] at he; cases he
    · rw [e3] at he; cases he
      have := key_rep rw h2
      subst this
      exact ⟨a, u, rfl, by rw [← e4]; exact DGet.k e2, PD.here hold r q⟩
  · cases he
def dinD (neg : Bool) : OP2 := fun e d s => match dctAt d s, keyD e with
  | some kvs, some k => some (.bl (if neg then !(valD kvs k).isSome else (valD kvs k).isSome), s)
  | _, _ => none
theorem din_ok {hold : Hold g m s H} {w : V} {e x : D} {s' : S} {neg : Bool} {Q : VK} (rv : Rep g m H v d) (rw1 : Rep g m H w e) (he : dinD neg e d s = some (x, s')) (q : PD g m H Q x s') :
    ∃ a o, v = .ref a ∧ DGet H a w o ∧ Q (.bl (if neg then !o.isSome else o.isSome)) H := by
  unfold dinD at he
  split at he
  · rename_i kvs k h1 h2
    cases he
    obtain ⟨p, a, es, rfl, rfl, z, e2, t⟩ := dct_rep hold rv h1
    have := key_rep rw1 h2
    subst this
    refine ⟨a, _, rfl, DGet.k (k := k) e2, ?_⟩
    rcases val_rep (k := k) t with ⟨e3, e4⟩ | ⟨u, d, e3, e4, r⟩
    · rw [e3] at q; rw [e4]; exact PD.here hold (.bl _) q
    · rw [e3] at q; rw [e4]; exact PD.here hold (.bl _) q
  · cases he
theorem o2_din : O2 g (fun y x H Q => ∃ a o, x = .ref a ∧ DGet H a y o ∧ Q (.bl o.isSome) H) (dinD false) := by
  intro m H s v w d e x s' Q hold rv rw he q
  exact din_ok (hold := hold) rw rv he q
theorem o2_dnotin : O2 g (fun y x H Q => ∃ a o, x = .ref a ∧ DGet H a y o ∧ Q (.bl (!o.isSome)) H) (dinD true) := by
  intro m H s v w d e x s' Q hold rv rw he q
  exact din_ok (hold := hold) rw rv he q
section
variable {X : Cx} {f f' f'' : EX} {st : Stmt} {e : Expr}
/-- d[k] = v: the value, the dict, the key -/
def sDPutD (f f' f'' : EX) : ST := fun env s => (f env s).go fun x s1 => (f' env s1).go fun d s2 => (f'' env s2).go fun k s3 => match d, dctAt d s3, keyD k with
  | .ref p, some kvs, some k => if kvs.length < 16777216 then .nx env (s3.set p (.dct (putD kvs k x))) else .no
  | _, _, _ => .no
theorem c_dput (h : PS X st (sDPut (sem g W f') (sem g W f'') (sem g W f))) : PS X st (semS g W (sDPutD f f' f'')) := by
  refine PS.of h fun B σ H ⟨m, env, s, a, q⟩ => ?_
  refine sem_k a (R.go_post q) fun x s1 v m1 H1 q1 l1 a1 r1 => ?_
  refine sem_k a1 (R.go_post (Fl.post_le l1 q1)) fun d s2 w m2 H2 q2 l2 a2 r2 => ?_
  refine sem_k a2 (R.go_post (Fl.post_le l2 q2)) fun k s3 u m3 H3 q3 l3 a3 r3 => ?_
  split at q3
  · rename_i p kvs k' h2 h1
    by_cases c : kvs.length < 16777216
    · rw [if_pos c] at q3
      obtain ⟨p', b, es, e0, rfl, z, e2, t⟩ := dct_rep a3.hold (r2.le l3) h1
      cases e0
      have := key_rep r3 h2
      subst this
      have hw := wr_dct a3.hold z (put_rep (k := k') t ((r1.le l2).le l3))
      refine ⟨b, _, rfl, DPut.k e2 (by rw [sizeLine_eq, ent_length t]; exact c), ?_⟩
      exact q3 σ m3 _ (l3.trans (Le.write a3.hold z)) (a3.go (Le.write a3.hold z) hw)
    · rw [if_neg c] at q3; exact q3.elim
  · exact q3.elim
/-- d[k] op= v, of ints: the dict, the key, the value -/
def sDAugD (o : OP2) (f' f'' f : EX) : ST := fun env s => (f' env s).go fun d s1 => (f'' env s1).go fun k s2 => (R.of (dgetD d k s2)).go fun old s2 => (f env s2).go fun x s3 => (R.of (o old x s3)).go fun y s4 => match d, dctAt d s4, keyD k with
  | .ref p, some kvs, some k => if kvs.length < 16777216 then .nx env (s4.set p (.dct (putD kvs k y))) else .no
  | _, _, _ => .no
/-- an operator in place, by values -/
def InR (X : Cx) (op : Operator) (r : R2) : Prop := InOp X op r
theorem c_daug {r : R2} {o : OP2} (h : PS X st (sDAug (sem g W f') (sem g W f'') (sem g W f) r)) (ho : O2 g r o) : PS X st (semS g W (sDAugD o f' f'' f)) := by
  refine PS.of h fun B σ H ⟨m, env, s, a, q⟩ => ?_
  refine sem_k a (R.go_post q) fun d s1 w m1 H1 q1 l1 a1 r1 => ?_
  refine sem_k a1 (R.go_post (Fl.post_le l1 q1)) fun k s2 u m2 H2 q2 l2 a2 r2 => ?_
  obtain ⟨old, s2', e0, q2⟩ := R.post_of (R.go_post q2)
  have e0' := e0
  unfold dgetD at e0
  split at e0
  · rename_i kvs k' h1 h2
    obtain ⟨p, b, es, rfl, rfl, z, e2, t⟩ := dct_rep a2.hold (r1.le l2) h1
    have := key_rep r2 h2
    subst this
    rcases val_rep (k := k') t with ⟨e3, _⟩ | ⟨ov, od, e3, e4, r⟩
    · rw [e3] at e0; cases e0
    · rw [e3] at e0; cases e0
      refine ⟨b, ov, rfl, by rw [← e4]; exact DGet.k e2, ?_⟩
      refine sem_k a2 (R.go_post (Fl.post_le l2 q2)) fun x s3 xv m3 H3 q3 l3 a3 r3 => ?_
      obtain ⟨y, s4, e5, q4⟩ := R.post_of (R.go_post q3)
      refine ho m3 H3 s3 ov xv _ x y s4 _ a3.hold (r.le l3) r3 e5 fun yv m4 H4 l4 hold4 r4 => ?_
      split at q4
      · rename_i p' kvs' k'' e6 e7 e8
        cases e6
        rw [h2] at e8; cases e8
        by_cases c : kvs'.length < 16777216
        · rw [if_pos c] at q4
          have r1' := (((r1.le l2).le l3).le l4)
          obtain ⟨p'', b', es', e9, e10, z', e11, t'⟩ := dct_rep hold4 r1' e7
          cases e9
          cases e10
          have hw := wr_dct hold4 z' (put_rep (k := k') t' r4)
          refine ⟨_, DPut.k e11 (by rw [sizeLine_eq, ent_length t']; exact c), ?_⟩
          exact q4 σ m4 _ (l3.trans (l4.trans (Le.write hold4 z'))) (a3.go (l4.trans (Le.write hold4 z')) hw)
        · rw [if_neg c] at q4; exact q4.elim
      · exact q4.elim
  · cases e0
/-- op= on ints by the operator's own rule -/
def rInI (op : Int → Int → Int) : R2 := fun x y H Q => ∃ i j, x = .int i ∧ y = .int j ∧ Q (.int (op i j)) H
theorem o2_addI : O2 g rAdd (opI (fun _ _ => true) fun i j => .int (i + j)) := by
  intro m H s v w d e x s' Q hold rv rw he q
  obtain ⟨i, j, rfl, rfl, c, rfl, rfl⟩ := opI_some he
  exact ⟨i, j, rep_int rv, rep_int rw, PD.here hold (.int _) q⟩
theorem o2_subI : O2 g rSub (opI (fun _ _ => true) fun i j => .int (i - j)) := by
  intro m H s v w d e x s' Q hold rv rw he q
  obtain ⟨i, j, rfl, rfl, c, rfl, rfl⟩ := opI_some he
  exact ⟨i, j, rep_int rv, rep_int rw, PD.here hold (.int _) q⟩
abbrev addI : OP2 := opI (fun _ _ => true) fun i j => .int (i + j)
/-- x op= e -/
def sAug (i : Nat) (o : OP2) (f : EX) : ST := fun env s => match env[i]? with
  | some (some d) => (f env s).go fun e s1 => (R.of (o d e s1)).go fun x s2 => .nx (env.set i (some x)) s2
  | _ => .no
theorem c_aug {i : Nat} {r : R2} {o : OP2} (h : PS X st (tAug i (sem g W f) r)) (ho : O2 g r o) : PS X st (semS g W (sAug i o f)) := by
  refine PS.of h fun B σ H ⟨m, env, s, a, q⟩ => ?_
  unfold sAug at q
  split at q
  · rename_i d hd
    obtain ⟨x, hx, rx⟩ := a.val i d hd
    refine ⟨x, hx, ?_⟩
    refine sem_k a (R.go_post q) fun e s1 v m1 H1 q1 l1 a1 r1 => ?_
    obtain ⟨y, s2, e1, q2⟩ := R.post_of (R.go_post q1)
    refine ho m1 H1 s1 x v d e y s2 _ a1.hold (rx.le l1) r1 e1 fun yv m2 H2 l2 hold2 r2 => ?_
    exact q2 _ m2 H2 (l1.trans l2) ((a1.go l2 hold2).set r2 i)
  · exact q.elim
theorem ip_of {op : Operator} {r : R2} (h : OpR X (inplaceOp op) r) : PIp X op r := fun pins s σ H x y v u Q I rx ry q => h pins s σ H x y v u Q I rx ry q
/-- xs[i] = v: the value, the list, the index -/
def setLD (d k x : D) (s : S) : Option S := match d, k with
  | .ref p, .int i => match s[p]? with
    | some (.lst xs) => match ixN xs.length i with
      | some j => some (s.set p (.lst (xs.set j x)))
      | none => none
    | _ => none
  | _, _ => none
def sLPut (f f' f'' : EX) : ST := fun env s => (f env s).go fun x s1 => (f' env s1).go fun d s2 => (f'' env s2).go fun k s3 => match setLD d k x s3 with
  | some s4 => .nx env s4
  | none => .no
theorem setL_ok {m : List Addr} {H : Hp} {s s' : S} {v w u : V} {d k x : D} {Q : Hp → Prop} (hold : Hold g m s H) (r : Rep g m H v d) (r' : Rep g m H w k) (r'' : Rep g m H u x) (h : setLD d k x s = some s')
    (q : ∀ H', Le m H m H' → Hold g m s' H' → Q H') : rSetL v w u H Q := by
  unfold setLD at h
  split at h
  · rename_i p i
    split at h
    · rename_i xs e1
      split at h
      · rename_i j e2
        cases h
        obtain ⟨a, ys, rfl, z, e3, t⟩ := rep_lst hold r e1
        refine ⟨a, ys, i, j, rfl, rep_int r', e3, by rw [t.length]; exact e2, ?_⟩
        exact q _ (Le.write hold z) (wr_lst hold z (t.set r'' j))
      · cases h
    · cases h
  · cases h
theorem c_lput (h : PS X st (tAsg (sem g W f) (gSub (sem g W f') (sem g W f'') rSetL))) : PS X st (semS g W (sLPut f f' f'')) := by
  refine PS.of h fun B σ H ⟨m, env, s, a, q⟩ => ?_
  refine sem_k a (R.go_post q) fun x s1 v m1 H1 q1 l1 a1 r1 => ?_
  refine sem_k a1 (R.go_post (Fl.post_le l1 q1)) fun d s2 w m2 H2 q2 l2 a2 r2 => ?_
  refine sem_k a2 (R.go_post (Fl.post_le l2 q2)) fun k s3 u m3 H3 q3 l3 a3 r3 => ?_
  split at q3
  · rename_i s4 e1
    exact setL_ok a3.hold (r2.le l3) r3 ((r1.le l2).le l3) e1 fun H' l' h' => q3 σ m3 H' (l3.trans l') (a3.go l' h')
  · exact q3.elim
end
end

/-! ### displays of dicts -/
def evPs : List (EX × EX) → Env → S → R (List (D × D))
  | [], _, s => .ok [] s
  | (fk, fv) :: r, env, s => (fk env s).bind fun k s1 => (fv env s1).bind fun v s2 => (evPs r env s2).bind fun ps s3 => .ok ((k, v) :: ps) s3
def keyed : List (D × D) → Option (List (Key × D))
  | [] => some []
  | (k, v) :: r => match keyD k, keyed r with
    | some k', some r' => some ((k', v) :: r')
    | _, _ => none
def mergeD (kvs more : List (Key × D)) : List (Key × D) := more.foldl (fun acc kv => putD acc kv.1 kv.2) kvs
def eDct (trs : List (EX × EX)) : EX := fun env s => (evPs trs env s).bind fun ps s1 => match keyed ps with
  | some kvs => if kvs.length ≤ 15 then .ok (.ref s1.length) (s1 ++ [.dct (mergeD [] kvs)]) else .no
  | none => .no
def RepPs (g : G) (m : List Addr) (H : Hp) : List (V × V) → List (D × D) → Prop := Paired fun p q => Rep g m H p.1 q.1 ∧ Rep g m H p.2 q.2
section
variable {X : Cx} {g : G} {W : XK}
theorem pairs_ok {m : List Addr} {H : Hp} {σ : L2.St} {env : Env} {K : List (V × V) → Hp → Prop} : ∀ (trs : List (EX × EX)) {s : S} {P : List (D × D) → S → Prop}, Ag g m σ H env s → (evPs trs env s).post P (WX g m H W) →
    (∀ ps s1 vs m1 H1, P ps s1 → Le m H m1 H1 → Ag g m1 σ H1 env s1 → RepPs g m1 H1 vs ps → K vs H1) → tPairs (trs.map fun p => (sem g W p.1, sem g W p.2)) σ H K := by
  intro trs
  induction trs generalizing m H K with
  | nil => intro s P a q k; exact k [] s [] m H q (Le.refl _ _) a .nil
  | cons p r ih =>
    intro s P a q k
    obtain ⟨fk, fv⟩ := p
    refine sem_k a (R.post_bind q) fun kd s1 kv m1 H1 q1 l1 a1 r1 => ?_
    refine sem_k a1 (R.post_mono (R.post_bind q1) (fun _ _ z => z) fun _ _ _ z => WX.le l1 z) fun d s2 v m2 H2 q2 l2 a2 r2 => ?_
    refine ih a2 (R.post_mono (R.post_bind q2) (fun _ _ z => z) fun _ _ _ z => WX.le (l1.trans l2) z) fun ps s3 vs m3 H3 q3 l3 a3 r3 => ?_
    exact k _ s3 ((kv, v) :: vs) m3 H3 q3 (l1.trans (l2.trans l3)) a3 (.cons ⟨(r1.le l2).le l3, r2.le l3⟩ r3)
theorem keyed_rep {m : List Addr} {H : Hp} : ∀ {vs : List (V × V)} {ps : List (D × D)} {kvs : List (Key × D)}, RepPs g m H vs ps → keyed ps = some kvs → ∃ es : List (Key × V), vs = es.map (fun kv => (kV kv.1, kv.2)) ∧ EntK g m H es kvs
  | _, _, _, .nil, h => by cases h; exact ⟨[], rfl, .nil⟩
  | _, _, _, .cons (a := p) (b := q) r t, h => by
    obtain ⟨pk, pv⟩ := p
    obtain ⟨qk, qv⟩ := q
    unfold keyed at h
    split at h
    · rename_i k' r' h1 h2
      cases h
      obtain ⟨es, rfl, t'⟩ := keyed_rep t h2
      have := key_rep r.1 h1
      refine ⟨(k', pv) :: es, ?_, .cons ⟨rfl, r.2⟩ t'⟩
      rw [List.map_cons]
      have this : pk = kV k' := this
      show (pk, pv) :: _ = (kV k', pv) :: _
      rw [this]
    · cases h
theorem merge_rep {m : List Addr} {H : Hp} : ∀ {es : List (Key × V)} {kvs : List (Key × D)} {es0 : List (Key × V)} {kvs0 : List (Key × D)}, EntK g m H es kvs → EntK g m H es0 kvs0 → EntK g m H (mergeK es0 es) (mergeD kvs0 kvs) := by
  intro es kvs es0 kvs0 r
  unfold EntK at r
  induction r generalizing es0 kvs0 with
  | nil => intro q; exact q
  | @cons p q ps qs h t ih =>
    intro r0
    show EntK g m H (mergeK (putK es0 p.1 p.2) ps) (mergeD (putD kvs0 q.1 q.2) qs)
    refine ih ?_
    rw [h.1]
    exact put_rep r0 h.2
theorem s_dct {pos : Pos} {keys : List (Option Expr)} {values : List Expr} {trs : List (EX × EX)} (h : PPs X pos keys values (trs.map fun p => (sem g W p.1, sem g W p.2))) (hall : keys.all (·.isSome) = true) (hl : keys.length = values.length) (h0 : keys ≠ [])
    (h15 : keys.length ≤ 15) : PE X (.Dict keys values pos) (sem g W (eDct trs)) := by
  refine PE.of (pe_disp h hall hl h0 h15) fun σ H Q ⟨m, env, s, ag, q⟩ => ?_
  intro p hp
  have ag0 : Ag g m σ (upd H p (.dK [])) env s := ag.go (Le.aside ag.hold hp) (ag.hold.aside hp)
  have l0 : Le m H m (upd H p (.dK [])) := Le.aside ag.hold hp
  refine pairs_ok trs ag0 (R.post_mono (R.post_bind q) (fun _ _ z => z) fun _ _ _ z => WX.le l0 z) fun ps s1 vs m1 H1 q1 l1 a1 r1 => ?_
  have hp1 : p ∉ m := ag.hold.free hp
  have e1 : H1 p = some (.dK []) := l1.rest p _ hp1 upd_same
  have hp2 : p ∉ m1 := l1.nin hp1 upd_same
  refine ⟨e1, ?_⟩
  split at q1
  · rename_i kvs hk
    by_cases c : kvs.length ≤ 15
    · rw [if_pos c] at q1
      obtain ⟨es, rfl, t⟩ := keyed_rep r1 hk
      refine ⟨es, rfl, by rw [ent_length t]; exact c, ?_⟩
      have n1 : ∀ xs : List V, HO.dK [] ≠ .tup xs := fun _ z => by cases z
      have n2 : ∀ (ob : Obj) (v : HO), HO.dK [] ≠ .frz ob v := fun _ _ z => by cases z
      have n3 : ∀ y : Addr, HO.dK [] ≠ .own y := fun _ z => by cases z
      refine q1 (.ref p) (m1 ++ [p]) _ (Le.join hp l1 hp2) (a1.hold.join hp2 e1 n1 n2 n3 ⟨_, upd_same, (merge_rep t .nil).lr (Lr.join hp2 e1 n1 n2)⟩) (.ref (by rw [← a1.hold.len, List.getElem?_append_right (Nat.le_refl _), Nat.sub_self]; rfl))
    · rw [if_neg c] at q1; exact q1.elim
  · exact q1.elim
end
end Mi

set_option Elab.async false
set_option linter.all false
set_option maxRecDepth 100000
namespace Mi
open PySem PySem.Spec PyProof.Rows L2

def wipeE (env : Env) : List Nat → Env
  | [] => env
  | v :: vs => (wipeE env vs).set v none
theorem wipe_get (σ : L2.St) (i : Nat) : ∀ vs : List Nat, (wipe σ vs)[i]? = if i ∈ vs then σ[i]?.map (fun _ => none) else σ[i]?
  | [] => by simp [wipe]
  | v :: vs => by
    unfold wipe
    by_cases c : v = i
    · subst c
      by_cases h : v < σ.length
      · rw [List.getElem?_set_self (by rw [wipe_length]; exact h), if_pos List.mem_cons_self, List.getElem?_eq_getElem h]; rfl
      · rw [List.getElem?_eq_none (by rw [List.length_set, wipe_length]; omega), if_pos List.mem_cons_self, List.getElem?_eq_none (by omega)]; rfl
    · rw [List.getElem?_set_ne c, wipe_get σ i vs]
      have : i ∈ v :: vs ↔ i ∈ vs := ⟨fun h => (List.mem_cons.mp h).elim (fun z => absurd z.symm c) id, fun h => List.mem_cons_of_mem _ h⟩
      by_cases k : i ∈ vs
      · rw [if_pos k, if_pos (this.mpr k)]
      · rw [if_neg k, if_neg (fun z => k (this.mp z))]
theorem wipe_idem (σ : L2.St) (vs : List Nat) : wipe (wipe σ vs) vs = wipe σ vs := by
  apply List.ext_getElem?
  intro i
  rw [wipe_get, wipe_get]
  split
  · cases σ[i]? <;> rfl
  · rfl
theorem wipe_set {σ : L2.St} {vs : List Nat} {i : Nat} {x : Option V} (h : i ∈ vs) : wipe (σ.set i x) vs = wipe σ vs := by
  apply List.ext_getElem?
  intro j
  rw [wipe_get, wipe_get]
  by_cases c : i = j
  · subst c
    rw [if_pos h, if_pos h]
    by_cases k : i < σ.length
    · rw [List.getElem?_set_self k, List.getElem?_eq_getElem k]; rfl
    · rw [List.getElem?_eq_none (by rw [List.length_set]; omega), List.getElem?_eq_none (by omega)]
  · rw [List.getElem?_set_ne c]
theorem wipeE_length (env : Env) : ∀ vs, (wipeE env vs).length = env.length
  | [] => rfl
  | v :: vs => by unfold wipeE; rw [List.length_set, wipeE_length env vs]
theorem wipeE_some {env : Env} {i : Nat} {d : D} : ∀ {vs : List Nat}, (wipeE env vs)[i]? = some (some d) → env[i]? = some (some d) ∧ i ∉ vs
  | [], h => ⟨h, by simp⟩
  | v :: vs, h => by
    unfold wipeE at h
    by_cases hi : v = i
    · subst hi
      by_cases hv : v < (wipeE env vs).length
      · rw [List.getElem?_set_self hv] at h; cases h
      · rw [List.getElem?_eq_none (by simpa using hv)] at h; cases h
    · rw [List.getElem?_set_ne hi] at h
      obtain ⟨h1, h2⟩ := wipeE_some h
      exact ⟨h1, by simp only [List.mem_cons, not_or]; exact ⟨fun e => hi e.symm, h2⟩⟩
theorem Ag.wipe {g : G} {m : List Addr} {σ : L2.St} {H : Hp} {env : Env} {s : S} (a : Ag g m σ H env s) (vs : List Nat) : Ag g m (L2.wipe σ vs) H (wipeE env vs) s := by
  refine ⟨a.hold, by rw [wipeE_length, wipe_length]; exact a.len, fun i d h => ?_⟩
  obtain ⟨h1, h2⟩ := wipeE_some h
  obtain ⟨v, e, r⟩ := a.val i d h1
  exact ⟨v, by rw [wipe_get, if_neg h2]; exact e, r⟩
def T.vars : T → List Nat
  | .n i => [i]
  | .t is => is
section
variable {X : Cx} {g : G} {W : XK}
theorem setAll_ok2 {m : List Addr} {H : Hp} {s : S} {vs0 : List Nat} {Q : L2.St → Hp → Prop} : ∀ {is : List Nat} {ds : List D} {vs : List V} {env : Env} {σ : L2.St}, ds.length = is.length → Reps g m H vs ds → Ag g m σ H env s → (∀ i ∈ is, i ∈ vs0) →
    (∀ σ', Ag g m σ' H (setAll is ds env) s → wipe σ' vs0 = wipe σ vs0 → Q σ' H) → gNs is vs σ H Q
  | [], [], _, env, σ, _, .nil, a, _, k => ⟨rfl, k σ a rfl⟩
  | i :: is, d :: ds, _, env, σ, h, .cons (v := v) (vs := vs) r t, a, hv, k => ⟨v, vs, rfl, setAll_ok2 (by simpa using h) t (a.set r i) (fun j hj => hv j (List.mem_cons_of_mem _ hj)) fun σ' a' e => k σ' a' (e.trans (wipe_set (hv i List.mem_cons_self)))⟩
  | [], _ :: _, _, _, _, h, _, _, _, _ => by simp at h
  | _ :: _, [], _, _, _, h, _, _, _, _ => by simp at h
theorem asgT_ok2 {t : T} {m : List Addr} {H : Hp} {s : S} {vs0 : List Nat} {Q : L2.St → Hp → Prop} {d : D} {v : V} {env env' : Env} {σ : L2.St} (a : Ag g m σ H env s) (r : Rep g m H v d) (h : asgT t d env = some env') (hv : ∀ i ∈ t.vars, i ∈ vs0)
    (k : ∀ σ', Ag g m σ' H env' s → wipe σ' vs0 = wipe σ vs0 → Q σ' H) : gT g.K t v σ H Q := by
  cases t with
  | n i => cases h; exact k _ (a.set r i) (wipe_set (hv i List.mem_cons_self))
  | t is =>
    cases r with
    | @tup b xs ds z q =>
      have h : (if ds.length = is.length then some (setAll is ds env) else none) = some env' := h
      by_cases c : ds.length = is.length
      · rw [if_pos c] at h; cases h
        exact ⟨b, xs, rfl, z.sq, by rw [q.length]; exact c, setAll_ok2 c q a hv k⟩
      · rw [if_neg c] at h; cases h
    | _ => cases h

/-! an object aside that is written -/
theorem Lr.turn {m : List Addr} {H : Hp} {p : Addr} {x u : HO} (e : H p = some x) (h1 : ∀ xs, x ≠ .tup xs) (h2 : ∀ ob v, x ≠ .frz ob v) : Lr m H m (upd H p u) := by
  refine ⟨List.prefix_refl m, fun a xs h q => ?_, fun a ob w h q => ?_⟩
  · have n : a ≠ p := fun z => by subst z; rw [e] at q; exact h1 xs (Option.some.inj q)
    exact ⟨by rw [upd_ne n]; exact q, h⟩
  · have n : a ≠ p := fun z => by subst z; rw [e] at q; exact h2 ob w (Option.some.inj q)
    exact ⟨by rw [upd_ne n]; exact q, h⟩
theorem Hold.turn {m : List Addr} {s : S} {H : Hp} {p : Addr} {x u : HO} (h : Hold g m s H) (hp : p ∉ m) (e : H p = some x) (h1 : ∀ xs, x ≠ .tup xs) (h2 : ∀ ob v, x ≠ .frz ob v) (h3 : ∀ y, x ≠ .own y) : Hold g m s (upd H p u) := by
  refine ⟨h.len, h.nd, fun q b o' e1 e2 => ?_⟩
  have r := h.obj q b o' e1 e2
  have nb : b ≠ p := fun z => hp (z ▸ List.mem_of_getElem? e1)
  exact r.lr_of (Lr.turn e h1 h2) (upd_ne nb) fun d (q' : _ = some (HO.own b)) => by rw [upd_ne (fun z => by rw [z, e] at q'; exact h3 b (Option.some.inj q'))]; exact q'
theorem Le.turn {m m' : List Addr} {H H' : Hp} {p : Addr} {x u : HO} (l : Le m (upd H p x) m' H') (hp : p ∉ m') : Le m (upd H p u) m' (upd H' p u) := by
  refine ⟨l.pre, fun a o ha e => ?_, fun a ha hn => ?_⟩
  · by_cases c : a = p
    · subst c; rw [upd_same] at e ⊢; exact e
    · rw [upd_ne c] at e ⊢
      exact l.rest a o ha (by rw [upd_ne c]; exact e)
  · have n : a ≠ p := fun z => hp (z ▸ ha)
    have := l.fresh a ha hn
    rw [upd_ne n] at this ⊢
    exact this
theorem upd_self {H : Hp} {p : Addr} {x : HO} (e : H p = some x) : upd H p x = H := by
  funext a
  by_cases c : a = p
  · subst c; rw [upd_same, e]
  · rw [upd_ne c]

/-! ### comprehensions -/
open Classical in
noncomputable def compL (t : T) (vs : List Nat) (c : EB) (e : EX) (ok : S → Prop) (env : Env) : List D → S → R (List D)
  | [], s => if ok s then .ok [] s else .no
  | d :: ds, s => if ok s then (match asgT t d (wipeE env vs) with
    | none => .no
    | some env1 => match c env1 s with
      | .ok true s1 => (match e env1 s1 with
        | .ok y s2 => (match compL t vs c e ok env ds s2 with
          | .ok ys s3 => .ok (y :: ys) s3
          | _ => .no)
        | _ => .no)
      | .ok false s1 => compL t vs c e ok env ds s1
      | _ => .no) else .no
noncomputable def eLc (it : EI) (t : T) (vs : List Nat) (c : EB) (e : EX) : EX := fun env s => (it env s).bind fun w s1 => if w.items.length ≤ 16777216 then
  (match compL t vs c e w.ok env w.items s1 with
  | .ok ys s2 => .ok (.ref s2.length) (s2 ++ [.lst ys])
  | _ => .no) else .no
def yes : EB := fun _ s => .ok true s
theorem c_lc {it : EI} {t : T} {vs : List Nat} {c : EB} {e : EX} {tt : TT} {σ : L2.St} {H : Hp} {Q : VK} (hv : ∀ i ∈ t.vars, i ∈ vs) (htt : ∀ σ H Q, semB g E0 c σ H Q → tt σ H Q) (h : sem g W (eLc it t vs c e) σ H Q) : tLc (semI g W it) (gT g.K t) tt (sem g E0 e) vs σ H Q := by
  obtain ⟨m, env, s, ag, q⟩ := h
  refine semI_k ag (R.post_bind q) fun w s1 J m1 H1 q1 l1 a1 hw => ?_
  by_cases hlen : w.items.length ≤ 16777216
  · rw [if_pos hlen] at q1
    intro D0 hD
    have n1 : ∀ ys xs : List V, HO.lst ys ≠ .tup xs := fun _ _ z => by cases z
    have n2 : ∀ (ys : List V) (ob : Obj) (v : HO), HO.lst ys ≠ .frz ob v := fun _ _ _ z => by cases z
    have n3 : ∀ (ys : List V) (y : Addr), HO.lst ys ≠ .own y := fun _ _ z => by cases z
    have hD1 : D0 ∉ m1 := a1.hold.free hD
    refine ⟨fun i n H' => n = w.items.length - i ∧ i ≤ w.items.length ∧ ∃ m' s' acc accV, Le m1 (upd H1 D0 (.lst accV)) m' H' ∧ Hold g m' s' H' ∧ Reps g m' H' accV acc ∧ acc.length ≤ i ∧
      (match compL t vs c e w.ok env (w.items.drop i) s' with
        | .ok ys s2 => PD g m1 H1 Q (.ref s2.length) (s2 ++ [.lst (acc ++ ys)])
        | _ => False), ⟨w.items.length, by simp, Nat.zero_le _, m1, s1, [], [], Le.refl _ _, a1.hold.aside hD, .nil, Nat.zero_le _, ?_⟩, ?_⟩
    · rw [List.drop_zero]
      split at q1
      · rename_i ys s2 e1
        exact PD.le l1 q1
      · exact q1.elim
    · rintro i n H2 ⟨rfl, hi, m2, s2, acc, accV, l2, h2, r2, hacc, q2⟩
      have hD2 : D0 ∉ m2 := l2.nin hD1 upd_same
      have eD : H2 D0 = some (.lst accV) := l2.rest D0 _ hD1 upd_same
      have l2' : Le m1 H1 m2 H2 := (Le.aside a1.hold hD).trans l2
      have l02 : Le m H m2 H2 := l1.trans l2'
      by_cases hlt : i < w.items.length
      · rw [List.drop_eq_getElem_cons hlt] at q2
        unfold compL at q2
        by_cases hok : w.ok s2
        · rw [if_pos hok] at q2
          have hg := (hw m2 s2 H2 i l2' h2 hok).1 w.items[i] (List.getElem?_eq_getElem hlt)
          refine .inr ⟨hg.1, fun H' => i + 1 ≤ w.items.length ∧ ∃ m' s' acc accV, Le m1 (upd H1 D0 (.lst accV)) m' H' ∧ Hold g m' s' H' ∧ Reps g m' H' accV acc ∧ acc.length ≤ i + 1 ∧
            (match compL t vs c e w.ok env (w.items.drop (i + 1)) s' with
              | .ok ys s2 => PD g m1 H1 Q (.ref s2.length) (s2 ++ [.lst (acc ++ ys)])
              | _ => False), fun H' z => ⟨w.items.length - (i + 1), by omega, rfl, z⟩, fun x H3 hy => ?_⟩
          obtain ⟨l3, h3, r3⟩ := hg.2 x H3 hy
          have a3 : Ag g m2 σ H3 env s2 := (ag.go (l02.trans l3) h3)
          cases e1 : asgT t w.items[i] (wipeE env vs) with
          | none => rw [e1] at q2; exact q2.elim
          | some env3 =>
            rw [e1] at q2
            refine asgT_ok2 (vs0 := vs) (a3.wipe vs) r3 e1 hv fun σ4 a4 ew => ⟨ew.trans (wipe_idem σ vs), htt _ _ _ ?_⟩
            dsimp only at q2
            cases e2 : c env3 s2 with
            | no => rw [e2] at q2; exact q2.elim
            | ex cc x s5 => rw [e2] at q2; exact q2.elim
            | ok b s5 =>
              rw [e2] at q2
              refine ⟨m2, env3, s2, a4, ?_⟩
              rw [e2]
              intro m5 H5 l5 h5
              have l25 : Le m1 (upd H1 D0 (.lst accV)) m5 H5 := l2.trans (l3.trans l5)
              cases b with
              | false =>
                refine iteF ⟨hlt, m5, s5, acc, accV, l25, h5, r2.le (l3.trans l5), by omega, q2⟩
              | true =>
                refine iteT ?_
                dsimp only at q2
                cases e3 : e env3 s5 with
                | no => rw [e3] at q2; exact q2.elim
                | ex cc x s6 => rw [e3] at q2; exact q2.elim
                | ok y s6 =>
                  rw [e3] at q2
                  refine ⟨m5, env3, s5, a4.go l5 h5, ?_⟩
                  rw [e3]
                  intro yv m6 H6 l6 h6 r6
                  have l26 : Le m1 (upd H1 D0 (.lst accV)) m6 H6 := l25.trans l6
                  have hD6 : D0 ∉ m6 := l26.nin hD1 upd_same
                  have eD6 : H6 D0 = some (.lst accV) := l26.rest D0 _ hD1 upd_same
                  have r2' := r2.le (l3.trans (l5.trans l6))
                  refine ⟨accV, eD6, ?_, hlt, m6, s6, acc ++ [y], accV ++ [yv], l26.turn hD6, h6.turn hD6 eD6 (n1 _) (n2 _) (n3 _), (r2'.append (.cons r6 .nil)).lr (Lr.turn eD6 (n1 _) (n2 _)), ?_, ?_⟩
                  · rw [r2.length, sizeLine_eq]
                    show acc.length < 16777216
                    omega
                  · rw [List.length_append, List.length_singleton]; omega
                  · dsimp only at q2
                    cases e4 : compL t vs c e w.ok env (List.drop (i + 1) w.items) s6 with
                    | no => rw [e4] at q2; exact q2.elim
                    | ex cc x s7 => rw [e4] at q2; exact q2.elim
                    | ok ys s7 =>
                      rw [e4] at q2
                      dsimp only at q2 ⊢
                      rw [List.append_assoc]
                      exact q2
        · rw [if_neg hok] at q2; exact q2.elim
      · have e0 : i = w.items.length := by omega
        subst e0
        rw [List.drop_length] at q2
        unfold compL at q2
        by_cases hok : w.ok s2
        · rw [if_pos hok] at q2
          refine .inl ⟨(hw m2 s2 H2 _ l2' h2 hok).2 (Nat.le_refl _), ?_⟩
          dsimp only at q2
          rw [List.append_nil] at q2
          have hj : upd H2 D0 (.lst accV) = H2 := upd_self eD
          have := q2 (.ref D0) (m2 ++ [D0]) (upd H2 D0 (.lst accV)) (Le.join hD l2 hD2) (h2.join hD2 eD (n1 _) (n2 _) (n3 _) ⟨accV, upd_same, r2.lr (Lr.join hD2 eD (n1 _) (n2 _))⟩) (.ref (by rw [← h2.len, List.getElem?_append_right (Nat.le_refl _), Nat.sub_self]; rfl))
          rw [hj] at this
          exact this
        · rw [if_neg hok] at q2; exact q2.elim
  · rw [if_neg hlen] at q1; exact q1.elim
theorem s_lc {ex : Expr} {it : EI} {t : T} {vs : List Nat} {c : EB} {e : EX} (h : PE X ex (tLc (semI g W it) (gT g.K t) (semB g E0 c) (sem g E0 e) vs)) (hv : ∀ i ∈ t.vars, i ∈ vs) : PE X ex (sem g W (eLc it t vs c e)) :=
  PE.of h fun σ H Q q => c_lc hv (fun _ _ _ z => z) q
theorem s_lc0 {ex : Expr} {it : EI} {t : T} {vs : List Nat} {e : EX} (h : PE X ex (tLc (semI g W it) (gT g.K t) tYes (sem g E0 e) vs)) (hv : ∀ i ∈ t.vars, i ∈ vs) : PE X ex (sem g W (eLc it t vs yes e)) :=
  PE.of h fun σ H Q q => c_lc hv (fun σ H Q ⟨m, env, s, ag, q⟩ => q m H (Le.refl _ _) ag.hold) q
theorem c_setLc {st : Stmt} {i : Nat} {it : EI} {t : T} {vs : List Nat} {c : EB} {e : EX} (h : PS X st (tAsg (tLc (semI g W it) (gT g.K t) (semB g E0 c) (sem g E0 e) vs) (gName i))) (hv : ∀ i ∈ t.vars, i ∈ vs) : PS X st (semS g W (sSet i (eLc it t vs c e))) :=
  c_set (PS.of h fun B σ H q => c_lc hv (fun _ _ _ z => z) q)
theorem c_setLc0 {st : Stmt} {i : Nat} {it : EI} {t : T} {vs : List Nat} {e : EX} (h : PS X st (tAsg (tLc (semI g W it) (gT g.K t) tYes (sem g E0 e) vs) (gName i))) (hv : ∀ i ∈ t.vars, i ∈ vs) : PS X st (semS g W (sSet i (eLc it t vs yes e))) :=
  c_set (PS.of h fun B σ H q => c_lc hv (fun σ H Q ⟨m, env, s, ag, q⟩ => q m H (Le.refl _ _) ag.hold) q)
end
end Mi

set_option Elab.async false
set_option linter.all false
set_option maxRecDepth 100000
namespace Mi
open PySem PySem.Spec PyProof.Rows L2

/-! ### a dict comprehension stored in a name (as ps_setLc) -/
section
variable {X : Cx}
theorem ps_setDc {i : Nat} {y : Str} {py : Pos} {kx vx tg iter : Expr} {ifs : List Expr} {scope : Scope} {own : List (Str × Nat)} {pos spos : Pos} {wi : TI} {g : TG} {tt : TT} {tk tv : TE} (hc : X.calm = true) (hN : X.N.Nodup) (hy : X.N[i]? = some y) (hyl : X.env.scope.names.lookup y = some .local)
    (hsw : swapsWith (.DictComp kx vx [⟨tg, iter, ifs, 0⟩] scope pos) (some (.Name y py)) spos.line X.env = pure true) (hi : PI X tg iter wi) (ok : BlkOk X.N X.env.scope scope own)
    (hg : ∀ (s : Shared) (H : Hp) (C : Addr) (cl : List (Str × Addr)) (fp : List Addr), PG (X.blk s H scope (compEnvC scope cl C X.env) fp) tg g) (ht : ∀ (s : Shared) (H : Hp) (C : Addr) (cl : List (Str × Addr)) (fp : List Addr), PTs (X.blk s H scope (compEnvC scope cl C X.env) fp) ifs tt)
    (hk : ∀ (s : Shared) (H : Hp) (C : Addr) (cl : List (Str × Addr)) (fp : List Addr), PE (X.blk s H scope (compEnvC scope cl C X.env) fp) kx tk)
    (he : ∀ (s : Shared) (H : Hp) (C : Addr) (cl : List (Str × Addr)) (fp : List Addr), PE (X.blk s H scope (compEnvC scope cl C X.env) fp) vx tv) (hs : ∀ x, foldedSetIterable iter X.env x = pure x := by intro _; rfl) :
    PS X (.Assign [.Name y py] (.DictComp kx vx [⟨tg, iter, ifs, 0⟩] scope pos) spos) (tAsg (tDc wi g tt tk tv (own.map (·.2))) (gName i)) := by
  refine ⟨fun pins s σ H D I h => ?_⟩
  rw [exec_Assign_Name_used _ _ _ _ hsw]
  refine wpAny_bind (wpAny_standAt (wpAny_bind ?_))
  show wpAny _ X.A (do let _ ← comprehension (.DictComp kx vx [⟨tg, iter, ifs, 0⟩] scope pos) scope X.env (firstIterPos [⟨tg, iter, ifs, 0⟩] pos) newDict false (eval iter X.env) (some (assign (.Name y py) X.env))) _ _ s
  have h : tDc wi g tt tk tv (own.map (·.2)) σ H (fun x H1 => gName i x σ H1 D.nx) := h
  refine wpAny_bind (thn (dc_core (Qf := fun _ s' => SP X pins D .next s') hc hN I hi ok hg ht hk he hs h fun L C s' m H' I' q hn f => ?_) fun _ s' hq => wpAny_pure (wpAny_pure hq))
  show wpAny _ _ (assign (.Name y py) X.env (.ref L)) _ _ _
  refine wpAny_assign_Name (store_ok2 (v := V.ref L) I' hN hy (.inl hyl) rfl (fun s2 I2 ⟨a, sb, ha⟩ => ?_) (.inr hyl))
  obtain ⟨f0, f1, f2, f3, f4, f5⟩ := f
  have haC : C ≠ a := by
    rcases ha with z | z
    · rw [z]; exact f1
    · exact fun e => f4 y a z e.symm
  refine ⟨m, hn.sameBut sb haC, fun h3 sb3 => ?_⟩
  exact ⟨_, H', I2.turned (t' := s2.toks) (fun b o hb e => (sb3.2 b hb).trans e) f0 f1 f3 f4 f5, q⟩
end

open Classical in
noncomputable def compD (t : T) (vs : List Nat) (c : EB) (ek ev : EX) (ok : S → Prop) (env : Env) : List D → List (Key × D) → S → R (List (Key × D))
  | [], acc, s => if ok s then .ok acc s else .no
  | d :: ds, acc, s => if ok s then (match asgT t d (wipeE env vs) with
    | none => .no
    | some env1 => match c env1 s with
      | .ok true s1 => (match ek env1 s1 with
        | .ok k s2 => (match ev env1 s2 with
          | .ok y s3 => (match keyD k with
            | some k' => compD t vs c ek ev ok env ds (putD acc k' y) s3
            | none => .no)
          | _ => .no)
        | _ => .no)
      | .ok false s1 => compD t vs c ek ev ok env ds acc s1
      | _ => .no) else .no
noncomputable def eDc (it : EI) (t : T) (vs : List Nat) (c : EB) (ek ev : EX) : EX := fun env s => (it env s).bind fun w s1 => if w.items.length ≤ 16777216 then
  (match compD t vs c ek ev w.ok env w.items [] s1 with
  | .ok kvs s2 => .ok (.ref s2.length) (s2 ++ [.dct kvs])
  | _ => .no) else .no
theorem putD_length (kvs : List (Key × D)) (k : Key) (v : D) : (putD kvs k v).length ≤ kvs.length + 1 := by
  unfold putD
  split
  · rw [List.length_map]; omega
  · rw [List.length_append]; exact Nat.le_refl _
section
variable {X : Cx} {g : G} {W : XK}
theorem c_dc {it : EI} {t : T} {vs : List Nat} {c : EB} {ek ev : EX} {tt : TT} {σ : L2.St} {H : Hp} {Q : VK} (hv : ∀ i ∈ t.vars, i ∈ vs) (htt : ∀ σ H Q, semB g E0 c σ H Q → tt σ H Q) (h : sem g W (eDc it t vs c ek ev) σ H Q) :
    tDc (semI g W it) (gT g.K t) tt (sem g E0 ek) (sem g E0 ev) vs σ H Q := by
  obtain ⟨m, env, s, ag, q⟩ := h
  refine semI_k ag (R.post_bind q) fun w s1 J m1 H1 q1 l1 a1 hw => ?_
  by_cases hlen : w.items.length ≤ 16777216
  · rw [if_pos hlen] at q1
    intro D0 hD
    have n1 : ∀ (ys : List (Key × V)) (xs : List V), HO.dK ys ≠ .tup xs := fun _ _ z => by cases z
    have n2 : ∀ (ys : List (Key × V)) (ob : Obj) (v : HO), HO.dK ys ≠ .frz ob v := fun _ _ _ z => by cases z
    have n3 : ∀ (ys : List (Key × V)) (y : Addr), HO.dK ys ≠ .own y := fun _ _ z => by cases z
    have hD1 : D0 ∉ m1 := a1.hold.free hD
    refine ⟨fun i n H' => n = w.items.length - i ∧ i ≤ w.items.length ∧ ∃ m' s' acc accV, Le m1 (upd H1 D0 (.dK accV)) m' H' ∧ Hold g m' s' H' ∧ EntK g m' H' accV acc ∧ acc.length ≤ i ∧
      (match compD t vs c ek ev w.ok env (w.items.drop i) acc s' with
        | .ok ys s2 => PD g m1 H1 Q (.ref s2.length) (s2 ++ [.dct ys])
        | _ => False), ⟨w.items.length, by simp, Nat.zero_le _, m1, s1, [], [], Le.refl _ _, a1.hold.aside hD, .nil, Nat.zero_le _, ?_⟩, ?_⟩
    · rw [List.drop_zero]
      split at q1
      · rename_i ys s2 e1
        exact PD.le l1 q1
      · exact q1.elim
    · rintro i n H2 ⟨rfl, hi, m2, s2, acc, accV, l2, h2, r2, hacc, q2⟩
      have hD2 : D0 ∉ m2 := l2.nin hD1 upd_same
      have eD : H2 D0 = some (.dK accV) := l2.rest D0 _ hD1 upd_same
      have l2' : Le m1 H1 m2 H2 := (Le.aside a1.hold hD).trans l2
      have l02 : Le m H m2 H2 := l1.trans l2'
      by_cases hlt : i < w.items.length
      · rw [List.drop_eq_getElem_cons hlt] at q2
        unfold compD at q2
        by_cases hok : w.ok s2
        · rw [if_pos hok] at q2
          have hg := (hw m2 s2 H2 i l2' h2 hok).1 w.items[i] (List.getElem?_eq_getElem hlt)
          refine .inr ⟨hg.1, fun H' => i + 1 ≤ w.items.length ∧ ∃ m' s' acc accV, Le m1 (upd H1 D0 (.dK accV)) m' H' ∧ Hold g m' s' H' ∧ EntK g m' H' accV acc ∧ acc.length ≤ i + 1 ∧
            (match compD t vs c ek ev w.ok env (w.items.drop (i + 1)) acc s' with
              | .ok ys s2 => PD g m1 H1 Q (.ref s2.length) (s2 ++ [.dct ys])
              | _ => False), fun H' z => ⟨w.items.length - (i + 1), by omega, rfl, z⟩, fun x H3 hy => ?_⟩
          obtain ⟨l3, h3, r3⟩ := hg.2 x H3 hy
          have a3 : Ag g m2 σ H3 env s2 := (ag.go (l02.trans l3) h3)
          cases e1 : asgT t w.items[i] (wipeE env vs) with
          | none => rw [e1] at q2; exact q2.elim
          | some env3 =>
            rw [e1] at q2
            refine asgT_ok2 (vs0 := vs) (a3.wipe vs) r3 e1 hv fun σ4 a4 ew => ⟨ew.trans (wipe_idem σ vs), htt _ _ _ ?_⟩
            dsimp only at q2
            cases e2 : c env3 s2 with
            | no => rw [e2] at q2; exact q2.elim
            | ex cc x s5 => rw [e2] at q2; exact q2.elim
            | ok b s5 =>
              rw [e2] at q2
              refine ⟨m2, env3, s2, a4, ?_⟩
              rw [e2]
              intro m5 H5 l5 h5
              have l25 : Le m1 (upd H1 D0 (.dK accV)) m5 H5 := l2.trans (l3.trans l5)
              cases b with
              | false =>
                refine iteF ⟨hlt, m5, s5, acc, accV, l25, h5, r2.le (l3.trans l5), by omega, q2⟩
              | true =>
                refine iteT ?_
                dsimp only at q2
                cases e3 : ek env3 s5 with
                | no => rw [e3] at q2; exact q2.elim
                | ex cc x s6 => rw [e3] at q2; exact q2.elim
                | ok kd s6 =>
                  rw [e3] at q2
                  dsimp only at q2
                  refine ⟨m5, env3, s5, a4.go l5 h5, ?_⟩
                  rw [e3]
                  intro kv m6 H6 l6 h6 r6
                  refine ⟨m6, env3, s6, a4.go (l5.trans l6) h6, ?_⟩
                  cases e4 : ev env3 s6 with
                  | no => rw [e4] at q2; exact q2.elim
                  | ex cc x s6 => rw [e4] at q2; exact q2.elim
                  | ok y s7 =>
                    rw [e4] at q2
                    dsimp only at q2
                    intro yv m7 H7 l7 h7 r7
                    have l27 : Le m1 (upd H1 D0 (.dK accV)) m7 H7 := l25.trans (l6.trans l7)
                    have hD7 : D0 ∉ m7 := l27.nin hD1 upd_same
                    have eD7 : H7 D0 = some (.dK accV) := l27.rest D0 _ hD1 upd_same
                    have r2' := r2.le (l3.trans (l5.trans (l6.trans l7)))
                    cases hk : keyD kd with
                    | none => rw [hk] at q2; exact q2.elim
                    | some k' =>
                      rw [hk] at q2
                      dsimp only at q2
                      have := key_rep (r6.le l7) hk
                      subst this
                      have hl := putD_length acc k' y
                      refine ⟨accV, k', rfl, eD7, ?_, hlt, m7, s7, putD acc k' y, putK accV k' yv, l27.turn hD7, h7.turn hD7 eD7 (n1 _) (n2 _) (n3 _), (put_rep r2' r7).lr (Lr.turn eD7 (n1 _) (n2 _)), by omega, q2⟩
                      rw [ent_length r2', sizeLine_eq]
                      show acc.length < 16777216
                      omega
        · rw [if_neg hok] at q2; exact q2.elim
      · have e0 : i = w.items.length := by omega
        subst e0
        rw [List.drop_length] at q2
        unfold compD at q2
        by_cases hok : w.ok s2
        · rw [if_pos hok] at q2
          refine .inl ⟨(hw m2 s2 H2 _ l2' h2 hok).2 (Nat.le_refl _), ?_⟩
          dsimp only at q2
          have hj : upd H2 D0 (.dK accV) = H2 := upd_self eD
          have := q2 (.ref D0) (m2 ++ [D0]) (upd H2 D0 (.dK accV)) (Le.join hD l2 hD2) (h2.join hD2 eD (n1 _) (n2 _) (n3 _) ⟨accV, upd_same, r2.lr (Lr.join hD2 eD (n1 _) (n2 _))⟩) (.ref (by rw [← h2.len, List.getElem?_append_right (Nat.le_refl _), Nat.sub_self]; rfl))
          rw [hj] at this
          exact this
        · rw [if_neg hok] at q2; exact q2.elim
  · rw [if_neg hlen] at q1; exact q1.elim
theorem s_dc0 {ex : Expr} {it : EI} {t : T} {vs : List Nat} {ek ev : EX} (h : PE X ex (tDc (semI g W it) (gT g.K t) tYes (sem g E0 ek) (sem g E0 ev) vs)) (hv : ∀ i ∈ t.vars, i ∈ vs) : PE X ex (sem g W (eDc it t vs yes ek ev)) :=
  PE.of h fun σ H Q q => c_dc hv (fun σ H Q ⟨m, env, s, ag, q⟩ => q m H (Le.refl _ _) ag.hold) q
theorem c_setDc0 {st : Stmt} {i : Nat} {it : EI} {t : T} {vs : List Nat} {ek ev : EX} (h : PS X st (tAsg (tDc (semI g W it) (gT g.K t) tYes (sem g E0 ek) (sem g E0 ev) vs) (gName i))) (hv : ∀ i ∈ t.vars, i ∈ vs) : PS X st (semS g W (sSet i (eDc it t vs yes ek ev))) :=
  c_set (PS.of h fun B σ H q => c_dc hv (fun σ H Q ⟨m, env, s, ag, q⟩ => q m H (Le.refl _ _) ag.hold) q)

/-! ### {} -/
def eDn : EX := fun _ s => .ok (.ref s.length) (s ++ [.dct []])
theorem s_dn {ex : Expr} (h : PE X ex tDNewK) : PE X ex (sem g W eDn) := by
  refine PE.of h fun σ H Q ⟨m, env, s, ag, q⟩ => ?_
  intro p hp
  exact q (.ref p) (m ++ [p]) _ (Le.new ag.hold hp) (ag.hold.new hp ⟨[], upd_same, .nil⟩) (.ref (by rw [← ag.hold.len, List.getElem?_append_right (Nat.le_refl _), Nat.sub_self]; rfl))

/-! ### isinstance, with a built-in class -/
def tyN (d : D) (s : S) : Option String := match d with
  | .non => some "NoneType"
  | .bl _ => some "bool"
  | .int _ => some "int"
  | .str _ => some "str"
  | .tup _ => some "tuple"
  | .rol _ => some "list"
  | .ref p => match s[p]? with
    | some (.lst _) => some "list"
    | some (.dct _) => some "dict"
    | some (.dtt _) => some "dict"
    | _ => none
  | _ => none
theorem tyX_of {m : List Addr} {H : Hp} {s : S} {v : V} {d : D} {n : String} (hold : Hold g m s H) (r : Rep g m H v d) (h : tyN d s = some n) : TyX g.K H v (.type n) := by
  cases r with
  | non => cases h; exact .base .non
  | bl b => cases h; exact .base (.bl b)
  | int i => cases h; exact .base (.int i)
  | str x => cases h; exact .base (.str x)
  | ty y => cases h
  | glo z => cases h
  | tup z t =>
    cases h
    rcases z with ⟨z, _⟩ | ⟨o, its, n, e, c, _⟩
    · exact .base (.tup z)
    · exact .kTuple e c
  | rol z t =>
    cases h
    rcases z with ⟨⟨o, z⟩, _⟩ | ⟨o, its, n, e, c, _⟩
    · exact .base (.frz z)
    · exact .kList e c
  | @ref a p z =>
    have h : (match s[p]? with
      | some (.lst _) => some "list"
      | some (.dct _) => some "dict"
      | some (.dtt _) => some "dict"
      | _ => none) = some n := h
    split at h
    · rename_i e1; cases h; obtain ⟨ys, e2, t⟩ := hold.obj p a _ z e1; exact .base (.lst e2)
    · rename_i e1; cases h; obtain ⟨ys, e2, t⟩ := hold.obj p a _ z e1; exact .base (.dK e2)
    · rename_i e1; cases h; obtain ⟨ys, e2, t⟩ := hold.obj p a _ z e1; exact .base (.dT e2)
    · cases h
/-- the answers that are asked here -/
def isB (a b : String) : Option Bool :=
  if b = "int" then some (a == "int" || a == "bool") else if b = "bool" then some (a == "bool") else if b = "str" then some (a == "str") else if b = "tuple" then some (a == "tuple") else if b = "list" then some (a == "list") else none
def isiB : OPN := fun ds s => match ds with
  | [d, .ty c] => match tyN d s with
    | some n => (isB n c).map fun b => (.bl b, s)
    | none => none
  | _ => none
theorem tyN_mem {d : D} {s : S} {n : String} (h : tyN d s = some n) : n = "NoneType" ∨ n = "bool" ∨ n = "int" ∨ n = "str" ∨ n = "tuple" ∨ n = "list" ∨ n = "dict" := by
  unfold tyN at h
  split at h <;> first | (cases h; simp; done) | skip
  split at h <;> first | (cases h; simp; done) | skip
  all_goals cases h
theorem isB_ok {d : D} {s : S} {n c : String} {b : Bool} (K : PySem.W.Frag) (hn : tyN d s = some n) (h : isB n c = some b) : PySem.W.kitOne K (.type n) (.type c) = some b := by
  refine kit_ty ?_
  unfold isB at h
  rcases tyN_mem hn with rfl | rfl | rfl | rfl | rfl | rfl | rfl <;>
  · split at h
    · rename_i e; subst e; cases h; decide +kernel
    · split at h
      · rename_i e; subst e; cases h; decide +kernel
      · split at h
        · rename_i e; subst e; cases h; decide +kernel
        · split at h
          · rename_i e; subst e; cases h; decide +kernel
          · split at h
            · rename_i e; subst e; cases h; decide +kernel
            · cases h
theorem on_isi : ON g (rIsi g.K) isiB := by
  intro m H s vs ds x s' Q hold rv he q
  unfold isiB at he
  split at he
  · rename_i d c
    obtain ⟨v, w, rfl, r, r'⟩ := reps2 rv
    cases r'
    split at he
    · rename_i n hn
      cases hb : isB n c with
      | none => rw [hb] at he; cases he
      | some b =>
        rw [hb] at he; cases he
        exact ⟨v, .ty c, .type n, .type c, b, rfl, .ty c, tyX_of hold r hn, isB_ok g.K hn hb, PD.here hold (.bl _) q⟩
    · cases he
  · cases he
theorem s_ty {x : Str} {n : String} {pos : Pos} (hg : Gl X x) (hm : X.mg x = none) (hv : bootBuiltins x = some (.type n)) (hn : x ≠ "__name__" := by decide) (hd : (x == ("__debug__" : Str)) = false := by decide) : PE X (.Name x pos) (sem g W (cn (.ty n))) :=
  s_con (pe_bltn hg hm hv (v := .ty n) rfl hn hd) fun _ _ => .ty n

/-! ### list(range(..)), tuple(range(..)) -/
def eLRg1 (f : EX) : EX := fun env s => (f env s).bind fun d s1 => match d with
  | .int n => if 0 ≤ n ∧ n ≤ 16777216 then .ok (.ref s1.length) (s1 ++ [.lst (rng 0 n.toNat)]) else .no
  | _ => .no
def eTRg1 (f : EX) : EX := fun env s => (f env s).bind fun d s1 => match d with
  | .int n => if 0 ≤ n ∧ n ≤ 16777216 then .ok (.tup (rng 0 n.toNat)) s1 else .no
  | _ => .no
theorem reps_rng {m : List Addr} {H : Hp} {n : Int} : Reps g m H (rgV 0 n) (rng 0 n.toNat) := by
  unfold rgV rng
  rw [Int.sub_zero]
  generalize List.range n.toNat = l
  induction l with
  | nil => exact .nil
  | cons i l ih => exact .cons (.int _) ih
theorem s_lrg1 {ex : Expr} {f : EX} (h : PE X ex (tLstRg (tRg1 (sem g W f)))) : PE X ex (sem g W (eLRg1 f)) := by
  refine PE.of h fun σ H Q ⟨m, env, s, ag, q⟩ => ?_
  refine sem_k ag (R.post_bind q) fun d s1 v m1 H1 q1 l1 a1 r1 => ?_
  cases r1 <;> first | exact q1.elim | skip
  rename_i n
  dsimp only at q1
  by_cases c : 0 ≤ n ∧ n ≤ 16777216
  · rw [if_pos c] at q1
    exact ⟨n, rfl, RgOk.of_le (Int.le_refl 0) c.2 (by omega) c.1, fun p hp => new_lst a1.hold hp reps_rng (PD.le l1 q1)⟩
  · rw [if_neg c] at q1; exact q1.elim
theorem s_trg1 {ex : Expr} {f : EX} (h : PE X ex (tTupRg (tRg1 (sem g W f)))) : PE X ex (sem g W (eTRg1 f)) := by
  refine PE.of h fun σ H Q ⟨m, env, s, ag, q⟩ => ?_
  refine sem_k ag (R.post_bind q) fun d s1 v m1 H1 q1 l1 a1 r1 => ?_
  cases r1 <;> first | exact q1.elim | skip
  rename_i n
  dsimp only at q1
  by_cases c : 0 ≤ n ∧ n ≤ 16777216
  · rw [if_pos c] at q1
    exact ⟨n, rfl, RgOk.of_le (Int.le_refl 0) c.2 (by omega) c.1, fun p hp => new_tup a1.hold hp reps_rng (PD.le l1 q1)⟩
  · rw [if_neg c] at q1; exact q1.elim

/-! ### sorted(d), d a dict with fewer than 64 keys, all ints -/
def keyInts : List (Key × D) → Option (List Int)
  | [] => some []
  | (.inl i, _) :: r => (keyInts r).map (i :: ·)
  | _ => none
def sortDB : OPN := fun ds s => match ds with
  | [d] => match dctAt d s with
    | some kvs => match keyInts kvs with
      | some ns => if ns.length < 64 then some (.ref s.length, s ++ [.lst ((sortI ns).map D.int)]) else none
      | none => none
    | none => none
  | _ => none
theorem keyInts_rep {m : List Addr} {H : Hp} : ∀ {es : List (Key × V)} {kvs : List (Key × D)} {ns : List Int}, EntK g m H es kvs → keyInts kvs = some ns → es.map (·.1) = ns.map Sum.inl
  | _, _, _, .nil, h => by cases h; rfl
  | _, _, _, .cons (a := p) (b := q) (l₂ := kvs) r t, h => by
    obtain ⟨pk, pv⟩ := p
    obtain ⟨qk, qv⟩ := q
    cases qk with
    | inr y => cases h
    | inl i =>
      have h : (keyInts kvs).map (i :: ·) = some _ := h
      cases e : keyInts kvs with
      | none => rw [e] at h; cases h
      | some ns =>
        rw [e] at h; cases h
        rw [List.map_cons, List.map_cons, keyInts_rep t e]
        have : pk = Sum.inl i := r.1.symm
        rw [this]
theorem on_sortD : ON g (fun xs H Q => ∃ (a : Addr) (kvs : List (Key × V)) (ks : List Int), xs = [.ref a] ∧ Rd H a (.dK kvs) ∧ kvs.map (·.1) = ks.map Sum.inl ∧ ks.length < 64 ∧
    ∀ (ys : List Int) (p : Addr), ys.Perm ks → ys.Pairwise (· ≤ ·) → H p = none → Q (.ref p) (upd H p (.lst (ys.map V.int)))) sortDB := by
  intro m H s vs ds x s' Q hold rv he q
  unfold sortDB at he
  split at he
  · rename_i d
    obtain ⟨v, rfl, r⟩ := reps1 rv
    split at he
    · rename_i kvs h1
      obtain ⟨p, a, es, rfl, rfl, z, e2, t⟩ := dct_rep hold r h1
      split at he
      · rename_i ns h2
        by_cases c : ns.length < 64
        · rw [if_pos c] at he; cases he
          refine ⟨a, es, ns, rfl, .inl e2, keyInts_rep t h2, c, fun ys l h1 h2 hl => ?_⟩
          rw [sort_uniq h1 h2]
          exact new_lst hold hl (reps_ints _) q
        · rw [if_neg c] at he; cases he
      · cases he
    · cases he
  · cases he

/-! ### what stands in the written part: tuples, dicts with text keys -/
/-- a tuple of the module -/
theorem s_gt {x : Str} {a : Addr} {ds : List D} {pos : Pos} {o : Obj} {its : Array Value} {n : Nat} {xs : List V} (hg : Gl X x) (hm : X.mg x = some (.ref a)) (e : X.K.lookup a = some o) (hc : o.cls = .type "tuple") (hd : o.data = .seq its n) (hz : its.size ≤ sizeLine) (hv : Vals xs its.toList)
    (r : ∀ m H, Reps ⟨X.K, X.mg⟩ m H xs ds) (hdb : (x == ("__debug__" : Str)) = false := by decide) : PE X (.Name x pos) (sem ⟨X.K, X.mg⟩ W (cn (.tup ds))) :=
  s_con (pe_glob hg hm (v := .ref a) rfl hdb) fun m H => .tup (.inr ⟨o, its, n, e, hc, hd, hz, hv⟩) (r m H)
/-- an int of the module -/
theorem s_gi {x : Str} {i : Int} {t : Tok} {pos : Pos} (hg : Gl X x) (hm : X.mg x = some (.int i t)) (hdb : (x == ("__debug__" : Str)) = false := by decide) : PE X (.Name x pos) (sem g W (cn (.int i))) :=
  s_con (pe_glob hg hm (v := .int i) ⟨t, rfl⟩ hdb) fun m H => .int i
/-- an object of the module as a value -/
theorem s_go {x : Str} {a : Addr} {pos : Pos} (hg : Gl X x) (hm : X.mg x = some (.ref a)) (hdb : (x == ("__debug__" : Str)) = false := by decide) : PE X (.Name x pos) (sem ⟨X.K, X.mg⟩ W (cn (.glo x))) :=
  s_con (pe_glob hg hm (v := .ref a) rfl hdb) fun m H => .glo hm
/-- the dict x of the module: its entries -/
structure GD (K : PySem.W.Frag) (w : World) (mg : Str → Option Value) (x : Str) (kvs : List (Str × D)) : Prop where
  ex : ∃ (a : Addr) (es : Array DictEntry) (n : Nat), mg x = some (.ref a) ∧ KDict K w a es n ∧
    Paired (fun (e : DictEntry) (kv : Str × D) => (∃ t, e.key = .str kv.1 t) ∧ ∃ v, RelV v e.val ∧ ∀ m H, Rep ⟨K, mg⟩ m H v kv.2) es.toList kvs
def lookG (kvs : List (Str × D)) (z : Str) : Option D := (kvs.find? fun kv => decide (kv.1 = z)).map (·.2)
theorem gd_find {K : PySem.W.Frag} {mg : Str → Option Value} {z : Str} : ∀ {es : List DictEntry} {kvs : List (Str × D)}, Paired (fun (e : DictEntry) (kv : Str × D) => (∃ t, e.key = .str kv.1 t) ∧ ∃ v, RelV v e.val ∧ ∀ m H, Rep ⟨K, mg⟩ m H v kv.2) es kvs →
    (lookG kvs z = none ∧ es.find? (fun e => e.key.isStr z) = none) ∨ ∃ e v d, lookG kvs z = some d ∧ es.find? (fun e => e.key.isStr z) = some e ∧ RelV v e.val ∧ ∀ m H, Rep ⟨K, mg⟩ m H v d
  | _, _, .nil => .inl ⟨rfl, rfl⟩
  | _, _, .cons (a := e) (b := kv) (l₁ := es) (l₂ := kvs) r t => by
    obtain ⟨⟨tk, hk⟩, v, rv, rep⟩ := r
    have hs : e.key.isStr z = decide (kv.1 = z) := by
      rw [hk]
      show (kv.1 == z) = _
      exact Bool.beq_eq_decide_eq kv.1 z
    unfold lookG
    rw [List.find?_cons, List.find?_cons, hs]
    by_cases c : kv.1 = z
    · rw [decide_eq_true c]
      exact .inr ⟨e, v, kv.2, rfl, rfl, rv, rep⟩
    · rw [decide_eq_false c]
      exact gd_find t
theorem gd_norefs {K : PySem.W.Frag} {mg : Str → Option Value} : ∀ {es : List DictEntry} {kvs : List (Str × D)}, Paired (fun (e : DictEntry) (kv : Str × D) => (∃ t, e.key = .str kv.1 t) ∧ ∃ v, RelV v e.val ∧ ∀ m H, Rep ⟨K, mg⟩ m H v kv.2) es kvs → es.any (·.refKey) = false
  | _, _, .nil => rfl
  | _, _, .cons (a := e) r t => by
    obtain ⟨⟨tk, hk⟩, _⟩ := r
    rw [List.any_cons, gd_norefs t, Bool.or_false]
    unfold DictEntry.refKey
    rw [hk]
def ginD (x : Str) (kvs : List (Str × D)) (neg : Bool) : OP2 := fun d e s => match d, e with
  | .str z, .glo y => if y = x then some (.bl (if neg then !(lookG kvs z).isSome else (lookG kvs z).isSome), s) else none
  | _, _ => none
def gixD (x : Str) (kvs : List (Str × D)) : OP2 := fun d e s => match d, e with
  | .glo y, .str z => if y = x then (lookG kvs z).map fun v => (v, s) else none
  | _, _ => none
theorem gd_ns {K : PySem.W.Frag} {w : World} {mg : Str → Option Value} {x : Str} {kvs : List (Str × D)} (h : GD K w mg x kvs) (z : Str) : ∃ a es n, mg x = some (.ref a) ∧ KDict K w a es n ∧ ((lookG kvs z = none ∧ PySem.W.nsIn K a z = some none) ∨ ∃ u v d, lookG kvs z = some d ∧ PySem.W.nsIn K a z = some (some u) ∧ RelV v u ∧ ∀ m H, Rep ⟨K, mg⟩ m H v d) := by
  obtain ⟨a, es, n, hm, kd, p⟩ := h.ex
  refine ⟨a, es, n, hm, kd, ?_⟩
  have e : PySem.W.nsIn K a z = match es.toList.find? (fun e => e.key.isStr z) with
      | some e => some (some e.val)
      | none => if es.toList.any (·.refKey) then none else some none := by
    unfold PySem.W.nsIn
    rw [kd.at_]
    rfl
  rcases gd_find (z := z) p with ⟨h1, h2⟩ | ⟨en, v, d, h1, h2, h3, h4⟩
  · rw [h2, gd_norefs p] at e
    exact .inl ⟨h1, e⟩
  · rw [h2] at e
    exact .inr ⟨en.val, v, d, h1, e, h3, h4⟩
theorem s_gin {x : Str} {kvs : List (Str × D)} {a b : Expr} {pos : Pos} {f f' : EX} (h : GD X.K X.w X.mg x kvs) (ha : PE X a (sem ⟨X.K, X.mg⟩ W f)) (hb : PE X b (sem ⟨X.K, X.mg⟩ W f')) (hm : behindInMarks .In b = false := by rfl) :
    PE X (.Compare a [.In] [b] pos) (sem ⟨X.K, X.mg⟩ W (e2 (ginD x kvs false) f f')) := by
  obtain ⟨ad, es, n, hmg, kd, _⟩ := gd_ns h ""
  refine s_cmp (op_in_kd kd) ?_ ha hb hm
  intro m H s v w d e y s' Q hold rv rw1 he q
  unfold ginD at he
  split at he
  · rename_i z y'
    by_cases c : y' = x
    · rw [if_pos c] at he; cases he
      subst c
      cases rv
      cases rw1 with
      | @glo a' _ hm' =>
        obtain ⟨ad', es', n', hmg', kd', h2⟩ := gd_ns h z
        rw [hmg] at hmg'; cases hmg'
        have hm' : X.mg _ = some (.ref a') := hm'
        rw [hmg] at hm'; cases hm'
        rcases h2 with ⟨h3, h4⟩ | ⟨u, v, d, h3, h4, _⟩
        · exact ⟨z, none, rfl, rfl, h4, by rw [h3] at q; exact PD.here hold (.bl _) q⟩
        · exact ⟨z, some u, rfl, rfl, h4, by rw [h3] at q; exact PD.here hold (.bl _) q⟩
    · rw [if_neg c] at he; cases he
  · cases he
theorem ix_kd {d : Addr} {es : Array DictEntry} {n : Nat} (kd : KDict X.K X.w d es n) : IxR X (fun x y H Q => ∃ (z : Str) (u0 : Value) (v0 : V), x = .ref d ∧ y = .str z ∧ PySem.W.nsIn X.K d z = some (some u0) ∧ RelV v0 u0 ∧ Q v0 H) := by
  intro value slice pins s σ H x y v u Q I rx ry q hs
  have ty : s.TypeIs v "dict" := by
    obtain ⟨z, u0, v0, rfl, _⟩ := q
    cases rx
    exact kd_type kd I
  exact tail_any ty slot_dict_getitem.lookup (op_item_kd kd pins s σ H x y v u Q I rx ry q) hs
theorem s_gix {x : Str} {kvs : List (Str × D)} {a b : Expr} {pos : Pos} {f f' : EX} (h : GD X.K X.w X.mg x kvs) (ha : PE X a (sem ⟨X.K, X.mg⟩ W f)) (hb : PE X b (sem ⟨X.K, X.mg⟩ W f')) (hs : PlainIx b) :
    PE X (.Subscript a b pos) (sem ⟨X.K, X.mg⟩ W (e2 (gixD x kvs) f f')) := by
  obtain ⟨ad, es, n, hmg, kd, _⟩ := gd_ns h ""
  refine s_ix (ix_kd kd) ?_ ha hb hs
  intro m H s v w d e y s' Q hold rv rw1 he q
  unfold gixD at he
  split at he
  · rename_i y' z
    by_cases c : y' = x
    · rw [if_pos c] at he
      subst c
      cases rw1
      cases rv with
      | @glo a' _ hm' =>
        obtain ⟨ad', es', n', hmg', kd', h2⟩ := gd_ns h z
        rw [hmg] at hmg'; cases hmg'
        have hm' : X.mg _ = some (.ref a') := hm'
        rw [hmg] at hm'; cases hm'
        rcases h2 with ⟨h3, h4⟩ | ⟨u, v, d, h3, h4, h5, h6⟩
        · rw [h3] at he; cases he
        · rw [h3] at he; cases he
          exact ⟨z, u, v, rfl, rfl, h4, h5, PD.here hold (h6 m H) q⟩
    · rw [if_neg c] at he; cases he
  · cases he
end
end Mi

set_option Elab.async false
set_option linter.all false
set_option maxRecDepth 100000
namespace Mi
open PySem PySem.Spec PyProof.Rows L2

section
variable {X : Cx} {g : G} {W : XK}
def iSeqV (K : PySem.W.Frag) (tl : TE) : TI := fun σ H R => tl σ H fun x H1 => ∃ a, x = .ref a ∧ (((∃ xs, SqL K H1 a xs) ∧ R (Itl K a) H1) ∨ ((∃ xs, SqT K H1 a xs) ∧ R (Itt K a) H1))
theorem pi_seq {tg l : Expr} {tl : TE} (hl : PE X l tl) : PI X tg l (iSeqV X.K tl) := by
  refine ⟨fun pins s σ H R I h => ?_⟩
  refine thn (hl.run pins s σ H _ I h) fun v s1 ⟨x, H1, I1, r1, q1⟩ => ?_
  obtain ⟨a, e, q⟩ := q1
  subst e
  cases r1
  rcases q with ⟨⟨xs, hq⟩, q⟩ | ⟨⟨xs, hq⟩, q⟩
  · obtain ⟨its, rv, p, hz⟩ := I1.list hq
    refine wpAny_pyIter_list p.isList ?_
    refine ⟨s1.heap.objs.size, [s1.heap.objs.size], _, _, H1, rfl, I1.kept (t' := s1.toks) fun b o e => Heap.get?_push_of_some _ e, turn_list a _, ⟨_, Heap.get?_push_size _ rfl, rfl, rfl⟩, fun b hb => ?_, q⟩
    have e : b = s1.heap.objs.size := by simpa using hb
    subst e
    exact I1.fpOk (Nat.le_refl _) (I1.hok.fresh (Nat.le_refl _))
  · obtain ⟨its, rv, p, hz⟩ := I1.tuple hq
    refine wpAny_pyIter_tuple (show s1.heap.IsTuple a its.toArray from p) ?_
    refine ⟨s1.heap.objs.size, [s1.heap.objs.size], _, _, H1, rfl, I1.kept (t' := s1.toks) fun b o e => Heap.get?_push_of_some _ e, turn_tuple a _, ⟨_, Heap.get?_push_size _ rfl, rfl, rfl⟩, fun b hb => ?_, q⟩
    have e : b = s1.heap.objs.size := by simpa using hb
    subst e
    exact I1.fpOk (Nat.le_refl _) (I1.hok.fresh (Nat.le_refl _))
theorem i_seq {tg e : Expr} {f : EX} (h : PE X e (sem ⟨X.K, X.mg⟩ W f)) : PI X tg e (semI ⟨X.K, X.mg⟩ W (iSeq f)) := by
  refine PI.of (pi_seq h) fun σ H Q ⟨m, env, s, ag, q⟩ => ?_
  refine sem_k ag (R.post_bind q) fun d s1 v m1 H1 q1 l1 a1 r1 => ?_
  cases r1 with
  | tup z r => exact ⟨_, rfl, .inr ⟨⟨_, z.sq⟩, q1 _ m1 H1 l1 a1.hold (walks_tup z r)⟩⟩
  | rol z r => exact ⟨_, rfl, .inl ⟨⟨_, z.sq⟩, q1 _ m1 H1 l1 a1.hold (walks_rol z r)⟩⟩
  | @ref a p z =>
    dsimp only at q1
    split at q1
    · rename_i ds e1
      obtain ⟨xs, e2, _⟩ := a1.hold.obj p a _ z e1
      exact ⟨a, rfl, .inl ⟨⟨xs, .of e2⟩, q1 _ m1 H1 l1 a1.hold (walks_ref z)⟩⟩
    · exact q1.elim
  | _ => exact q1.elim
theorem sem_chain {r r' : R2} {o o' : OP2} {f f' f'' : EX} (ho : O2 g r o) (ho' : O2 g r' o') {σ : L2.St} {H : Hp} {Q : VK} (h : sem g W (eCh o o' f f' f'') σ H Q) : tChain r r' (sem g W f) (sem g W f') (sem g W f'') σ H Q := by
  obtain ⟨m, env, s, ag, q⟩ := h
  refine sem_k ag (R.post_bind q) fun d s1 v m1 H1 q1 l1 a1 r1 => ?_
  refine sem_k a1 (R.post_mono (R.post_bind q1) (fun _ _ z => z) fun _ _ _ z => WX.le l1 z) fun e s2 w m2 H2 q2 l2 a2 r2 => ?_
  obtain ⟨k, s3, e1, q3⟩ := R.post_of (R.post_bind q2)
  refine ho m2 H2 s2 v w d e k s3 _ a2.hold (r1.le l2) r2 e1 fun u m3 H3 l3 hold3 r3 => ?_
  have a3 := a2.go l3 hold3
  cases r3 <;> first | exact q3.elim | skip
  rename_i kb
  refine ⟨kb, rfl, ?_⟩
  cases kb with
  | false => exact iteF (q3 _ m3 H3 (l1.trans (l2.trans l3)) hold3 (.bl false))
  | true =>
    refine iteT ?_
    refine sem_k a3 (R.post_mono (R.post_bind q3) (fun _ _ z => z) fun _ _ _ z => WX.le (l1.trans (l2.trans l3)) z) fun c s4 x m4 H4 q4 l4 a4 r4 => ?_
    obtain ⟨k2, s5, e2, q5⟩ := R.post_of (R.post_bind q4)
    refine ho' m4 H4 s4 w x e c k2 s5 _ a4.hold (r2.le (l3.trans l4)) r4 e2 fun u m5 H5 l5 hold5 r5 => ?_
    cases k2 <;> first | exact q5.elim | skip
    cases r5
    exact q5 _ m5 H5 (l1.trans (l2.trans (l3.trans (l4.trans l5)))) hold5 (.bl _)
theorem s_chain {r r' : R2} {o o' : OP2} {a : Expr} {f f' f'' : EX} (h : PE X a (tChain r r' (sem g W f) (sem g W f') (sem g W f''))) (ho : O2 g r o) (ho' : O2 g r' o') : PE X a (sem g W (eCh o o' f f' f'')) :=
  PE.of h fun _ _ _ q => sem_chain ho ho' q
theorem t_chain {r r' : R2} {o o' : OP2} {a : Expr} {f f' f'' : EX} (h : PT X a (tTest (tChain r r' (sem g W f) (sem g W f') (sem g W f'')))) (ho : O2 g r o) (ho' : O2 g r' o') : PT X a (semB g W (tB1 (eCh o o' f f' f''))) := by
  refine PT.of h fun σ H Q ⟨m, env, s, ag, q⟩ => ?_
  refine sem_chain ho ho' (sem_k ag (R.post_bind q) fun d s1 v m1 H1 q1 l1 a1 r1 => ?_)
  cases r1 <;> first | exact q1.elim | skip
  exact ⟨_, rfl, q1 m1 H1 l1 a1.hold⟩
end

/-! ### a def as it stands -/
/-- the def x keeps: it does F, at level L -/
structure Keeps (P : Program) (w : World) (K : PySem.W.Frag) (mg : Str → Option Value) (base : Heap) (L : Nat) (x : Str) (ps : List Str) (F : FN) (f : Addr) (fd : FuncData) : Prop where
  ok : FnOk P w K mg base CX0 L f fd ps (spF ⟨K, mg⟩ ps.length F)
  at_ : mg x = some (.ref f)
  kp : PySem.W.keepIn K (.ref f) = true
  bd : Binds K fd ps []
structure DefAt (K : PySem.W.Frag) (mg : Str → Option Value) (x : Str) (st : Stmt) (ps : List Str) (f : Addr) (fd : FuncData) : Prop where
  fn : Fun K x x st f fd
  at_ : mg x = some (.ref f)
  bd : Binds K fd ps []
section
variable {P : Program} {w : World} {K : PySem.W.Frag} {mg : Str → Option Value} {base : Heap}
theorem keeps_of {x : Str} {st : Stmt} {f : Addr} {fd : FuncData} {N ps : List Str} {k : Nat} {b : ST} (h : DefAt K mg x st ps f fd) (sc : FnScope N ps (defScope st))
    (hb : ∀ (cdv : Value) (A : Around) (outer : List PySem.Env) (s : Shared) (H : Hp) (E : XK), Room k (A.deeper (envOfC x (defScope st) s.heap.objs.size f cdv)) →
      PSs (cxOf CX0 P w K mg base N x (defScope st) f cdv A outer s H E).nox (defBody st) (semS ⟨K, mg⟩ E0 b)) : Keeps P w K mg base (k + 1) x ps (fnB N.length ps.length b) f fd :=
  ⟨fn_ok h.fn sc hb, h.at_, h.fn.kp, h.bd⟩
variable {X : Cx} {W : XK}
theorem s_own {L L' n : Nat} {x : Str} {ps : List Str} {F : FN} {f : Addr} {fd : FuncData} {e : Expr} {es : List Expr} {fa : EA} {p pos : Pos} (h : Keeps X.prog X.w X.K X.mg X.base L x ps F f fd) (hl : L ≤ L') (hr : Room L' X.A) (hn : ps.length = n) (hg : Gl X x)
    (ha : PA X (e :: es) (semA ⟨X.K, X.mg⟩ E0 fa)) (hdb : (x == ("__debug__" : Str)) = false := by decide) (he : starEach (e :: es) X.env = (false, eval e X.env) :: starEach es X.env := by rfl) (hpl : (backTo pos (starEach es X.env)).any (·.1) = false := by rfl) :
    PE X (.Call (.Name x p) (e :: es) [] pos) (sem ⟨X.K, X.mg⟩ E0 (eCall n F fa)) := by
  subst hn
  exact s_call (pe_call (h.ok.mono hl) hr hg h.at_ h.kp h.bd .nil pass0 ha hdb he hpl)
end

/-! ### the law -/
/-- what a law's def is to promise -/
def spL (K : PySem.W.Frag) : Sp := fun vs H Q _ => ∃ (a : Addr) (ns : List Int) (o : Obj), vs = [.ref a] ∧ (H a = some (.frz o (.lst (ns.map V.int))) ∨ ((∀ b, H b = none ∨ ∃ o xs, H b = some (.frz o (.lst xs))) ∧ SqL K H a (ns.map V.int))) ∧ ns.length ≤ 63 ∧ ∀ H', Q (.bl true) H'
theorem law_sp {g : G} {F : FN} (h : ∀ ns : List Int, ns.length ≤ 63 → ∃ s, F [.rol (ns.map D.int)] [] = .ok (.bl true) s) {H : Hp} {a : Addr} {ns : List Int} (hl : ns.length ≤ 63) (ho : Only H) (hS : SqL g.K H a (ns.map V.int)) :
    spF g 1 F [.ref a] H (fun v _ => v = .bl true) fun _ _ _ => False := by
  obtain ⟨s, e⟩ := h ns hl
  have hr : RdL g [] H a (ns.map V.int) := by
    rcases hS with h | h
    · rcases h with h | ⟨o, h⟩
      · rcases ho a with z | ⟨o, xs, z⟩
        · rw [h] at z; cases z
        · rw [h] at z; cases z
      · exact .inl ⟨⟨o, h⟩, by simp⟩
    · exact .inr h
  refine ⟨[], [], [.rol (ns.map D.int)], rfl, ⟨rfl, List.nodup_nil, fun p a o h => by simp at h⟩, .cons (.rol hr (reps_ints ns)) .nil, ?_⟩
  rw [e]
  intro v m' H' l hold r
  cases r
  rfl
end Mi

set_option Elab.async false
set_option linter.all false
set_option maxRecDepth 100000
namespace Mi
open PySem PySem.Spec PyProof.Rows L2
section
variable {X : Cx} {g : G} {W : XK}
def eNeg (f : EX) : EX := fun env s => (f env s).bind fun d s1 => match d with
  | .int i => .ok (.int (-i)) s1
  | _ => .no
theorem s_neg {a : Expr} {f : EX} {pos : Pos} (h : PE X a (sem g W f)) : PE X (.UnaryOp .USub a pos) (sem g W (eNeg f)) := by
  refine PE.of (pe_un un_neg h) fun σ H Q ⟨m, env, s, ag, q⟩ => ?_
  refine sem_k ag (R.post_bind q) fun d s1 v m1 H1 q1 l1 a1 r1 => ?_
  cases r1 <;> first | exact q1.elim | skip
  exact ⟨_, rfl, q1 _ m1 H1 l1 a1.hold (.int _)⟩
theorem sw_trueD {kx vx : Expr} {gs : List Comprehension} {scope : Scope} {pos py : Pos} {y : Str} {l : Nat} {env : PySem.Env} (hk : env.scope.kind = .function) (hy : env.scope.names.lookup y = some .local) (hl : (py.line == pos.line) = true)
    (ha : (scope.names.any fun (n, k) => n == y && (k == .local || k == .cell)) = false) : swapsWith (.DictComp kx vx gs scope pos) (some (.Name y py)) l env = pure true := by
  have ky : env.kindOf y = some .local := hy
  have hb : env.blockKind = .function := by unfold Env.blockKind; rw [hk]; rfl
  unfold swapsWith
  simp only [hb, ky, ha, Expr.pos, hl]
  rfl
/-- a value that is a bool, as a test of a comparison -/
theorem t_gin {x : Str} {kvs : List (Str × D)} {a b : Expr} {pos : Pos} {f f' : EX} (h : GD X.K X.w X.mg x kvs) (ha : PE X a (sem ⟨X.K, X.mg⟩ W f)) (hb : PE X b (sem ⟨X.K, X.mg⟩ W f')) (hm : behindInMarks .In b = false := by rfl) :
    PT X (.Compare a [.In] [b] pos) (semB ⟨X.K, X.mg⟩ W (tB1 (e2 (ginD x kvs false) f f'))) := by
  obtain ⟨ad, es, n, hmg, kd, _⟩ := gd_ns h ""
  refine t_cmp (op_in_kd kd) ?_ ha hb hm
  intro m H s v w d e y s' Q hold rv rw1 he q
  unfold ginD at he
  split at he
  · rename_i z y'
    by_cases c : y' = x
    · rw [if_pos c] at he; cases he
      subst c
      cases rv
      cases rw1 with
      | @glo a' _ hm' =>
        obtain ⟨ad', es', n', hmg', kd', h2⟩ := gd_ns h z
        rw [hmg] at hmg'; cases hmg'
        have hm' : X.mg _ = some (.ref a') := hm'
        rw [hmg] at hm'; cases hm'
        rcases h2 with ⟨h3, h4⟩ | ⟨u, v, d, h3, h4, _⟩
        · exact ⟨z, none, rfl, rfl, h4, by rw [h3] at q; exact PD.here hold (.bl _) q⟩
        · exact ⟨z, some u, rfl, rfl, h4, by rw [h3] at q; exact PD.here hold (.bl _) q⟩
    · rw [if_neg c] at he; cases he
  · cases he
/-- the dict x of the module as a value -/
theorem s_gdn {x : Str} {kvs : List (Str × D)} {pos : Pos} (h : GD X.K X.w X.mg x kvs) (hg : Gl X x) (hdb : (x == ("__debug__" : Str)) = false := by decide) : PE X (.Name x pos) (sem ⟨X.K, X.mg⟩ W (cn (.glo x))) := by
  obtain ⟨a, es, n, hm, _⟩ := h.ex
  exact s_go hg hm hdb
end
end Mi

set_option Elab.async false
set_option linter.all false
set_option maxRecDepth 100000
namespace Mi
open PySem PySem.Spec PyProof.Rows L2
def spLaw (K : PySem.W.Frag) : Sp := fun vs H Q _ => ∃ (a : Addr) (ns : List Int), vs = [.ref a] ∧ ns.length ≤ 63 ∧ Only H ∧ SqL K H a (ns.map V.int) ∧ ∀ H', Q (.bl true) H'
theorem spLaw_sp {K : PySem.W.Frag} {mg : Str → Option Value} {F : FN} (h : ∀ ns : List Int, ns.length ≤ 63 → ∃ s, F [.rol (ns.map D.int)] [] = .ok (.bl true) s) {vs : List V} {H : Hp} {Q : VK} {E : XK} (q : spLaw K vs H Q E) : spF ⟨K, mg⟩ 1 F vs H Q E := by
  obtain ⟨a, ns, rfl, hl, ho, hS, q⟩ := q
  obtain ⟨s, e⟩ := h ns hl
  have hr : RdL ⟨K, mg⟩ [] H a (ns.map V.int) := by
    rcases hS with h | h
    · rcases h with h | ⟨o, h⟩
      · rcases ho a with z | ⟨o, xs, z⟩
        · rw [h] at z; cases z
        · rw [h] at z; cases z
      · exact .inl ⟨⟨o, h⟩, by simp⟩
    · exact .inr h
  refine ⟨[], [], [.rol (ns.map D.int)], rfl, ⟨rfl, List.nodup_nil, fun p a o h => by simp at h⟩, .cons (.rol hr (reps_ints ns)) .nil, ?_⟩
  rw [e]
  intro v m' H' l hold r
  cases r
  exact q H'
end Mi

set_option Elab.async false
set_option linter.all false
set_option maxRecDepth 100000
namespace Mi
open PySem PySem.Spec PyProof.Rows L2

/-! ### what a program does, by what is wanted of it -/
def WF {α : Type} (r : R α) (Q : α → S → Prop) : Prop := ∃ d s', r = .ok d s' ∧ Q d s'
def W (f : EX) (env : Env) (s : S) (Q : D → S → Prop) : Prop := WF (f env s) Q
def WB (f : EB) (env : Env) (s : S) (Q : Bool → S → Prop) : Prop := WF (f env s) Q
def WA (f : EA) (env : Env) (s : S) (Q : List D → S → Prop) : Prop := WF (f env s) Q
def WO (f : EO) (env : Env) (s : S) (Q : Option Int → S → Prop) : Prop := WF (f env s) Q
def WI (f : EI) (env : Env) (s : S) (Q : Wk → S → Prop) : Prop := WF (f env s) Q
def WP {α : Type} (o : Option α) (Q : α → Prop) : Prop := ∃ x, o = some x ∧ Q x
@[irreducible] def WS (f : ST) (env : Env) (s : S) (N : Env → S → Prop) (Rt : D → S → Prop) (B C : Env → S → Prop) : Prop := match f env s with
  | .nx e s => N e s
  | .rt d s => Rt d s
  | .bk e s => B e s
  | .ct e s => C e s
  | _ => False
theorem WF.mono {α : Type} {r : R α} {Q Q' : α → S → Prop} (h : WF r Q) (k : ∀ a s, Q a s → Q' a s) : WF r Q' := let ⟨d, s, e, q⟩ := h; ⟨d, s, e, k d s q⟩
theorem wf_ok {α : Type} {d : α} {s : S} {Q : α → S → Prop} : WF (R.ok d s) Q ↔ Q d s := ⟨fun ⟨_, _, e, q⟩ => by cases e; exact q, fun q => ⟨d, s, rfl, q⟩⟩
theorem wf_no {α : Type} {Q : α → S → Prop} : WF (R.no : R α) Q ↔ False := ⟨fun ⟨_, _, e, _⟩ => (by cases e), fun z => False.elim z⟩
theorem wf_ex {α : Type} {c : Str} {fs : XF} {s : S} {Q : α → S → Prop} : WF (R.ex c fs s : R α) Q ↔ False := ⟨fun ⟨_, _, e, _⟩ => (by cases e), fun z => False.elim z⟩
theorem wf_congr {α : Type} {r : R α} {Q Q' : α → S → Prop} (h : ∀ a s, Q a s ↔ Q' a s) : WF r Q ↔ WF r Q' := ⟨fun ⟨d, s, e, q⟩ => ⟨d, s, e, (h d s).mp q⟩, fun ⟨d, s, e, q⟩ => ⟨d, s, e, (h d s).mpr q⟩⟩
theorem wp_congr {α : Type} {r : Option α} {Q Q' : α → Prop} (h : ∀ a, Q a ↔ Q' a) : WP r Q ↔ WP r Q' := ⟨fun ⟨d, e, q⟩ => ⟨d, e, (h d).mp q⟩, fun ⟨d, e, q⟩ => ⟨d, e, (h d).mpr q⟩⟩
theorem wf_bind {α β : Type} {r : R α} {f : α → S → R β} {Q : β → S → Prop} : WF (r.bind f) Q ↔ WF r fun a s => WF (f a s) Q := by
  cases r with
  | no => exact ⟨fun ⟨_, _, e, _⟩ => (by cases e), fun ⟨_, _, e, _⟩ => by cases e⟩
  | ok a s => rw [wf_ok]; exact Iff.rfl
  | ex c fs s => exact ⟨fun ⟨_, _, e, _⟩ => (by cases e), fun ⟨_, _, e, _⟩ => by cases e⟩
theorem wf_of {α : Type} {o : Option (α × S)} {Q : α → S → Prop} : WF (R.of o) Q ↔ WP o fun p => Q p.1 p.2 := by
  cases o with
  | none => exact ⟨fun ⟨_, _, e, _⟩ => (by cases e), fun ⟨_, e, _⟩ => by cases e⟩
  | some p => exact ⟨fun ⟨_, _, e, q⟩ => by cases e; exact ⟨_, rfl, q⟩, fun ⟨_, e, q⟩ => by cases e; exact ⟨_, _, rfl, q⟩⟩
theorem wp_some {α : Type} {x : α} {Q : α → Prop} : WP (some x) Q ↔ Q x := ⟨fun ⟨_, e, q⟩ => by cases e; exact q, fun q => ⟨x, rfl, q⟩⟩
theorem wp_none {α : Type} {Q : α → Prop} : WP (none : Option α) Q ↔ False := ⟨fun ⟨_, e, _⟩ => (by cases e), fun z => False.elim z⟩
theorem wp_if {α : Type} {c : Prop} [Decidable c] {a : Option α} {Q : α → Prop} : WP (if c then a else none) Q ↔ c ∧ WP a Q := by
  by_cases h : c
  · rw [if_pos h]; exact ⟨fun q => ⟨h, q⟩, fun q => q.2⟩
  · rw [if_neg h, wp_none]; exact ⟨fun z => False.elim z, fun q => absurd q.1 h⟩
theorem wf_if {α : Type} {c : Prop} [Decidable c] {a : R α} {Q : α → S → Prop} : WF (if c then a else .no) Q ↔ c ∧ WF a Q := by
  by_cases h : c
  · rw [if_pos h]; exact ⟨fun q => ⟨h, q⟩, fun q => q.2⟩
  · rw [if_neg h, wf_no]; exact ⟨fun z => False.elim z, fun q => absurd q.1 h⟩
section
variable {f f' f'' : EX} {fa : EA} {fb fb' : EB} {env : Env} {s : S} {Q : D → S → Prop} {QB : Bool → S → Prop} {QA : List D → S → Prop} {QI : Wk → S → Prop} {QO : Option Int → S → Prop}
theorem w_vr {i : Nat} : W (vr i) env s Q ↔ WP (env[i]?) fun o => WP o fun d => Q d s := by
  unfold W vr
  cases h : env[i]? with
  | none => simp [wf_no, wp_none]
  | some o =>
    cases o with
    | none => simp [wf_no, wp_some, wp_none]
    | some d => simp [wf_ok, wp_some]
theorem w_cn {d : D} : W (cn d) env s Q ↔ Q d s := wf_ok
theorem w_e2 {o : OP2} : W (e2 o f f') env s Q ↔ W f env s fun d s1 => W f' env s1 fun e s2 => WP (o d e s2) fun p => Q p.1 p.2 := by
  unfold W e2
  rw [wf_bind]
  simp only [wf_bind, wf_of]
theorem w_tup : W (eTup fa) env s Q ↔ WA fa env s fun ds s1 => ds.length ≤ 16777216 ∧ Q (.tup ds) s1 := by
  unfold W eTup WA
  simp only [wf_bind, wf_if, wf_ok]
theorem w_lst : W (eLst fa) env s Q ↔ WA fa env s fun ds s1 => ds.length ≤ 16777216 ∧ Q (.ref s1.length) (s1 ++ [.lst ds]) := by
  unfold W eLst WA
  simp only [wf_bind, wf_if, wf_ok]
theorem w_aN : WA aN env s QA ↔ QA [] s := wf_ok
theorem w_aC : WA (aC f fa) env s QA ↔ W f env s fun d s1 => WA fa env s1 fun ds s2 => QA (d :: ds) s2 := by
  unfold W WA aC
  simp only [wf_bind, wf_ok]
theorem w_call {n : Nat} {F : FN} : W (eCall n F fa) env s Q ↔ WA fa env s fun ds s1 => ds.length = n ∧ WF (F ds s1) Q := by
  unfold W WA eCall
  simp only [wf_bind, wf_if]
theorem w_B {o : OPN} : W (eB o fa) env s Q ↔ WA fa env s fun ds s1 => WP (o ds s1) fun p => Q p.1 p.2 := by
  unfold W WA eB
  simp only [wf_bind, wf_of]
theorem w_M {T : String} {o : OPM} : W (eM T o f fa) env s Q ↔ W f env s fun d s1 => tyD T d s1 = true ∧ WA fa env s1 fun ds s2 => WP (o d ds s2) fun p => Q p.1 p.2 := by
  unfold W WA eM
  simp only [wf_bind, wf_of, wf_if]
theorem w_oN : WO oN env s QO ↔ QO none s := wf_ok
def asI (d : D) (Q : Int → Prop) : Prop := match d with
  | .int i => Q i
  | _ => False
def asBl (d : D) (Q : Bool → Prop) : Prop := match d with
  | .bl i => Q i
  | _ => False
theorem asI_int {i : Int} {Q : Int → Prop} : asI (.int i) Q ↔ Q i := Iff.rfl
theorem asBl_bl {i : Bool} {Q : Bool → Prop} : asBl (.bl i) Q ↔ Q i := Iff.rfl
theorem w_oS : WO (oS f) env s QO ↔ W f env s fun d s1 => asI d fun i => QO (some i) s1 := by
  unfold W WO oS
  rw [wf_bind]
  refine wf_congr fun d s1 => ?_
  cases d <;> simp [wf_ok, wf_no, asI]
theorem w_sl {l h : EO} : W (eSl f l h) env s Q ↔ W f env s fun d s1 => WO l env s1 fun lo s2 => WO h env s2 fun hi s3 => WP (slD d lo hi s3) fun p => Q p.1 p.2 := by
  unfold W WO eSl
  simp only [wf_bind, wf_of]
theorem w_B1 : WB (tB1 f) env s QB ↔ W f env s fun d s1 => asBl d fun b => QB b s1 := by
  unfold W WB tB1
  rw [wf_bind]
  refine wf_congr fun d s1 => ?_
  cases d <;> simp [asB, wf_ok, wf_no, asBl]
theorem w_Tl : WB (tTl f) env s QB ↔ W f env s fun d s1 => WP (truD d s1) fun b => QB b s1 := by
  unfold W WB tTl
  rw [wf_bind]
  refine wf_congr fun d s1 => ?_
  cases truD d s1 <;> simp [wf_ok, wf_no, wp_some, wp_none]
theorem w_An : WB (tAn fb fb') env s QB ↔ WB fb env s fun b s1 => if b = true then WB fb' env s1 QB else QB false s1 := by
  unfold WB tAn
  rw [wf_bind]
  refine wf_congr fun b s1 => ?_
  cases b <;> simp [wf_ok]
theorem w_Or : WB (tO fb fb') env s QB ↔ WB fb env s fun b s1 => if b = true then QB true s1 else WB fb' env s1 QB := by
  unfold WB tO
  rw [wf_bind]
  refine wf_congr fun b s1 => ?_
  cases b <;> simp [wf_ok]
theorem w_No : WB (tNo fb) env s QB ↔ WB fb env s fun b s1 => QB (!b) s1 := by
  unfold WB tNo
  simp only [wf_bind, wf_ok]
theorem w_eAn : W (eAn f f') env s Q ↔ W f env s fun d s1 => asBl d fun b => if b = true then W f' env s1 Q else Q (.bl false) s1 := by
  unfold W eAn
  rw [wf_bind]
  refine wf_congr fun d s1 => ?_
  cases d <;> first | simp [wf_no, asBl] | skip
  rename_i b
  cases b <;> simp [wf_ok, asBl]
theorem w_eO : W (eO f f') env s Q ↔ W f env s fun d s1 => asBl d fun b => if b = true then Q (.bl true) s1 else W f' env s1 Q := by
  unfold W eO
  rw [wf_bind]
  refine wf_congr fun d s1 => ?_
  cases d <;> first | simp [wf_no, asBl] | skip
  rename_i b
  cases b <;> simp [wf_ok, asBl]
theorem w_eNo : W (eNo f) env s Q ↔ W f env s fun d s1 => asBl d fun b => Q (.bl (!b)) s1 := by
  unfold W eNo
  rw [wf_bind]
  refine wf_congr fun d s1 => ?_
  cases d <;> simp [wf_ok, wf_no, asBl]
theorem w_eNeg : W (eNeg f) env s Q ↔ W f env s fun d s1 => asI d fun i => Q (.int (-i)) s1 := by
  unfold W eNeg
  rw [wf_bind]
  refine wf_congr fun d s1 => ?_
  cases d <;> simp [wf_ok, wf_no, asI]
theorem w_eIf : W (eIf fb f f') env s Q ↔ WB fb env s fun b s1 => if b = true then W f env s1 Q else W f' env s1 Q := by
  unfold W WB eIf
  rw [wf_bind]
  refine wf_congr fun b s1 => ?_
  cases b <;> simp
theorem w_ch {o o' : OP2} : W (eCh o o' f f' f'') env s Q ↔ W f env s fun d s1 => W f' env s1 fun e s2 => WP (o d e s2) fun p => asBl p.1 fun k => if k = true then W f'' env p.2 fun c s4 => WP (o' e c s4) fun p => asBl p.1 fun b => Q (.bl b) p.2 else Q (.bl false) p.2 := by
  unfold W eCh
  rw [wf_bind]
  refine wf_congr fun d s1 => ?_
  rw [wf_bind]
  refine wf_congr fun e s2 => ?_
  rw [wf_bind, wf_of]
  refine wp_congr fun p => ?_
  obtain ⟨k, s3⟩ := p
  cases k <;> first | simp [wf_no, asBl]; done | skip
  rename_i b
  cases b
  · simp [wf_ok, asBl]
  · dsimp only [asBl]
    rw [if_pos rfl, wf_bind]
    refine wf_congr fun c s4 => ?_
    rw [wf_bind, wf_of]
    refine wp_congr fun p => ?_
    obtain ⟨k, s5⟩ := p
    cases k <;> simp [wf_ok, wf_no, asBl]
theorem w_Dn : W eDn env s Q ↔ Q (.ref s.length) (s ++ [.dct []]) := wf_ok
theorem w_iSeq : WI (iSeq f) env s QI ↔ W f env s fun d s1 => match d with
    | .tup ds => QI ⟨ds, fun _ => True⟩ s1
    | .rol ds => QI ⟨ds, fun _ => True⟩ s1
    | .ref p => WP (listItems (.ref p) s1) fun ds => QI ⟨ds, fun s => s[p]? = some (.lst ds)⟩ s1
    | _ => False := by
  unfold W WI iSeq
  rw [wf_bind]
  refine wf_congr fun d s1 => ?_
  cases d with
  | tup ds => exact wf_ok
  | rol ds => exact wf_ok
  | ref p =>
    dsimp only [listItems]
    cases h : s1[p]? with
    | none => simp [wf_no, wp_none]
    | some o => cases o <;> simp [wf_ok, wf_no, wp_none, wp_some]
  | _ => simp [wf_no]
theorem w_iRg1 : WI (iRg1 f) env s QI ↔ W f env s fun d s1 => asI d fun j => (-4611686018427387904 ≤ j ∧ j < 4611686018427387904) ∧ QI ⟨rng 0 j.toNat, fun _ => True⟩ s1 := by
  unfold W WI iRg1
  rw [wf_bind]
  refine wf_congr fun d s1 => ?_
  cases d <;> first | simp [wf_no, asI]; done | skip
  simp only [wf_if, wf_ok, asI]
theorem w_lRg1 : W (eLRg1 f) env s Q ↔ W f env s fun d s1 => asI d fun n => (0 ≤ n ∧ n ≤ 16777216) ∧ Q (.ref s1.length) (s1 ++ [.lst (rng 0 n.toNat)]) := by
  unfold W eLRg1
  rw [wf_bind]
  refine wf_congr fun d s1 => ?_
  cases d <;> first | simp [wf_no, asI]; done | skip
  simp only [wf_if, wf_ok, asI]
theorem w_trg1 : W (eTRg1 f) env s Q ↔ W f env s fun d s1 => asI d fun n => (0 ≤ n ∧ n ≤ 16777216) ∧ Q (.tup (rng 0 n.toNat)) s1 := by
  unfold W eTRg1
  rw [wf_bind]
  refine wf_congr fun d s1 => ?_
  cases d <;> first | simp [wf_no, asI]; done | skip
  simp only [wf_if, wf_ok, asI]
end

/-! ### statements -/
section
variable {a b : ST} {f f' f'' : EX} {fa : EA} {c : EB} {env : Env} {s : S} {N : Env → S → Prop} {Rt : D → S → Prop} {B C : Env → S → Prop}
theorem ws_go {α : Type} {r : R α} {k : α → S → Fl} : (match r.go k with | .nx e s => N e s | .rt d s => Rt d s | .bk e s => B e s | .ct e s => C e s | _ => False) ↔ WF r fun x s => (match k x s with | .nx e s => N e s | .rt d s => Rt d s | .bk e s => B e s | .ct e s => C e s | _ => False) := by
  cases r with
  | no => simp [R.go, wf_no]
  | ok a s => simp [R.go, wf_ok]
  | ex c fs s => simp [R.go, wf_ex]
theorem ws_seq : WS (sSeq a b) env s N Rt B C ↔ WS a env s (fun e s => WS b e s N Rt B C) Rt B C := by
  unfold WS sSeq
  cases a env s <;> rfl
theorem ws_skip : WS sSkip env s N Rt B C ↔ N env s := by unfold WS; exact Iff.rfl
theorem ws_set {i : Nat} : WS (sSet i f) env s N Rt B C ↔ W f env s fun d s1 => N (env.set i (some d)) s1 := by
  unfold WS sSet
  exact ws_go
theorem ws_ex : WS (sEx f) env s N Rt B C ↔ W f env s fun _ s1 => N env s1 := by
  unfold WS sEx
  exact ws_go
theorem ws_ret : WS (sRet f) env s N Rt B C ↔ W f env s Rt := by
  unfold WS sRet
  exact ws_go
theorem ws_retN : WS sRetN env s N Rt B C ↔ Rt .non s := by unfold WS; exact Iff.rfl
theorem ws_bk : WS sBk env s N Rt B C ↔ B env s := by unfold WS; exact Iff.rfl
theorem ws_ct : WS sCt env s N Rt B C ↔ C env s := by unfold WS; exact Iff.rfl
theorem ws_if : WS (sIf c a b) env s N Rt B C ↔ WB c env s fun k s1 => if k = true then WS a env s1 N Rt B C else WS b env s1 N Rt B C := by
  unfold WS sIf WB
  rw [ws_go]
  refine wf_congr fun k s1 => ?_
  cases k <;> rfl
theorem ws_asg {t : T} : WS (sAsg t f) env s N Rt B C ↔ W f env s fun d s1 => WP (asgT t d env) fun e => N e s1 := by
  unfold WS sAsg W
  rw [ws_go]
  refine wf_congr fun d s1 => ?_
  cases asgT t d env <;> simp [wp_some, wp_none]
/-- a dict written at a key -/
def dputD (d k x : D) (s : S) : Option S := match d, dctAt d s, keyD k with
  | .ref p, some kvs, some k => if kvs.length < 16777216 then some (s.set p (.dct (putD kvs k x))) else none
  | _, _, _ => none
theorem dput_ok {d k x : D} {s3 : S} : (match (match d, dctAt d s3, keyD k with
      | .ref p, some kvs, some k => if kvs.length < 16777216 then Fl.nx env (s3.set p (.dct (putD kvs k x))) else .no
      | _, _, _ => .no) with | .nx e s => N e s | .rt d s => Rt d s | .bk e s => B e s | .ct e s => C e s | _ => False) ↔ WP (dputD d k x s3) fun s4 => N env s4 := by
  unfold dputD
  cases h2 : dctAt d s3 with
  | none => cases d <;> simp [wp_none]
  | some kvs =>
    cases h3 : keyD k with
    | none => cases d <;> simp [wp_none]
    | some k' =>
      cases d <;> first | simp [wp_none]; done | skip
      by_cases c : kvs.length < 16777216
      · simp [c, wp_some]
      · simp [c, wp_none]
theorem ws_dput : WS (sDPutD f f' f'') env s N Rt B C ↔ W f env s fun x s1 => W f' env s1 fun d s2 => W f'' env s2 fun k s3 => WP (dputD d k x s3) fun s4 => N env s4 := by
  unfold WS sDPutD W
  rw [ws_go]
  refine wf_congr fun x s1 => ?_
  rw [ws_go]
  refine wf_congr fun d s2 => ?_
  rw [ws_go]
  refine wf_congr fun k s3 => ?_
  exact dput_ok
theorem ws_daug {o : OP2} : WS (sDAugD o f' f'' f) env s N Rt B C ↔ W f' env s fun d s1 => W f'' env s1 fun k s2 => WP (dgetD d k s2) fun old => W f env old.2 fun x s3 => WP (o old.1 x s3) fun y => WP (dputD d k y.1 y.2) fun s4 => N env s4 := by
  unfold WS sDAugD W
  rw [ws_go]
  refine wf_congr fun d s1 => ?_
  rw [ws_go]
  refine wf_congr fun k s2 => ?_
  rw [ws_go, wf_of]
  refine wp_congr fun old => ?_
  rw [ws_go]
  refine wf_congr fun x s3 => ?_
  rw [ws_go, wf_of]
  refine wp_congr fun y => ?_
  exact dput_ok
theorem ws_lput : WS (sLPut f f' f'') env s N Rt B C ↔ W f env s fun x s1 => W f' env s1 fun d s2 => W f'' env s2 fun k s3 => WP (setLD d k x s3) fun s4 => N env s4 := by
  unfold WS sLPut W
  rw [ws_go]
  refine wf_congr fun x s1 => ?_
  rw [ws_go]
  refine wf_congr fun d s2 => ?_
  rw [ws_go]
  refine wf_congr fun k s3 => ?_
  cases setLD d k x s3 <;> simp [wp_some, wp_none]
theorem ws_aug {i : Nat} {o : OP2} : WS (sAug i o f) env s N Rt B C ↔ WP (env[i]?) fun v => WP v fun d => W f env s fun e s1 => WP (o d e s1) fun p => N (env.set i (some p.1)) p.2 := by
  unfold WS sAug W
  cases h : env[i]? with
  | none => simp [wp_none]
  | some v =>
    cases v with
    | none => simp [wp_some, wp_none]
    | some d =>
      simp only [wp_some, ws_go, wf_of]
/-- a def of the program, by its body -/
theorem wf_fn {tot n : Nat} {ds : List D} {Q : D → S → Prop} (h : ds.length = n) : WF (fnB tot n a ds s) Q ↔ WS a (ds.map some ++ List.replicate (tot - n) none) s (fun _ s' => Q .non s') Q (fun _ _ => False) fun _ _ => False := by
  unfold fnB WS
  rw [if_pos h]
  cases a (ds.map some ++ List.replicate (tot - n) none) s <;> simp [wf_ok, wf_no]
theorem WS.mono {N' : Env → S → Prop} {Rt' : D → S → Prop} {B' C' : Env → S → Prop} (h : WS a env s N Rt B C) (h1 : ∀ e s, N e s → N' e s) (h2 : ∀ e s, Rt e s → Rt' e s) (h3 : ∀ e s, B e s → B' e s) (h4 : ∀ e s, C e s → C' e s) : WS a env s N' Rt' B' C' := by
  unfold WS at h ⊢
  cases e : a env s <;> rw [e] at h <;> first | exact h1 _ _ h | exact h2 _ _ h | exact h3 _ _ h | exact h4 _ _ h | exact h
/-- a loop over items by an invariant on what was taken -/
theorem ws_for {t : T} {it : EI} (I : Nat → Env → S → Prop) (w : Wk) (h : WI it env s fun w' s1 => w' = w ∧ w.ok s1 ∧ I 0 env s1)
    (hs : ∀ i d env s, w.items[i]? = some d → I i env s → w.ok s → WP (asgT t d env) fun e1 => WS b e1 s (fun e s => w.ok s ∧ I (i + 1) e s) Rt N (fun e s => w.ok s ∧ I (i + 1) e s))
    (hd : ∀ env s, I w.items.length env s → w.ok s → N env s) : WS (sFor t it b) env s N Rt B C := by
  obtain ⟨w', s1, e1, rfl, hok, h0⟩ := h
  have key : ∀ (n i : Nat) (env : Env) (s : S), n = w'.items.length - i → i ≤ w'.items.length → I i env s → w'.ok s → (match forL t b w'.ok (w'.items.drop i) env s with | .nx e s => N e s | .rt d s => Rt d s | .bk e s => B e s | .ct e s => C e s | _ => False) := by
    intro n
    induction n with
    | zero =>
      intro i env s hn hi hI hok
      have : i = w'.items.length := by omega
      subst this
      rw [List.drop_length]
      unfold forL
      rw [if_pos hok]
      exact hd env s hI hok
    | succ n ih =>
      intro i env s hn hi hI hok
      have hlt : i < w'.items.length := by omega
      rw [List.drop_eq_getElem_cons hlt]
      unfold forL
      rw [if_pos hok]
      obtain ⟨env1, ea, hb⟩ := hs i w'.items[i] env s (List.getElem?_eq_getElem hlt) hI hok
      rw [ea]
      unfold WS at hb
      dsimp only
      cases e2 : b env1 s with
      | no => rw [e2] at hb; exact hb.elim
      | nx e2' s2 => rw [e2] at hb; exact ih (i + 1) e2' s2 (by omega) hlt hb.2 hb.1
      | ct e2' s2 => rw [e2] at hb; exact ih (i + 1) e2' s2 (by omega) hlt hb.2 hb.1
      | bk e2' s2 => rw [e2] at hb; exact hb
      | rt d s2 => rw [e2] at hb; exact hb
      | ex c fs s2 => rw [e2] at hb; exact hb.elim
  unfold WS sFor
  rw [e1]
  have := key w'.items.length 0 env s1 (by omega) (Nat.zero_le _) h0 hok
  rw [List.drop_zero] at this
  exact this
/-- a while by an invariant and a measure -/
theorem ws_while {n : Nat} (I : Nat → Env → S → Prop) (m0 : Nat) (hm : m0 < n) (h0 : I m0 env s)
    (hs : ∀ m env s, I m env s → WB c env s fun k s1 => if k = true then WS b env s1 (fun e s => ∃ m', m' < m ∧ I m' e s) Rt N (fun e s => ∃ m', m' < m ∧ I m' e s) else N env s1) : WS (whl c b n) env s N Rt B C := by
  have key : ∀ (n m : Nat) (env : Env) (s : S), m < n → I m env s → (match whl c b n env s with | .nx e s => N e s | .rt d s => Rt d s | .bk e s => B e s | .ct e s => C e s | _ => False) := by
    intro n
    induction n with
    | zero => intro m env s h; omega
    | succ n ih =>
      intro m env s h hI
      unfold whl
      rw [ws_go]
      refine WF.mono (hs m env s hI) fun k s1 q => ?_
      cases k with
      | false => simpa using q
      | true =>
        rw [if_pos rfl] at q ⊢
        unfold WS at q
        cases e2 : b env s1 with
        | no => rw [e2] at q; exact q.elim
        | nx e2' s2 => rw [e2] at q; obtain ⟨m', h', q⟩ := q; exact ih m' e2' s2 (by omega) q
        | ct e2' s2 => rw [e2] at q; obtain ⟨m', h', q⟩ := q; exact ih m' e2' s2 (by omega) q
        | bk e2' s2 => rw [e2] at q; exact q
        | rt d s2 => rw [e2] at q; exact q
        | ex c fs s2 => rw [e2] at q; exact q.elim
  unfold WS
  exact key n m0 env s hm h0
/-- a comprehension -/
theorem w_lc {t : T} {vs : List Nat} {it : EI} {e : EX} {Q : D → S → Prop} (I : Nat → List D → S → Prop) (w : Wk) (h : WI it env s fun w' s1 => w' = w ∧ w.ok s1 ∧ w.items.length ≤ 16777216 ∧ I 0 [] s1)
    (hs : ∀ i d ys s, w.items[i]? = some d → I i ys s → w.ok s → WP (asgT t d (wipeE env vs)) fun e1 => WB c e1 s fun k s1 => if k = true then W e e1 s1 fun y s2 => w.ok s2 ∧ I (i + 1) (ys ++ [y]) s2 else w.ok s1 ∧ I (i + 1) ys s1)
    (hd : ∀ ys s, I w.items.length ys s → w.ok s → Q (.ref s.length) (s ++ [O.lst ys])) : W (eLc it t vs c e) env s Q := by
  obtain ⟨w', s1, e1, rfl, hok, hlen, h0⟩ := h
  have key : ∀ (n i : Nat) (ys : List D) (s : S), n = w'.items.length - i → i ≤ w'.items.length → I i ys s → w'.ok s → ∃ zs s2, compL t vs c e w'.ok env (w'.items.drop i) s = .ok zs s2 ∧ I w'.items.length (ys ++ zs) s2 ∧ w'.ok s2 := by
    intro n
    induction n with
    | zero =>
      intro i ys s hn hi hI hok
      have : i = w'.items.length := by omega
      subst this
      rw [List.drop_length]
      unfold compL
      rw [if_pos hok]
      exact ⟨[], s, rfl, by rw [List.append_nil]; exact hI, hok⟩
    | succ n ih =>
      intro i ys s hn hi hI hok
      have hlt : i < w'.items.length := by omega
      rw [List.drop_eq_getElem_cons hlt]
      unfold compL
      rw [if_pos hok]
      obtain ⟨env1, ea, k, s3, ec, hb⟩ := hs i w'.items[i] ys s (List.getElem?_eq_getElem hlt) hI hok
      rw [ea]
      dsimp only
      rw [ec]
      cases k with
      | false =>
        rw [if_neg (by decide)] at hb
        exact ih (i + 1) ys s3 (by omega) hlt hb.2 hb.1
      | true =>
        rw [if_pos rfl] at hb
        obtain ⟨y, s4, ey, hok4, hI4⟩ := hb
        dsimp only
        rw [ey]
        obtain ⟨zs, s5, ez, hI5, hok5⟩ := ih (i + 1) (ys ++ [y]) s4 (by omega) hlt hI4 hok4
        dsimp only
        rw [ez]
        exact ⟨y :: zs, s5, rfl, by rw [List.append_assoc] at hI5; exact hI5, hok5⟩
  obtain ⟨zs, s2, ez, hI, hok2⟩ := key w'.items.length 0 [] s1 (by omega) (Nat.zero_le _) h0 hok
  rw [List.drop_zero] at ez
  unfold W eLc
  rw [e1]
  refine ⟨.ref s2.length, s2 ++ [O.lst zs], ?_, hd zs s2 hI hok2⟩
  show (if w'.items.length ≤ 16777216 then (match compL t vs c e w'.ok env w'.items s1 with | .ok ys s2 => R.ok (D.ref s2.length) (s2 ++ [O.lst ys]) | _ => .no) else .no) = _
  rw [if_pos hlen, ez]
/-- a dict comprehension -/
theorem w_dc {t : T} {vs : List Nat} {it : EI} {ek ev : EX} {Q : D → S → Prop} (I : Nat → List (Key × D) → S → Prop) (w : Wk) (h : WI it env s fun w' s1 => w' = w ∧ w.ok s1 ∧ w.items.length ≤ 16777216 ∧ I 0 [] s1)
    (hs : ∀ i d ys s, w.items[i]? = some d → I i ys s → w.ok s → WP (asgT t d (wipeE env vs)) fun e1 => WB c e1 s fun k s1 => if k = true then W ek e1 s1 fun x s2 => W ev e1 s2 fun y s3 => WP (keyD x) fun x' => w.ok s3 ∧ I (i + 1) (putD ys x' y) s3 else w.ok s1 ∧ I (i + 1) ys s1)
    (hd : ∀ ys s, I w.items.length ys s → w.ok s → Q (.ref s.length) (s ++ [.dct ys])) : W (eDc it t vs c ek ev) env s Q := by
  obtain ⟨w', s1, e1, rfl, hok, hlen, h0⟩ := h
  have key : ∀ (n i : Nat) (ys : List (Key × D)) (s : S), n = w'.items.length - i → i ≤ w'.items.length → I i ys s → w'.ok s → ∃ zs s2, compD t vs c ek ev w'.ok env (w'.items.drop i) ys s = .ok zs s2 ∧ I w'.items.length zs s2 ∧ w'.ok s2 := by
    intro n
    induction n with
    | zero =>
      intro i ys s hn hi hI hok
      have : i = w'.items.length := by omega
      subst this
      rw [List.drop_length]
      unfold compD
      rw [if_pos hok]
      exact ⟨ys, s, rfl, hI, hok⟩
    | succ n ih =>
      intro i ys s hn hi hI hok
      have hlt : i < w'.items.length := by omega
      rw [List.drop_eq_getElem_cons hlt]
      unfold compD
      rw [if_pos hok]
      obtain ⟨env1, ea, k, s3, ec, hb⟩ := hs i w'.items[i] ys s (List.getElem?_eq_getElem hlt) hI hok
      rw [ea]
      dsimp only
      rw [ec]
      cases k with
      | false =>
        rw [if_neg (by decide)] at hb
        exact ih (i + 1) ys s3 (by omega) hlt hb.2 hb.1
      | true =>
        rw [if_pos rfl] at hb
        obtain ⟨x, s4, ex, y, s5, ey, x', hx, hok4, hI4⟩ := hb
        dsimp only
        rw [ex]
        dsimp only
        rw [ey]
        dsimp only
        rw [hx]
        exact ih (i + 1) (putD ys x' y) s5 (by omega) hlt hI4 hok4
  obtain ⟨zs, s2, ez, hI, hok2⟩ := key w'.items.length 0 [] s1 (by omega) (Nat.zero_le _) h0 hok
  rw [List.drop_zero] at ez
  unfold W eDc
  rw [e1]
  refine ⟨.ref s2.length, s2 ++ [O.dct zs], ?_, hd zs s2 hI hok2⟩
  show (if w'.items.length ≤ 16777216 then (match compD t vs c ek ev w'.ok env w'.items [] s1 with | .ok ys s2 => R.ok (D.ref s2.length) (s2 ++ [O.dct ys]) | _ => .no) else .no) = _
  rw [if_pos hlen, ez]
end
end Mi

set_option Elab.async false
set_option linter.all false
set_option maxRecDepth 100000
namespace Mi
open PySem PySem.Spec PyProof.Rows L2

section
variable {b : ST} {f : EX} {c : EB} {e : EX} {env : Env} {s : S} {N : Env → S → Prop} {Rt : D → S → Prop} {B C : Env → S → Prop} {t : T} {Q : D → S → Prop} {vs : List Nat}
theorem rng_at {n i : Nat} {d : D} (h : (rng 0 n)[i]? = some d) : i < n ∧ d = .int (i : Int) := by
  obtain ⟨h1, h2⟩ := rng_get h
  exact ⟨h1, by rw [h2, Int.zero_add]⟩
theorem wi_rg {n : Nat} {P : Env → S → Prop} (h : W f env s fun d s1 => ∃ j : Int, d = .int j ∧ 0 ≤ j ∧ j < 4611686018427387904 ∧ j.toNat = n ∧ P env s1) : WI (iRg1 f) env s fun w' s1 => w' = ⟨rng 0 n, fun _ => True⟩ ∧ P env s1 := by
  rw [w_iRg1]
  obtain ⟨d, s1, e1, j, rfl, h1, h2, rfl, q⟩ := h
  exact ⟨.int j, s1, e1, ⟨by omega, h2⟩, rfl, q⟩
theorem ws_forR (I : Nat → Env → S → Prop) (n : Nat) (h : W f env s fun d s1 => ∃ j : Int, d = .int j ∧ 0 ≤ j ∧ j < 4611686018427387904 ∧ j.toNat = n ∧ I 0 env s1)
    (hs : ∀ (i : Nat) env s, i < n → I i env s → WP (asgT t (.int (i : Int)) env) fun e1 => WS b e1 s (I (i + 1)) Rt N (I (i + 1))) (hd : ∀ env s, I n env s → N env s) : WS (sFor t (iRg1 f) b) env s N Rt B C := by
  refine ws_for I ⟨rng 0 n, fun _ => True⟩ ?_ ?_ ?_
  · exact WF.mono (wi_rg (P := fun env s1 => I 0 env s1) h) fun w s1 q => ⟨q.1, True.intro, q.2⟩
  · intro i d env s hi hI _
    obtain ⟨h1, rfl⟩ := rng_at hi
    obtain ⟨e1, he, q⟩ := hs i env s h1 hI
    exact ⟨e1, he, q.mono (fun _ _ z => ⟨True.intro, z⟩) (fun _ _ z => z) (fun _ _ z => z) fun _ _ z => ⟨True.intro, z⟩⟩
  · intro env s hI _
    rw [rng_len] at hI
    exact hd env s hI
theorem ws_forT (I : Nat → Env → S → Prop) (ds : List D) (h : W f env s fun d s1 => (d = .tup ds ∨ d = .rol ds) ∧ I 0 env s1)
    (hs : ∀ (i : Nat) d env s, ds[i]? = some d → I i env s → WP (asgT t d env) fun e1 => WS b e1 s (I (i + 1)) Rt N (I (i + 1))) (hd : ∀ env s, I ds.length env s → N env s) : WS (sFor t (iSeq f) b) env s N Rt B C := by
  refine ws_for I ⟨ds, fun _ => True⟩ ?_ ?_ ?_
  · rw [w_iSeq]
    obtain ⟨d, s1, e1, h1, q⟩ := h
    rcases h1 with rfl | rfl <;> exact ⟨_, s1, e1, rfl, True.intro, q⟩
  · intro i d env s hi hI _
    obtain ⟨e1, he, q⟩ := hs i d env s hi hI
    exact ⟨e1, he, q.mono (fun _ _ z => ⟨True.intro, z⟩) (fun _ _ z => z) (fun _ _ z => z) fun _ _ z => ⟨True.intro, z⟩⟩
  · intro env s hI _
    exact hd env s hI
theorem ws_forL (I : Nat → Env → S → Prop) (p : Nat) (ds : List D) (h : W f env s fun d s1 => d = .ref p ∧ s1[p]? = some (.lst ds) ∧ I 0 env s1)
    (hs : ∀ (i : Nat) d env s, ds[i]? = some d → I i env s → s[p]? = some (.lst ds) → WP (asgT t d env) fun e1 => WS b e1 s (fun e s => s[p]? = some (.lst ds) ∧ I (i + 1) e s) Rt N (fun e s => s[p]? = some (.lst ds) ∧ I (i + 1) e s)) (hd : ∀ env s, I ds.length env s → s[p]? = some (.lst ds) → N env s) : WS (sFor t (iSeq f) b) env s N Rt B C := by
  refine ws_for I ⟨ds, fun s => s[p]? = some (.lst ds)⟩ ?_ ?_ ?_
  · rw [w_iSeq]
    obtain ⟨d, s1, e1, rfl, hp, q⟩ := h
    refine ⟨.ref p, s1, e1, ds, ?_, rfl, hp, q⟩
    simp only [listItems, hp]
  · intro i d env s hi hI hp
    exact hs i d env s hi hI hp
  · intro env s hI hp
    exact hd env s hI hp
/-- comprehensions over ranges, tuples, lists -/
theorem w_lcR (I : Nat → List D → S → Prop) (n : Nat) (h : W f env s fun d s1 => ∃ j : Int, d = .int j ∧ 0 ≤ j ∧ j ≤ 16777216 ∧ j.toNat = n ∧ I 0 [] s1)
    (hs : ∀ (i : Nat) ys s, i < n → I i ys s → WP (asgT t (.int (i : Int)) (wipeE env vs)) fun e1 => WB c e1 s fun k s1 => if k = true then W e e1 s1 fun y s2 => I (i + 1) (ys ++ [y]) s2 else I (i + 1) ys s1)
    (hd : ∀ ys s, I n ys s → Q (.ref s.length) (s ++ [O.lst ys])) : W (eLc (iRg1 f) t vs c e) env s Q := by
  refine w_lc I ⟨rng 0 n, fun _ => True⟩ ?_ ?_ ?_
  · obtain ⟨d, s1, e1, j, rfl, h1, h2, h3, q⟩ := h
    refine WF.mono (wi_rg (n := n) (P := fun _ s1 => I 0 [] s1) ⟨.int j, s1, e1, j, rfl, h1, by omega, h3, q⟩) fun w s1 q => ⟨q.1, True.intro, ?_, q.2⟩
    dsimp only
    rw [rng_len]; omega
  · intro i d ys s hi hI _
    obtain ⟨h1, rfl⟩ := rng_at hi
    obtain ⟨e1, he, k, s1, ek, q⟩ := hs i ys s h1 hI
    refine ⟨e1, he, k, s1, ek, ?_⟩
    cases k with
    | true => rw [if_pos rfl] at q ⊢; exact WF.mono q fun _ _ z => ⟨True.intro, z⟩
    | false => rw [if_neg (by decide)] at q ⊢; exact ⟨True.intro, q⟩
  · intro ys s hI _
    rw [rng_len] at hI
    exact hd ys s hI
theorem w_lcT (I : Nat → List D → S → Prop) (ds : List D) (h : W f env s fun d s1 => (d = .tup ds ∨ d = .rol ds) ∧ ds.length ≤ 16777216 ∧ I 0 [] s1)
    (hs : ∀ (i : Nat) d ys s, ds[i]? = some d → I i ys s → WP (asgT t d (wipeE env vs)) fun e1 => WB c e1 s fun k s1 => if k = true then W e e1 s1 fun y s2 => I (i + 1) (ys ++ [y]) s2 else I (i + 1) ys s1)
    (hd : ∀ ys s, I ds.length ys s → Q (.ref s.length) (s ++ [O.lst ys])) : W (eLc (iSeq f) t vs c e) env s Q := by
  refine w_lc I ⟨ds, fun _ => True⟩ ?_ ?_ ?_
  · rw [w_iSeq]
    obtain ⟨d, s1, e1, h1, hl, q⟩ := h
    rcases h1 with rfl | rfl <;> exact ⟨_, s1, e1, rfl, True.intro, hl, q⟩
  · intro i d ys s hi hI _
    obtain ⟨e1, he, k, s1, ek, q⟩ := hs i d ys s hi hI
    refine ⟨e1, he, k, s1, ek, ?_⟩
    cases k with
    | true => rw [if_pos rfl] at q ⊢; exact WF.mono q fun _ _ z => ⟨True.intro, z⟩
    | false => rw [if_neg (by decide)] at q ⊢; exact ⟨True.intro, q⟩
  · intro ys s hI _
    exact hd ys s hI
theorem w_lcL (I : Nat → List D → S → Prop) (p : Nat) (ds : List D) (h : W f env s fun d s1 => d = .ref p ∧ s1[p]? = some (.lst ds) ∧ ds.length ≤ 16777216 ∧ I 0 [] s1)
    (hs : ∀ (i : Nat) d ys s, ds[i]? = some d → I i ys s → s[p]? = some (.lst ds) → WP (asgT t d (wipeE env vs)) fun e1 => WB c e1 s fun k s1 => if k = true then W e e1 s1 fun y s2 => s2[p]? = some (.lst ds) ∧ I (i + 1) (ys ++ [y]) s2 else s1[p]? = some (.lst ds) ∧ I (i + 1) ys s1)
    (hd : ∀ ys s, I ds.length ys s → s[p]? = some (.lst ds) → Q (.ref s.length) (s ++ [O.lst ys])) : W (eLc (iSeq f) t vs c e) env s Q := by
  refine w_lc I ⟨ds, fun s => s[p]? = some (.lst ds)⟩ ?_ ?_ ?_
  · rw [w_iSeq]
    obtain ⟨d, s1, e1, rfl, hp, hl, q⟩ := h
    refine ⟨.ref p, s1, e1, ds, ?_, rfl, hp, hl, q⟩
    simp only [listItems, hp]
  · intro i d ys s hi hI hp
    exact hs i d ys s hi hI hp
  · intro ys s hI hp
    exact hd ys s hI hp
theorem w_yes {QB : Bool → S → Prop} : WB yes env s QB ↔ QB true s := wf_ok
end

/-! ### small facts that the walk uses -/
theorem opI_int {C : Int → Int → Bool} {k : Int → Int → D} {i j : Int} {s : S} : opI C k (.int i) (.int j) s = if C i j = true then some (k i j, s) else none := rfl
theorem addD_int {i j : Int} {s : S} : addD (.int i) (.int j) s = some (.int (i + j), s) := rfl
theorem addD_str {i j : Str} {s : S} : addD (.str i) (.str j) s = if i.length + j.length ≤ 16777216 then some (.str (i ++ j), s) else none := rfl
theorem addD_tup {i j : List D} {s : S} : addD (.tup i) (.tup j) s = if i.length + j.length ≤ 16777216 then some (.tup (i ++ j), s) else none := rfl
theorem mulD_int {i j : Int} {s : S} : mulD (.int i) (.int j) s = if (-(2 ^ 64) < i ∧ i < 2 ^ 64) ∨ (-(2 ^ 64) < j ∧ j < 2 ^ 64) then some (.int (i * j), s) else none := rfl
theorem intB_int {i : Int} {s : S} : intB [.int i] s = some (.int i, s) := rfl
theorem intB_bl {i : Bool} {s : S} : intB [.bl i] s = some (.int (if i then 1 else 0), s) := rfl
theorem absB_int {i : Int} {s : S} : absB [.int i] s = some (.int (if i < 0 then -i else i), s) := rfl
theorem strB_int {i : Int} {s : S} : strB [.int i] s = if i.natAbs.log2 < 1920 then some (.str (toString i), s) else none := rfl
theorem lenB_rol {ds : List D} {s : S} : lenB [.rol ds] s = some (.int (ds.length : Int), s) := rfl
theorem lenB_tup {ds : List D} {s : S} : lenB [.tup ds] s = some (.int (ds.length : Int), s) := rfl
theorem lenB_ref {p : Nat} {ds : List D} {s : S} (h : s[p]? = some (.lst ds)) : lenB [.ref p] s = some (.int (ds.length : Int), s) := by simp only [lenB, h]
theorem lenB_dct {p : Nat} {kvs : List (Key × D)} {s : S} (h : s[p]? = some (.dct kvs)) : lenB [.ref p] s = some (.int (kvs.length : Int), s) := by simp only [lenB, h]
theorem tupB_ref {p : Nat} {ds : List D} {s : S} (h : s[p]? = some (.lst ds)) : tupB [.ref p] s = some (.tup ds, s) := by simp only [tupB, itemsD, h, Option.map_some]
theorem tupB_tup {ds : List D} {s : S} : tupB [.tup ds] s = some (.tup ds, s) := rfl
theorem lstB_ref {p : Nat} {ds : List D} {s : S} (h : s[p]? = some (.lst ds)) : lstB [.ref p] s = some (.ref s.length, s ++ [.lst ds]) := by simp only [lstB, itemsD, h, Option.map_some]
theorem lstB_tup {ds : List D} {s : S} : lstB [.tup ds] s = some (.ref s.length, s ++ [.lst ds]) := rfl
theorem ixD_rol {ds : List D} {i : Int} {s : S} : ixD (.rol ds) (.int i) s = (atI ds i).map fun x => (x, s) := by
  show (match atI ds i with | some x => some (x, s) | none => none) = _
  cases atI ds i <;> rfl
theorem ixD_tup {ds : List D} {i : Int} {s : S} : ixD (.tup ds) (.int i) s = (atI ds i).map fun x => (x, s) := by
  show (match atI ds i with | some x => some (x, s) | none => none) = _
  cases atI ds i <;> rfl
theorem ixD_ref {p : Nat} {ds : List D} {i : Int} {s : S} (h : s[p]? = some (.lst ds)) : ixD (.ref p) (.int i) s = (atI ds i).map fun x => (x, s) := by
  have e : itemsD (.ref p) s = some ds := by simp only [itemsD, h]
  show (match itemsD (.ref p) s with | some ds => (match atI ds i with | some x => some (x, s) | none => none) | none => none) = _
  rw [e]
  show (match atI ds i with | some x => some (x, s) | none => none) = _
  cases atI ds i <;> rfl
theorem atI_nat' {ds : List D} {i : Nat} {d : D} (h : ds[i]? = some d) : atI ds (i : Int) = some d := atI_nat h
theorem atI0 {a : D} {ds : List D} : atI (a :: ds) 0 = some a := atI_nat (j := 0) rfl
theorem atI1 {a b : D} {ds : List D} : atI (a :: b :: ds) 1 = some b := atI_nat (j := 1) rfl
theorem atI2 {a b c : D} {ds : List D} : atI (a :: b :: c :: ds) 2 = some c := atI_nat (j := 2) rfl
theorem atI3 {a b c d : D} {ds : List D} : atI (a :: b :: c :: d :: ds) 3 = some d := atI_nat (j := 3) rfl
theorem atI4 {a b c d e : D} {ds : List D} : atI (a :: b :: c :: d :: e :: ds) 4 = some e := atI_nat (j := 4) rfl
theorem asgT_n {i : Nat} {d : D} {env : Env} : asgT (.n i) d env = some (env.set i (some d)) := rfl
theorem app_ref {p : Nat} {ds : List D} {x : D} {s : S} (h : s[p]? = some (.lst ds)) : appM (.ref p) [x] s = if ds.length < 16777216 then some (.non, s.set p (.lst (ds ++ [x]))) else none := by simp only [appM, h]
theorem ty_ref {p : Nat} {ds : List D} {s : S} (h : s[p]? = some (.lst ds)) : tyD "list" (.ref p) s = true := by simp only [tyD, h]; rfl
theorem ext_ref {p q : Nat} {xs ys : List D} {s : S} (h : s[p]? = some (.lst xs)) (h' : s[q]? = some (.lst ys)) : extM (.ref p) [.ref q] s = if xs.length + ys.length ≤ 16777216 then some (.non, s.set p (.lst (xs ++ ys))) else none := by simp only [extM, h, h']
theorem bl_t {c : Prop} [Decidable c] : (decide c = true) ↔ c := decide_eq_true_iff
theorem top_get {s : S} {o : O} : (s ++ [o])[s.length]? = some o := by rw [List.getElem?_append_right (Nat.le_refl _), Nat.sub_self]; rfl
theorem top_set {s : S} {o o' : O} : (s ++ [o]).set s.length o' = s ++ [o'] := by
  rw [List.set_append_right _ _ (Nat.le_refl _), Nat.sub_self]; rfl
theorem old_get {s t : S} {p : Nat} {o : O} (h : s[p]? = some o) : (s ++ t)[p]? = some o := by
  rw [List.getElem?_append_left (List.getElem?_eq_some_iff.mp h).1]; exact h
theorem tyQ {s : S} {a : List D} : (tyD "list" (.ref s.length) (s ++ [.lst a]) = true) ↔ True := ⟨fun _ => True.intro, fun _ => ty_ref top_get⟩
theorem appQ {s : S} {a : List D} {x : D} : appM (.ref s.length) [x] (s ++ [.lst a]) = if a.length < 16777216 then some (.non, s ++ [.lst (a ++ [x])]) else none := by rw [app_ref top_get, top_set]
theorem slQ {s : S} {a : List D} {lo hi : Option Int} : slD (.ref s.length) lo hi (s ++ [O.lst a]) = some (.ref (s ++ [O.lst a]).length, (s ++ [O.lst a]) ++ [O.lst (Mi.cutD a lo hi)]) := by simp only [slD, top_get]
theorem slD_tup {a : List D} {lo hi : Option Int} {s : S} : slD (.tup a) lo hi s = some (.tup (Mi.cutD a lo hi), s) := rfl
theorem wp_map {α β : Type} {o : Option α} {f : α → β} {Q : β → Prop} : WP (o.map f) Q ↔ WP o fun x => Q (f x) := by
  cases o with
  | none => simp [wp_none]
  | some x => simp [wp_some]
end Mi

set_option Elab.async false
set_option linter.all false
set_option maxRecDepth 100000
namespace Mi
open PySem PySem.Spec PyProof.Rows L2

/-- a loop's run over items -/
@[irreducible] def FS (t : T) (b : ST) (ok : S → Prop) (ds : List D) (env : Env) (s : S) (N : Env → S → Prop) (Rt : D → S → Prop) (B C : Env → S → Prop) : Prop :=
  match forL t b ok ds env s with
  | .nx e s => N e s
  | .rt d s => Rt d s
  | .bk e s => B e s
  | .ct e s => C e s
  | _ => False
@[irreducible] def CS (t : T) (vs : List Nat) (c : EB) (e : EX) (ok : S → Prop) (env : Env) (ds : List D) (s : S) (Q : D → S → Prop) : Prop :=
  ds.length ≤ 16777216 ∧ WF (compL t vs c e ok env ds s) fun ys s2 => Q (.ref s2.length) (s2 ++ [O.lst ys])
@[irreducible] def DS (t : T) (vs : List Nat) (c : EB) (ek ev : EX) (ok : S → Prop) (env : Env) (ds : List D) (s : S) (Q : D → S → Prop) : Prop :=
  ds.length ≤ 16777216 ∧ WF (compD t vs c ek ev ok env ds [] s) fun ys s2 => Q (.ref s2.length) (s2 ++ [O.dct ys])
/-- what must stay so of the store while d is walked -/
def okD : D → List D → S → Prop
  | .ref p, ds, s => s[p]? = some (.lst ds)
  | _, _, _ => True
def okT : S → Prop := fun _ => True
section
variable {b : ST} {f : EX} {c : EB} {e ek ev : EX} {env : Env} {s : S} {N : Env → S → Prop} {Rt : D → S → Prop} {B C : Env → S → Prop} {t : T} {Q : D → S → Prop} {vs : List Nat}
theorem wi_seq {QI : Wk → S → Prop} : WI (iSeq f) env s QI ↔ W f env s fun d s1 => WP (itemsD d s1) fun ds => QI ⟨ds, okD d ds⟩ s1 := by
  rw [w_iSeq]
  unfold W
  refine wf_congr fun d s1 => ?_
  cases d with
  | tup ds => exact (wp_some (x := ds) (Q := fun zs => QI ⟨zs, okD (.tup ds) zs⟩ s1)).symm
  | rol ds => exact (wp_some (x := ds) (Q := fun zs => QI ⟨zs, okD (.rol ds) zs⟩ s1)).symm
  | ref p =>
    show WP (listItems (.ref p) s1) _ ↔ WP (listItems (.ref p) s1) _
    exact Iff.rfl
  | _ => exact (wp_none (α := List D)).symm
theorem wi_rng {QI : Wk → S → Prop} : WI (iRg1 f) env s QI ↔ W f env s fun d s1 => asI d fun j => (-4611686018427387904 ≤ j ∧ j < 4611686018427387904) ∧ QI ⟨rng 0 j.toNat, okT⟩ s1 := w_iRg1
theorem ws_for_wi {it : EI} : WS (sFor t it b) env s N Rt B C ↔ WI it env s fun w s1 => FS t b w.ok w.items env s1 N Rt B C := by
  unfold WS sFor WI FS
  exact ws_go
theorem ws_forS : WS (sFor t (iSeq f) b) env s N Rt B C ↔ W f env s fun d s1 => WP (itemsD d s1) fun ds => FS t b (okD d ds) ds env s1 N Rt B C := by
  rw [ws_for_wi, wi_seq]
theorem ws_forG : WS (sFor t (iRg1 f) b) env s N Rt B C ↔ W f env s fun d s1 => asI d fun j => (-4611686018427387904 ≤ j ∧ j < 4611686018427387904) ∧ FS t b okT (rng 0 j.toNat) env s1 N Rt B C := by
  rw [ws_for_wi, wi_rng]
theorem w_lc_wi {it : EI} : W (eLc it t vs c e) env s Q ↔ WI it env s fun w s1 => CS t vs c e w.ok env w.items s1 Q := by
  unfold W eLc WI CS
  rw [wf_bind]
  refine wf_congr fun w s1 => ?_
  rw [wf_if]
  refine and_congr Iff.rfl ?_
  cases compL t vs c e w.ok env w.items s1 <;> simp [wf_ok, wf_no, wf_ex]
theorem w_lcS : W (eLc (iSeq f) t vs c e) env s Q ↔ W f env s fun d s1 => WP (itemsD d s1) fun ds => CS t vs c e (okD d ds) env ds s1 Q := by
  rw [w_lc_wi, wi_seq]
theorem w_lcG : W (eLc (iRg1 f) t vs c e) env s Q ↔ W f env s fun d s1 => asI d fun j => (-4611686018427387904 ≤ j ∧ j < 4611686018427387904) ∧ CS t vs c e okT env (rng 0 j.toNat) s1 Q := by
  rw [w_lc_wi, wi_rng]
theorem w_dc_wi {it : EI} : W (eDc it t vs c ek ev) env s Q ↔ WI it env s fun w s1 => DS t vs c ek ev w.ok env w.items s1 Q := by
  unfold W eDc WI DS
  rw [wf_bind]
  refine wf_congr fun w s1 => ?_
  rw [wf_if]
  refine and_congr Iff.rfl ?_
  cases compD t vs c ek ev w.ok env w.items [] s1 <;> simp [wf_ok, wf_no, wf_ex]
theorem w_dcS : W (eDc (iSeq f) t vs c ek ev) env s Q ↔ W f env s fun d s1 => WP (itemsD d s1) fun ds => DS t vs c ek ev (okD d ds) env ds s1 Q := by
  rw [w_dc_wi, wi_seq]
theorem w_dcG : W (eDc (iRg1 f) t vs c ek ev) env s Q ↔ W f env s fun d s1 => asI d fun j => (-4611686018427387904 ≤ j ∧ j < 4611686018427387904) ∧ DS t vs c ek ev okT env (rng 0 j.toNat) s1 Q := by
  rw [w_dc_wi, wi_rng]
/-- by an invariant on what was taken -/
theorem fs_inv {ok : S → Prop} {ds : List D} (I : Nat → Env → S → Prop) (hok : ok s) (h0 : I 0 env s)
    (hs : ∀ i d env s, ds[i]? = some d → I i env s → ok s → WP (asgT t d env) fun e1 => WS b e1 s (fun e s => ok s ∧ I (i + 1) e s) Rt N (fun e s => ok s ∧ I (i + 1) e s))
    (hd : ∀ env s, I ds.length env s → ok s → N env s) : FS t b ok ds env s N Rt B C := by
  have key := ws_for (b := b) (t := t) (it := fun _ s => R.ok (⟨ds, ok⟩ : Wk) s) (env := env) (s := s) (N := N) (Rt := Rt) (B := B) (C := C) I ⟨ds, ok⟩ ⟨_, _, rfl, rfl, hok, h0⟩ hs hd
  rw [ws_for_wi] at key
  obtain ⟨w, s1, e, q⟩ := key
  cases e
  exact q
theorem fs_rng {n : Nat} (I : Nat → Env → S → Prop) (h0 : I 0 env s)
    (hs : ∀ (i : Nat) env s, i < n → I i env s → WP (asgT t (.int (i : Int)) env) fun e1 => WS b e1 s (I (i + 1)) Rt N (I (i + 1)))
    (hd : ∀ env s, I n env s → N env s) : FS t b okT (rng 0 n) env s N Rt B C := by
  refine fs_inv I True.intro h0 ?_ ?_
  · intro i d env s hi hI _
    obtain ⟨h1, rfl⟩ := rng_at hi
    obtain ⟨e1, he, q⟩ := hs i env s h1 hI
    exact ⟨e1, he, q.mono (fun _ _ z => ⟨True.intro, z⟩) (fun _ _ z => z) (fun _ _ z => z) fun _ _ z => ⟨True.intro, z⟩⟩
  · intro env s hI _
    rw [rng_len] at hI
    exact hd env s hI
theorem fs_tup {ds : List D} (I : Nat → Env → S → Prop) (h0 : I 0 env s)
    (hs : ∀ i d env s, ds[i]? = some d → I i env s → WP (asgT t d env) fun e1 => WS b e1 s (I (i + 1)) Rt N (I (i + 1)))
    (hd : ∀ env s, I ds.length env s → N env s) : FS t b (okD (.tup ds) ds) ds env s N Rt B C := by
  refine fs_inv I True.intro h0 ?_ ?_
  · intro i d env s hi hI _
    obtain ⟨e1, he, q⟩ := hs i d env s hi hI
    exact ⟨e1, he, q.mono (fun _ _ z => ⟨True.intro, z⟩) (fun _ _ z => z) (fun _ _ z => z) fun _ _ z => ⟨True.intro, z⟩⟩
  · intro env s hI _
    exact hd env s hI
theorem cs_inv {ok : S → Prop} {ds : List D} (I : Nat → List D → S → Prop) (hok : ok s) (hl : ds.length ≤ 16777216) (h0 : I 0 [] s)
    (hs : ∀ i d ys s, ds[i]? = some d → I i ys s → ok s → WP (asgT t d (wipeE env vs)) fun e1 => WB c e1 s fun k s1 => if k = true then W e e1 s1 fun y s2 => ok s2 ∧ I (i + 1) (ys ++ [y]) s2 else ok s1 ∧ I (i + 1) ys s1)
    (hd : ∀ ys s, I ds.length ys s → ok s → Q (.ref s.length) (s ++ [O.lst ys])) : CS t vs c e ok env ds s Q := by
  have key := w_lc (c := c) (t := t) (vs := vs) (e := e) (it := fun _ s => R.ok (⟨ds, ok⟩ : Wk) s) (env := env) (s := s) (Q := Q) I ⟨ds, ok⟩ ⟨_, _, rfl, rfl, hok, hl, h0⟩ hs hd
  rw [w_lc_wi] at key
  obtain ⟨w, s1, e, q⟩ := key
  cases e
  exact q
theorem cs_rng {n : Nat} (I : Nat → List D → S → Prop) (hl : n ≤ 16777216) (h0 : I 0 [] s)
    (hs : ∀ (i : Nat) ys s, i < n → I i ys s → WP (asgT t (.int (i : Int)) (wipeE env vs)) fun e1 => WB c e1 s fun k s1 => if k = true then W e e1 s1 fun y s2 => I (i + 1) (ys ++ [y]) s2 else I (i + 1) ys s1)
    (hd : ∀ ys s, I n ys s → Q (.ref s.length) (s ++ [O.lst ys])) : CS t vs c e okT env (rng 0 n) s Q := by
  refine cs_inv I True.intro (by rw [rng_len]; exact hl) h0 ?_ ?_
  · intro i d ys s hi hI _
    obtain ⟨h1, rfl⟩ := rng_at hi
    obtain ⟨e1, he, k, s1, ek, q⟩ := hs i ys s h1 hI
    refine ⟨e1, he, k, s1, ek, ?_⟩
    cases k with
    | true => rw [if_pos rfl] at q ⊢; exact WF.mono q fun _ _ z => ⟨True.intro, z⟩
    | false => rw [if_neg (by decide)] at q ⊢; exact ⟨True.intro, q⟩
  · intro ys s hI _
    rw [rng_len] at hI
    exact hd ys s hI
theorem cs_tup {ds : List D} (I : Nat → List D → S → Prop) (hl : ds.length ≤ 16777216) (h0 : I 0 [] s)
    (hs : ∀ i d ys s, ds[i]? = some d → I i ys s → WP (asgT t d (wipeE env vs)) fun e1 => WB c e1 s fun k s1 => if k = true then W e e1 s1 fun y s2 => I (i + 1) (ys ++ [y]) s2 else I (i + 1) ys s1)
    (hd : ∀ ys s, I ds.length ys s → Q (.ref s.length) (s ++ [O.lst ys])) : CS t vs c e (okD (.tup ds) ds) env ds s Q := by
  refine cs_inv I True.intro hl h0 ?_ ?_
  · intro i d ys s hi hI _
    obtain ⟨e1, he, k, s1, ek, q⟩ := hs i d ys s hi hI
    refine ⟨e1, he, k, s1, ek, ?_⟩
    cases k with
    | true => rw [if_pos rfl] at q ⊢; exact WF.mono q fun _ _ z => ⟨True.intro, z⟩
    | false => rw [if_neg (by decide)] at q ⊢; exact ⟨True.intro, q⟩
  · intro ys s hI _
    exact hd ys s hI
theorem ds_inv {ok : S → Prop} {ds : List D} (I : Nat → List (Key × D) → S → Prop) (hok : ok s) (hl : ds.length ≤ 16777216) (h0 : I 0 [] s)
    (hs : ∀ i d ys s, ds[i]? = some d → I i ys s → ok s → WP (asgT t d (wipeE env vs)) fun e1 => WB c e1 s fun k s1 => if k = true then W ek e1 s1 fun x s2 => W ev e1 s2 fun y s3 => WP (keyD x) fun x' => ok s3 ∧ I (i + 1) (putD ys x' y) s3 else ok s1 ∧ I (i + 1) ys s1)
    (hd : ∀ ys s, I ds.length ys s → ok s → Q (.ref s.length) (s ++ [O.dct ys])) : DS t vs c ek ev ok env ds s Q := by
  have key := w_dc (c := c) (t := t) (vs := vs) (ek := ek) (ev := ev) (it := fun _ s => R.ok (⟨ds, ok⟩ : Wk) s) (env := env) (s := s) (Q := Q) I ⟨ds, ok⟩ ⟨_, _, rfl, rfl, hok, hl, h0⟩ hs hd
  rw [w_dc_wi] at key
  obtain ⟨w, s1, e, q⟩ := key
  cases e
  exact q
end
theorem items_tup {ds : List D} {s : S} : itemsD (.tup ds) s = some ds := rfl
theorem items_rol {ds : List D} {s : S} : itemsD (.rol ds) s = some ds := rfl
theorem items_ref {p : Nat} {ds : List D} {s : S} (h : s[p]? = some (.lst ds)) : itemsD (.ref p) s = some ds := by simp only [itemsD, h]
end Mi

set_option Elab.async false
set_option linter.all false
set_option maxRecDepth 100000
namespace Mi
open PySem PySem.Spec PyProof.Rows L2
theorem ofStr_eq (a b : String) : (Str.ofString a = Str.ofString b) = (a = b) := by
  refine propext ⟨fun h => ?_, fun h => by rw [h]⟩
  rw [Str.ofString_eq_toList, Str.ofString_eq_toList] at h
  have h1 : (a.toList.map Char.toNat) = (b.toList.map Char.toNat) := by
    have := congrArg (fun s : Str => s.cps.toList) h
    simpa using this
  have inj : ∀ (x y : List Char), x.map Char.toNat = y.map Char.toNat → x = y := by
    intro x
    induction x with
    | nil => intro y h; cases y <;> simp_all
    | cons c x ih =>
      intro y h
      cases y with
      | nil => simp at h
      | cons d y =>
        rw [List.map_cons, List.map_cons] at h
        injection h with h1 h2
        rw [ih y h2]
        have : c = d := by
          apply Char.ext
          apply UInt32.toNat_inj.mp
          exact h1
        rw [this]
  exact String.toList_inj.mp (inj _ _ h1)
theorem eqD_str {a b : Str} {s : S} : eqD (.str a) (.str b) s = some (.bl (decide (a = b)), s) := rfl
theorem eqD_int {a b : Int} {s : S} : eqD (.int a) (.int b) s = some (.bl (decide (a = b)), s) := rfl
theorem neD_int {a b : Int} {s : S} : neD (.int a) (.int b) s = some (.bl (!decide (a = b)), s) := rfl
theorem eqD_bl {a b : Bool} {s : S} : eqD (.bl a) (.bl b) s = some (.bl (decide (a = b)), s) := rfl
theorem neD_bl {a b : Bool} {s : S} : neD (.bl a) (.bl b) s = some (.bl (!decide (a = b)), s) := rfl
theorem in_tup {neg : Bool} {d : D} {ds : List D} {s : S} : inD neg d (.tup ds) s = if (flatD d && ds.all flatD) = true then some (.bl (if neg then !(ds.any fun y => eqF y d) else ds.any fun y => eqF y d), s) else none := rfl
theorem in_ref {neg : Bool} {d : D} {p : Nat} {ds : List D} {s : S} (h : s[p]? = some (.lst ds)) : inD neg d (.ref p) s = if (flatD d && ds.all flatD) = true then some (.bl (if neg then !(ds.any fun y => eqF y d) else ds.any fun y => eqF y d), s) else none := by
  simp only [inD, itemsD, h]
theorem flatD_str {a : Str} : flatD (.str a) = true := rfl
theorem flatD_int {a : Int} : flatD (.int a) = true := rfl
theorem eqF_str {a b : Str} : eqF (.str a) (.str b) = decide (a = b) := Bool.beq_eq_decide_eq a b
theorem eqF_int {a b : Int} : eqF (.int a) (.int b) = decide (a = b) := Bool.beq_eq_decide_eq a b
theorem flat_ints (L : List Int) : (L.map D.int).all flatD = true := by
  rw [List.all_map]; exact List.all_eq_true.mpr fun _ _ => rfl
theorem any_ints (L : List Int) (a : Int) : ((L.map D.int).any fun y => eqF y (.int a)) = decide (a ∈ L) := by
  induction L with
  | nil => rfl
  | cons x L ih =>
    rw [List.map_cons, List.any_cons, ih, eqF_int]
    by_cases h : x = a
    · subst h; simp
    · have : ¬ a = x := fun z => h z.symm
      simp [h, this]
theorem in_ints {neg : Bool} {p : Nat} {L : List Int} {a : Int} {s : S} (h : s[p]? = some (.lst (L.map D.int))) : inD neg (.int a) (.ref p) s = some (.bl (if neg then !decide (a ∈ L) else decide (a ∈ L)), s) := by
  rw [in_ref h, flat_ints, any_ints]; rfl

/-- all that stood stands -/
def Gr (s s' : S) : Prop := s.length ≤ s'.length ∧ ∀ p, p < s.length → s'[p]? = s[p]?
theorem Gr.refl (s : S) : Gr s s := ⟨Nat.le_refl _, fun _ _ => rfl⟩
theorem Gr.trans {s s1 s2 : S} (a : Gr s s1) (b : Gr s1 s2) : Gr s s2 := ⟨Nat.le_trans a.1 b.1, fun p h => (b.2 p (Nat.lt_of_lt_of_le h a.1)).trans (a.2 p h)⟩
theorem Gr.app (s t : S) : Gr s (s ++ t) := ⟨by rw [List.length_append]; omega, fun p h => List.getElem?_append_left h⟩
theorem Gr.get {s s' : S} (a : Gr s s') {p : Nat} {o : O} (h : s[p]? = some o) : s'[p]? = some o := by rw [a.2 p (List.getElem?_eq_some_iff.mp h).1]; exact h
theorem Gr.set {s s' : S} (a : Gr s s') {p : Nat} {o : O} (h : s.length ≤ p) : Gr s (s'.set p o) :=
  ⟨by rw [List.length_set]; exact a.1, fun q hq => by rw [List.getElem?_set_ne (by omega)]; exact a.2 q hq⟩
end Mi

set_option Elab.async false
set_option linter.all false
set_option maxRecDepth 100000
namespace Mi
open PySem PySem.Spec PyProof.Rows L2
theorem WP.mono {α : Type} {o : Option α} {Q Q' : α → Prop} (h : WP o Q) (k : ∀ a, Q a → Q' a) : WP o Q' := let ⟨x, e, q⟩ := h; ⟨x, e, k x q⟩
section
variable {b : ST} {f : EX} {c : EB} {e ek ev : EX} {env : Env} {s : S} {N : Env → S → Prop} {Rt : D → S → Prop} {B C : Env → S → Prop} {t : T} {Q : D → S → Prop} {vs : List Nat} {ok : S → Prop} {α β : Type}
/-- a for as a fold -/
theorem fs_fold {xs : List α} (en : α → D) (g : β → α → β) (a0 : β) (I : β → Env → S → Prop) (hok : ok s) (h0 : I a0 env s)
    (hs : ∀ a x env s, x ∈ xs → I a env s → ok s → WP (asgT t (en x) env) fun e1 => WS b e1 s (fun e s => ok s ∧ I (g a x) e s) Rt N (fun e s => ok s ∧ I (g a x) e s))
    (hd : ∀ env s, I (xs.foldl g a0) env s → ok s → N env s) : FS t b ok (xs.map en) env s N Rt B C := by
  refine fs_inv (fun i env s => I ((xs.take i).foldl g a0) env s) hok h0 ?_ ?_
  · intro i d env s hi hI hk
    rw [List.getElem?_map] at hi
    cases hx : xs[i]? with
    | none => rw [hx] at hi; cases hi
    | some x =>
      rw [hx] at hi; cases hi
      have e : (xs.take (i + 1)).foldl g a0 = g ((xs.take i).foldl g a0) x := by
        rw [List.take_add_one, hx, Option.toList_some, List.foldl_append]; rfl
      rw [e]
      exact hs _ x env s (List.mem_of_getElem? hx) hI hk
  · intro env s hI hk
    rw [List.length_map, List.take_length] at hI
    exact hd env s hI hk
/-- a comprehension as a filterMap -/
theorem cs_map {xs : List α} (en : α → D) (g : α → Option D) (J : S → Prop) (hok : ok s) (hl : xs.length ≤ 16777216) (h0 : J s)
    (hs : ∀ x s, x ∈ xs → J s → ok s → WP (asgT t (en x) (wipeE env vs)) fun e1 => WB c e1 s fun k s1 => if k = true then W e e1 s1 fun y s2 => ok s2 ∧ J s2 ∧ g x = some y else ok s1 ∧ J s1 ∧ g x = none)
    (hd : ∀ s, J s → ok s → Q (.ref s.length) (s ++ [O.lst (xs.filterMap g)])) : CS t vs c e ok env (xs.map en) s Q := by
  refine cs_inv (fun i ys s => J s ∧ ys = (xs.take i).filterMap g) hok (by rw [List.length_map]; exact hl) ⟨h0, rfl⟩ ?_ ?_
  · rintro i d ys s hi ⟨hJ, rfl⟩ hk
    rw [List.getElem?_map] at hi
    cases hx : xs[i]? with
    | none => rw [hx] at hi; cases hi
    | some x =>
      rw [hx] at hi; cases hi
      refine WP.mono (hs x s (List.mem_of_getElem? hx) hJ hk) fun e1 h => ?_
      refine WF.mono h fun k s1 h => ?_
      have e : (xs.take (i + 1)).filterMap g = (xs.take i).filterMap g ++ (g x).toList := by
        rw [List.take_add_one, hx, Option.toList_some, List.filterMap_append]
        cases hg : g x <;> simp [hg]
      rw [e]
      cases k with
      | true =>
        rw [if_pos rfl] at h ⊢
        refine WF.mono h fun y s2 h => ⟨h.1, h.2.1, by rw [h.2.2]; rfl⟩
      | false =>
        rw [if_neg (by decide)] at h ⊢
        exact ⟨h.1, h.2.1, by rw [h.2.2, Option.toList_none, List.append_nil]⟩
  · rintro ys s ⟨hJ, rfl⟩ hk
    rw [List.length_map, List.take_length]
    exact hd s hJ hk
end
theorem okD_tup {ds : List D} {s : S} : okD (.tup ds) ds s := True.intro
theorem okD_rol {ds : List D} {s : S} : okD (.rol ds) ds s := True.intro
theorem okD_ref {p : Nat} {ds : List D} {s : S} : okD (.ref p) ds s ↔ s[p]? = some (.lst ds) := Iff.rfl
/-- the numbers below n as a list of D -/
theorem rng_map (n : Nat) : rng 0 n = (List.range n).map fun (i : Nat) => D.int (i : Int) := by
  unfold rng
  exact List.map_congr_left fun i _ => by rw [Int.zero_add]
/-- distinct small numbers are few -/
theorem nodup_le : ∀ (n : Nat) (L : List Int), L.Nodup → (∀ x ∈ L, 0 ≤ x ∧ x < n) → L.length ≤ n
  | 0, [], _, _ => Nat.le_refl _
  | 0, x :: _, _, h => by have := h x List.mem_cons_self; omega
  | n + 1, L, hn, h => by
    by_cases c : (n : Int) ∈ L
    · have h1 := nodup_le n (L.erase n) (hn.erase _) fun x hx => by
        have h2 := (hn.mem_erase_iff).mp hx
        have := h x h2.2
        have := h2.1
        omega
      rw [List.length_erase_of_mem c] at h1
      omega
    · have h1 := nodup_le n L hn fun x hx => by
        have := h x hx
        have : x ≠ n := fun z => c (z ▸ hx)
        omega
      omega
end Mi

set_option Elab.async false
set_option linter.all false
set_option maxRecDepth 100000
namespace Mi
open PySem PySem.Spec PyProof.Rows L2
/-! ### comparing sequences of data -/
theorem mapM_map {α β γ : Type} (f : β → Option γ) (en : α → β) (pd : α → γ) (h : ∀ a, f (en a) = some (pd a)) : ∀ xs : List α, (xs.map en).mapM f = some (xs.map pd)
  | [] => rfl
  | x :: xs => by rw [List.map_cons, List.mapM_cons, h, mapM_map f en pd h xs]; rfl
theorem mapM_on {α β γ : Type} (f : β → Option γ) (en : α → β) (pd : α → γ) : ∀ xs : List α, (∀ a ∈ xs, f (en a) = some (pd a)) → (xs.map en).mapM f = some (xs.map pd)
  | [], _ => rfl
  | x :: xs, h => by rw [List.map_cons, List.mapM_cons, h x List.mem_cons_self, mapM_on f en pd xs fun a ha => h a (List.mem_cons_of_mem _ ha)]; rfl
def shAll (k : Nat) (ps : List PyData) : Prop := ∀ p ∈ ps, p.canLay0 = true ∧ p.depth ≤ k
theorem canAll {k : Nat} : ∀ {ps : List PyData}, shAll k ps → PyData.canLayAll0 ps = true
  | [], _ => rfl
  | p :: ps, h => by
    show (PyData.canLay0 p && PyData.canLayAll0 ps) = true
    rw [(h p List.mem_cons_self).1, canAll fun x hx => h x (List.mem_cons_of_mem _ hx)]; rfl
theorem depAll {k : Nat} : ∀ {ps : List PyData}, shAll k ps → PyData.depthAll ps ≤ k
  | [], _ => Nat.zero_le _
  | p :: ps, h => Nat.max_le.mpr ⟨(h p List.mem_cons_self).2, depAll fun x hx => h x (List.mem_cons_of_mem _ hx)⟩
theorem sh_list {k : Nat} {ps : List PyData} (h : shAll k ps) (hk : k < 64) : SeqAt.shaped (.list ps) = true := by
  unfold SeqAt.shaped
  rw [show PyData.canLay0 (.list ps) = PyData.canLayAll0 ps from rfl, canAll h, Bool.true_and]
  refine decide_eq_true ?_
  show PyData.depthAll ps + 1 ≤ 64
  have := depAll h
  omega
theorem sh_tup {k : Nat} {ps : List PyData} (h : shAll k ps) (hk : k < 64) : SeqAt.shaped (.tuple ps) = true := sh_list h hk
theorem eqB_lst {p q k : Nat} {s : S} {as bs : List D} {pa pb : List PyData} (h : s[p]? = some (.lst as)) (h' : s[q]? = some (.lst bs)) (e : as.mapM (toP 59 s) = some pa) (e' : bs.mapM (toP 59 s) = some pb) (sa : shAll k pa) (sb : shAll k pb) (hk : k < 64) : eqB (.ref p) (.ref q) s = some (PyData.eqvAll pa pb) := by
  have h1 : toP 60 s (.ref p) = some (.list pa) := by
    show (match s[p]? with | some (.lst ds) => (ds.mapM (toP 59 s)).map PyData.list | _ => none) = _
    rw [h]; dsimp only; rw [e]; rfl
  have h2 : toP 60 s (.ref q) = some (.list pb) := by
    show (match s[q]? with | some (.lst ds) => (ds.mapM (toP 59 s)).map PyData.list | _ => none) = _
    rw [h']; dsimp only; rw [e']; rfl
  unfold eqB
  dsimp only [eqS]
  rw [h1, h2]
  dsimp only
  rw [sh_list sa hk, sh_list sb hk]
  rfl
theorem eqB_tup {k : Nat} {s : S} {as bs : List D} {pa pb : List PyData} (e : as.mapM (toP 59 s) = some pa) (e' : bs.mapM (toP 59 s) = some pb) (sa : shAll k pa) (sb : shAll k pb) (hk : k < 64) : eqB (.tup as) (.tup bs) s = some (PyData.eqvAll pa pb) := by
  have h1 : toP 60 s (.tup as) = some (.tuple pa) := by
    show (as.mapM (toP 59 s)).map PyData.tuple = _
    rw [e]; rfl
  have h2 : toP 60 s (.tup bs) = some (.tuple pb) := by
    show (bs.mapM (toP 59 s)).map PyData.tuple = _
    rw [e']; rfl
  unfold eqB
  dsimp only [eqS]
  rw [h1, h2]
  dsimp only
  rw [sh_tup sa hk, sh_tup sb hk]
  rfl
theorem eqv_nil (ps : List PyData) : PyData.eqvAll ps [] = ps.isEmpty := by cases ps <;> rfl
theorem eqv_ints : ∀ as bs : List Int, PyData.eqvAll (as.map .int) (bs.map .int) = decide (as = bs)
  | [], [] => rfl
  | [], _ :: _ => rfl
  | _ :: _, [] => rfl
  | a :: as, b :: bs => by
    show ((a == b) && PyData.eqvAll (as.map .int) (bs.map .int)) = _
    rw [eqv_ints as bs]
    by_cases h : a = b
    · subst h
      simp
    · simp [h]
theorem sh_ints (as : List Int) : shAll 0 (as.map PyData.int) := fun p h => by
  obtain ⟨a, _, rfl⟩ := List.mem_map.mp h
  exact ⟨rfl, Nat.le_refl _⟩
theorem toP_ints {s : S} (as : List Int) : (as.map D.int).mapM (toP 59 s) = some (as.map PyData.int) := mapM_map (toP 59 s) D.int PyData.int (fun _ => rfl) as
theorem eqB_ints {p q : Nat} {s : S} {as bs : List Int} (h : s[p]? = some (.lst (as.map D.int))) (h' : s[q]? = some (.lst (bs.map D.int))) : eqB (.ref p) (.ref q) s = some (decide (as = bs)) := by
  rw [eqB_lst h h' (toP_ints as) (toP_ints bs) (sh_ints as) (sh_ints bs) (by omega), eqv_ints]
theorem eqB_tints {s : S} {as bs : List Int} : eqB (.tup (as.map D.int)) (.tup (bs.map D.int)) s = some (decide (as = bs)) := by
  rw [eqB_tup (toP_ints as) (toP_ints bs) (sh_ints as) (sh_ints bs) (by omega), eqv_ints]
/-! ### displays of dicts, under wp -/
def WPs (trs : List (EX × EX)) (env : Env) (s : S) (Q : List (D × D) → S → Prop) : Prop := WF (evPs trs env s) Q
section
variable {env : Env} {s : S} {Q : D → S → Prop} {QP : List (D × D) → S → Prop} {trs : List (EX × EX)} {fk fv : EX}
theorem w_pN : WPs [] env s QP ↔ QP [] s := wf_ok
theorem w_pC : WPs ((fk, fv) :: trs) env s QP ↔ W fk env s fun k s1 => W fv env s1 fun v s2 => WPs trs env s2 fun ps s3 => QP ((k, v) :: ps) s3 := by
  show WF ((fk env s).bind fun k s1 => (fv env s1).bind fun v s2 => (evPs trs env s2).bind fun ps s3 => .ok ((k, v) :: ps) s3) QP ↔ WF (fk env s) fun k s1 => WF (fv env s1) fun v s2 => WF (evPs trs env s2) fun ps s3 => QP ((k, v) :: ps) s3
  rw [wf_bind]
  refine wf_congr fun k s1 => ?_
  rw [wf_bind]
  refine wf_congr fun v s2 => ?_
  rw [wf_bind]
  exact wf_congr fun ps s3 => wf_ok
theorem w_Dct : W (eDct trs) env s Q ↔ WPs trs env s fun ps s1 => WP (keyed ps) fun kvs => kvs.length ≤ 15 ∧ Q (.ref s1.length) (s1 ++ [.dct (mergeD [] kvs)]) := by
  unfold W eDct WPs
  rw [wf_bind]
  refine wf_congr fun ps s1 => ?_
  cases keyed ps with
  | none => exact ⟨fun ⟨_, _, e, _⟩ => (by cases e), fun ⟨_, e, _⟩ => (by cases e)⟩
  | some kvs =>
    rw [wp_some]
    dsimp only
    by_cases c : kvs.length ≤ 15
    · rw [if_pos c, wf_ok]; exact ⟨fun h => ⟨c, h⟩, And.right⟩
    · rw [if_neg c]; exact ⟨fun ⟨_, _, e, _⟩ => (by cases e), fun h => absurd h.1 c⟩
end
theorem add_refs {p q : Nat} {xs ys : List D} {s : S} (h : s[p]? = some (.lst xs)) (h' : s[q]? = some (.lst ys)) : addD (.ref p) (.ref q) s = if xs.length + ys.length ≤ 16777216 then some (.ref s.length, s ++ [.lst (xs ++ ys)]) else none := by simp only [addD, h, h']
end Mi

set_option Elab.async false
set_option linter.all false
set_option maxRecDepth 100000
set_option maxHeartbeats 4000000
namespace Mi
open PySem PySem.Spec PyProof.Rows L2
/-! ### tuple(d) of a written dict -/
section
variable {prog : Program} {w : World} {A : Around} {E : Value → Shared → Prop} {s : Shared} {T : String} {r d : Addr} {n : Nat} {P : Nat → Value → Prop} {OK : Heap → Prop}
theorem collect_kdl {Q : List Value → Shared → Prop} (K : PySem.W.KdlSrc prog w T r d n P OK) (hh : A.handled = none) (hok : OK s.heap) (hn : n ≤ sizeLine)
    (hQ : ∀ (h' : Heap) (tk : Nat) (acc : Array Value), (∀ b o, s.heap.get? b = some o → h'.get? b = some o) → ItemsOf P acc n → Q acc.toList { s with heap := h', toks := tk }) :
    wpAny (model prog w) A (collect (.ref r)) Q E s := by
  unfold collect
  refine wpAny_bind (wpAny_runValue (codeAny_builtin PySem.F.entry_proto_collect ?_))
  rw [Around.under_plainId PySem.F.plain_proto_collect _]
  show wpAny _ A.in1 (newList [] >>= fun l => again (.builtin "list.__iadd__" ⟨[l, .ref r], []⟩)) _ _ s
  refine wpAny_bind (wpAny_newObj_type ?_)
  refine wpAny_pure ⟨plainId_quiet PySem.F.plain_list_iadd _, codeAny_builtin PySem.F.entry_list_iadd ?_⟩
  rw [Around.under_plainId PySem.F.plain_list_iadd _]
  show wpAny _ A.in1 (Builtin.List.listExtendWith (.ref s.heap.objs.size) (.ref r) (.ref s.heap.objs.size)) _ _ _
  have hS : (s.heap.push { cls := .type "list", data := .seq ([] : List Value).toArray }).get? s.heap.objs.size = some { cls := .type "list", data := .seq #[] 0 } := Heap.get?_push_size _ rfl
  have hlt := K.there _ hok
  have hok' : OK (s.heap.push { cls := .type "list", data := .seq ([] : List Value).toArray }) := K.keep _ _ hok fun b _ o e => Heap.get?_push_of_some _ e
  refine wpAny_mono (PySem.W.kdl_extend (A := A) (R := fun rr s' => rr = .ok (.ret (.ref s.heap.objs.size)) ∧ ∃ (h' : Heap) (tk : Nat) (acc : Array Value) (c' : Nat), s' = { s with heap := h', toks := tk } ∧
      (∀ b o, s.heap.get? b = some o → h'.get? b = some o) ∧ h'.get? s.heap.objs.size = some { cls := .type "list", dict := none, data := .seq acc c', slots := #[] } ∧ ItemsOf P acc n)
    (s := { s with heap := s.heap.push { cls := .type "list", data := .seq ([] : List Value).toArray } }) K hh hok' s.heap.objs.size (Nat.ne_of_gt hlt.1) (Nat.ne_of_gt hlt.2) (.ref s.heap.objs.size) 0 hS
    (fun h' tk acc c' hk e hi => ⟨rfl, h', tk, acc, c', rfl, fun b o q => hk b o (Nat.ne_of_lt (Heap.lt_size q)) (Heap.get?_push_of_some _ q), e, hi⟩) hn) (fun fin s' h => ?_) (fun e s' h => ?_)
  · cases fin with
    | done f =>
      obtain ⟨e0, h', tk, acc, c', rfl, hk, hS', hi⟩ := h
      cases e0
      show wpAny _ A (load s.heap.objs.size >>= _) _ _ _
      exact wpAny_bind (wpAny_load hS' (wpAny_pure (hQ h' tk acc hk hi)))
    | again c' =>
      refine ⟨h.1, codeAny_mono h.2 fun rr s'' hr' => ?_⟩
      obtain ⟨e0, h', tk, acc, c', rfl, hk, hS', hi⟩ := hr'
      cases e0
      show wpAny _ A (load s.heap.objs.size >>= _) _ _ _
      exact wpAny_bind (wpAny_load hS' (wpAny_pure (hQ h' tk acc hk hi)))
  · exact absurd h.1 (by simp)
end
section
variable {prog : Program} {w : World} {A : Around} {E : Value → Shared → Prop} {s : Shared} {d : Addr} {n : Nat} {o : Obj} {es : Array DictEntry}
theorem code_tuple_new_dict {Q₁ : Value → Shared → Prop} (hh : A.handled = none) (lo : (d == sysModules) = false) (hx : o.ExactDict) (hd : o.data = .dict es n) (ho : s.heap.get? d = some o) (hz : es.size ≤ sizeLine)
    (h : ∀ (h' : Heap) (tk : Nat) (acc : Array Value), (∀ b o, s.heap.get? b = some o → h'.get? b = some o) → ItemsOf (fun i v => ∃ en : DictEntry, es[i]? = some en ∧ v = en.key) acc es.size →
      Q₁ (.ref h'.objs.size) { s with heap := h'.push { cls := .type "tuple", data := .seq acc }, toks := tk }) :
    codeAny (model prog w) A (.call (.builtin "tuple.__new__") ⟨[.type "tuple", .ref d], []⟩) (wants Q₁ E) s := by
  refine codeAny_of_tree ?_
  show wpAny _ A.in1 (do checkBuiltinCall "tuple.__new__" ⟨[.type "tuple", .ref d], []⟩; again (.builtin "tuple.__new__" ⟨[.type "tuple", .ref d], []⟩)) _ _ s
  refine wpAny_bind (wpAny_of_eq (PySem.F.newCall_tuple_1 _) (wpAny_pure ⟨plainId_quiet PySem.F.plain_tuple_new _, codeAny_builtin PySem.F.entry_tuple_new ?_⟩))
  rw [Around.under_plainId PySem.F.plain_tuple_new _]
  have hsub := sub_tuple_self
  have hinit := init_tuple_lookup
  have hmh := madeHere_tuple
  have hTI : s.TypeIs (.ref d) "dict" := ⟨_, ho, hx.1⟩
  have hh1 : A.in1.handled = none := hh
  wp_walk using wpAny_typeOf hTI, collect_kdl (A := A.in1) (kdl_raw lo hx hd) hh1 ho hz
  intro h' tk acc hk hacc
  show wpAny _ _ (Builtin.Tuple.tupleExact acc.toList.toArray >>= fun v => ret v) _ _ _
  unfold Builtin.Tuple.tupleExact
  refine wpAny_bind (wpAny_newObj_type ?_ (by show acc.toList.toArray.size ≤ sizeLine; simp only [Array.toArray_toList]; rw [hacc.1]; exact hz))
  refine wpAny_pure ?_
  have e : acc.toList.toArray = acc := by simp
  rw [e]
  exact h h' tk acc hk hacc
end
section
variable {prog : Program} {w : World} {A : Around} {E : Value → Shared → Prop} {s : Shared} {d : Addr} {n : Nat} {o : Obj} {es : Array DictEntry}
theorem call_tuple_dict {Q : Value → Shared → Prop} (hh : A.handled = none) (lo : (d == sysModules) = false) (hx : o.ExactDict) (hd : o.data = .dict es n) (ho : s.heap.get? d = some o) (hz : es.size ≤ sizeLine)
    (hQ : ∀ (h' : Heap) (tk : Nat) (acc : Array Value), (∀ b o, s.heap.get? b = some o → h'.get? b = some o) → ItemsOf (fun i v => ∃ en : DictEntry, es[i]? = some en ∧ v = en.key) acc es.size →
      Q (.ref h'.objs.size) { s with heap := h'.push { cls := .type "tuple", data := .seq acc }, toks := tk }) :
    wpAny (model prog w) A (call (.type "tuple") [.ref d]) Q E s := by
  refine callType_codes (Q₁ := fun obj s₁ => s₁.TypeIs obj "tuple" ∧ Q obj s₁) PySem.F.called_tuple (PySem.F.typeCall_tuple_1 _) PySem.F.entry_object_init
    (code_tuple_new_dict (A := A.in1) hh lo hx hd ho hz fun h' tk acc hk hacc => ⟨⟨_, Heap.get?_push_size _ rfl, rfl⟩, hQ h' tk acc hk hacc⟩) fun obj s₁ h₁ => ?_
  exact ⟨h₁.1, PySem.F.args_object_init_2 obj _, object_init_meets PySem.F.called_tuple.init.lookup PySem.F.called_tuple.made (by decide) prog w A.in1 _ s₁ ⟨h₁.1, rfl, h₁.2⟩⟩
end
section
variable {X : Cx} {W : XK}
theorem paired_len {α β : Type} {P : α → β → Prop} : ∀ {xs : List α} {ys : List β}, Paired P xs ys → xs.length = ys.length
  | _, _, .nil => rfl
  | _, _, .cons _ t => by rw [List.length_cons, List.length_cons, paired_len t]
theorem paired_get {α β : Type} {P : α → β → Prop} : ∀ {xs : List α} {ys : List β}, Paired P xs ys → ∀ {i : Nat} {x : α}, xs[i]? = some x → ∃ y, ys[i]? = some y ∧ P x y
  | _, _, .cons p _, 0, _, h => by cases h; exact ⟨_, rfl, p⟩
  | _, _, .cons _ t, i + 1, x, h => paired_get t (i := i) h
theorem call_tupG {x : Str} {kvs : List (Str × D)} (hc : X.calm = true) (h : GD X.K X.w X.mg x kvs) (hz : kvs.length ≤ 1000) :
    CallR X (.type "tuple") (fun xs H Q => ∃ a, X.mg x = some (.ref a) ∧ xs = [.ref a] ∧ ∀ q, H q = none → Q (.ref q) (upd H q (.tup (kvs.map fun kv => V.str kv.1)))) := by
  intro pins s σ H xs us Q I r hq
  obtain ⟨a, hm, e, q⟩ := hq
  subst e
  obtain ⟨u, eu, rx⟩ := vals1 r
  subst eu
  obtain rfl : u = Value.ref a := rx
  obtain ⟨a', es, n, hm', kd, p⟩ := h.ex
  rw [hm] at hm'; cases hm'
  have hl := paired_len p
  rw [Array.length_toList] at hl
  have hsz : es.size ≤ sizeLine := by rw [hl, sizeLine_eq]; omega
  refine call_tuple_dict (I.ok.hd hc) kd.low ⟨rfl, rfl, rfl⟩ rfl (I.kIn _ _ kd.at_) hsz fun h' tk acc hk hacc => ?_
  have I1 : Inv X pins σ H { s with heap := h', toks := tk } := I.kept hk
  have hval : Vals (kvs.map fun kv => V.str kv.1) acc.toList := by
    refine vals_of_at (by rw [List.length_map, Array.length_toList]; exact (hacc.1.trans hl).symm) fun j v u h1 h2 => ?_
    obtain ⟨en, e1, e2⟩ := hacc.2 j u (by rw [← Array.getElem?_toList]; exact h2)
    obtain ⟨kv, e3, ⟨t, e4⟩, _⟩ := paired_get p (i := j) (x := en) (by rw [Array.getElem?_toList]; exact e1)
    rw [List.getElem?_map, e3] at h1
    cases h1
    rw [e2, e4]
    exact ⟨t, rfl⟩
  have I2 : Inv X pins σ (upd H h'.objs.size (.tup (kvs.map fun kv => V.str kv.1))) { s with heap := h'.push { cls := .type "tuple", data := .seq acc }, toks := tk } :=
    I1.laid (t' := tk) (fun b o e => Heap.get?_push_of_some _ e) (Nat.le_refl _) (show ObjOk X.prog X.w _ _ _ (.tup (kvs.map fun kv => V.str kv.1)) from ⟨by rw [List.length_map, sizeLine_eq]; omega, acc.toList, hval, by rw [Array.toArray_toList]; exact IsTup.new _ _⟩)
  exact ⟨.ref h'.objs.size, _, I2, rfl, q _ (I1.hok.fresh (Nat.le_refl _))⟩
def tupGB (x : Str) (kvs : List (Str × D)) : OPN := fun ds s => match ds with
  | [.glo y] => if y = x then some (.tup (kvs.map fun kv => D.str kv.1), s) else none
  | _ => none
theorem reps_strs {g : G} {m : List Addr} {H : Hp} : ∀ (kvs : List (Str × D)), Reps g m H (kvs.map fun kv => V.str kv.1) (kvs.map fun kv => D.str kv.1)
  | [] => .nil
  | kv :: kvs => .cons (.str kv.1) (reps_strs kvs)
theorem on_tupG {g : G} {x : Str} {kvs : List (Str × D)} : ON g (fun xs H Q => ∃ a, g.mg x = some (.ref a) ∧ xs = [.ref a] ∧ ∀ q, H q = none → Q (.ref q) (upd H q (.tup (kvs.map fun kv => V.str kv.1)))) (tupGB x kvs) := by
  intro m H s vs ds y s' Q hold rv he q
  unfold tupGB at he
  split at he
  · rename_i z
    by_cases c : z = x
    · rw [if_pos c] at he; cases he
      subst c
      obtain ⟨v, rfl, r⟩ := reps1 rv
      cases r with
      | @glo a _ hm => exact ⟨a, hm, rfl, fun p hp => new_tup hold hp (reps_strs kvs) q⟩
    · rw [if_neg c] at he; cases he
  · cases he
end
/-! ### a datum of the module -/
/-- what stands at x in the module is d -/
structure GV (K : PySem.W.Frag) (mg : Str → Option Value) (x : Str) (d : D) : Prop where
  ex : ∃ (v : V) (u : Value), mg x = some u ∧ RelV v u ∧ ∀ m H, Rep ⟨K, mg⟩ m H v d
section
variable {X : Cx} {W : XK}
theorem s_gv {x : Str} {d : D} {pos : Pos} (h : GV X.K X.mg x d) (hg : Gl X x) (hdb : (x == ("__debug__" : Str)) = false := by decide) : PE X (.Name x pos) (sem ⟨X.K, X.mg⟩ W (cn d)) := by
  obtain ⟨v, u, hm, r, q⟩ := h.ex
  exact s_con (pe_glob hg hm r hdb) q
theorem gv_int {K : PySem.W.Frag} {mg : Str → Option Value} {x : Str} {i : Int} {t : Tok} (h : mg x = some (.int i t)) : GV K mg x (.int i) := ⟨⟨.int i, _, h, ⟨t, rfl⟩, fun _ _ => .int i⟩⟩
theorem gv_tup {K : PySem.W.Frag} {mg : Str → Option Value} {x : Str} {a : Addr} {its : Array Value} {n : Nat} {xs : List V} {ds : List D} (h : mg x = some (.ref a)) (e : K.lookup a = some ⟨.type "tuple", none, .seq its n, #[]⟩) (hz : its.size ≤ sizeLine) (hv : Vals xs its.toList) (r : ∀ m H, Reps ⟨K, mg⟩ m H xs ds) : GV K mg x (.tup ds) :=
  ⟨⟨.ref a, _, h, rfl, fun m H => .tup (.inr ⟨_, its, n, e, rfl, rfl, hz, hv⟩) (r m H)⟩⟩
end
/-! ### recursion -/
def noF : FN := fun _ _ => .no
theorem keeps_no {P : Program} {w : World} {K : PySem.W.Frag} {mg : Str → Option Value} {base : Heap} {x : Str} {st : Stmt} {f : Addr} {fd : FuncData} {ps : List Str} {L : Nat} (h : DefAt K mg x st ps f fd) : Keeps P w K mg base L x ps noF f fd := by
  have no : ∀ {vs H Q E}, ¬ spF ⟨K, mg⟩ ps.length noF vs H Q E := by
    intro vs H Q E z
    obtain ⟨m, s, ds, _, _, _, h⟩ := z
    exact h
  exact ⟨⟨fun _ _ _ _ z => absurd z no, fun _ _ _ _ _ _ _ _ _ _ _ _ _ z => absurd z no⟩, h.at_, h.fn.kp, h.bd⟩
/-! ### displays of dicts, for the printed derivations -/
section
variable {X : Cx} {g : G} {W : XK}
def PPm (X : Cx) (g : G) (W : XK) (pos : Pos) (keys : List (Option Expr)) (values : List Expr) (trs : List (EX × EX)) : Prop := PPs X pos keys values (trs.map fun p => (sem g W p.1, sem g W p.2))
theorem ppm_nil {pos : Pos} : PPm X g W pos [] [] [] := pps_nil
theorem ppm_cons {pos : Pos} {k v : Expr} {ks : List (Option Expr)} {vs : List Expr} {fk fv : EX} {trs : List (EX × EX)} (hk : PE X k (sem g W fk)) (hv : PE X v (sem g W fv)) (hr : PPm X g W pos ks vs trs) : PPm X g W pos (some k :: ks) (v :: vs) ((fk, fv) :: trs) := pps_cons hk hv hr
theorem s_dctm {pos : Pos} {keys : List (Option Expr)} {values : List Expr} {trs : List (EX × EX)} (h : PPm X g W pos keys values trs) (hall : keys.all (·.isSome) = true) (hl : keys.length = values.length) (h0 : keys ≠ [])
    (h15 : keys.length ≤ 15) : PE X (.Dict keys values pos) (sem g W (eDct trs)) := s_dct h hall hl h0 h15
end
end Mi

set_option Elab.async false
set_option linter.all false
set_option maxRecDepth 100000
namespace Mi
open PySem PySem.Spec PyProof.Rows L2
/-! ### more facts for walking -/
theorem in_top {neg : Bool} {d : D} {ds : List D} {s : S} : inD neg d (.ref s.length) (s ++ [O.lst ds]) = if (flatD d && ds.all flatD) = true then some (.bl (if neg then !(ds.any fun y => eqF y d) else ds.any fun y => eqF y d), s ++ [O.lst ds]) else none := in_ref top_get
theorem ixD_top {ds : List D} {i : Int} {s : S} : ixD (.ref s.length) (.int i) (s ++ [O.lst ds]) = (atI ds i).map fun x => (x, s ++ [O.lst ds]) := ixD_ref top_get
theorem tupB_top {ds : List D} {s : S} : tupB [.ref s.length] (s ++ [O.lst ds]) = some (.tup ds, s ++ [O.lst ds]) := tupB_ref top_get
theorem items_top {ds : List D} {s : S} : itemsD (.ref s.length) (s ++ [O.lst ds]) = some ds := items_ref top_get
theorem lenB_top {ds : List D} {s : S} : lenB [.ref s.length] (s ++ [O.lst ds]) = some (.int (ds.length : Int), s ++ [O.lst ds]) := lenB_ref top_get
theorem tru_bl {b : Bool} {s : S} : truD (.bl b) s = some b := rfl
theorem asgT_2 {i j : Nat} {a b : D} {env : Env} : asgT (.t [i, j]) (.tup [a, b]) env = some ((env.set i (some a)).set j (some b)) := rfl
theorem asgT_3 {i j k : Nat} {a b c : D} {env : Env} : asgT (.t [i, j, k]) (.tup [a, b, c]) env = some (((env.set i (some a)).set j (some b)).set k (some c)) := rfl
theorem blsD_map : ∀ bs : List Bool, blsD (bs.map D.bl) = some bs
  | [] => rfl
  | b :: bs => by show (blsD (bs.map D.bl)).map (b :: ·) = _; rw [blsD_map bs]; rfl
theorem intsD_map : ∀ L : List Int, intsD (L.map D.int) = some L
  | [] => rfl
  | b :: L => by show (intsD (L.map D.int)).map (b :: ·) = _; rw [intsD_map L]; rfl
theorem any_ref {q : Nat} {bs : List Bool} {s : S} (h : s[q]? = some (.lst (bs.map D.bl))) : Mi.anyB [.ref q] s = some (.bl (bs.any id), s) := by
  simp only [Mi.anyB, oneL, listItems, h, Option.bind_some, blsD_map, Option.map_some]
theorem all_ref {q : Nat} {bs : List Bool} {s : S} (h : s[q]? = some (.lst (bs.map D.bl))) : Mi.allB [.ref q] s = some (.bl (bs.all id), s) := by
  simp only [Mi.allB, oneL, listItems, h, Option.bind_some, blsD_map, Option.map_some]
theorem sum_ref {q : Nat} {L : List Int} {s : S} (h : s[q]? = some (.lst (L.map D.int))) : Mi.sumB [.ref q] s = some (.int L.sum, s) := by
  simp only [Mi.sumB, oneL, listItems, h, Option.bind_some, intsD_map, Option.map_some]
theorem sort_ref {q : Nat} {L : List Int} {s : S} (h : s[q]? = some (.lst (L.map D.int))) : sortB [.ref q] s = some (.ref s.length, s ++ [.lst ((sortI L).map D.int)]) := by
  simp only [sortB, oneL, listItems, h, Option.bind_some, intsD_map, Option.map_some]
theorem ws_cut {a b : ST} {env : Env} {s : S} {N I : Env → S → Prop} {Rt : D → S → Prop} {B C : Env → S → Prop} (h1 : WS a env s I Rt B C) (h2 : ∀ e s, I e s → WS b e s N Rt B C) : WS (sSeq a b) env s N Rt B C := ws_seq.mpr (WS.mono h1 h2 (fun _ _ h => h) (fun _ _ h => h) (fun _ _ h => h))
theorem neD_ints {p q : Nat} {s : S} {as bs : List Int} (h : s[p]? = some (.lst (as.map D.int))) (h' : s[q]? = some (.lst (bs.map D.int))) : neD (.ref p) (.ref q) s = some (.bl (!decide (as = bs)), s) := by
  unfold neD; rw [eqB_ints h h']
/-- each item gives a truth: the list of truths -/
theorem fm_all {α : Type} (f : α → Bool) (xs : List α) : (xs.filterMap fun x => some (D.bl (f x))) = (xs.map f).map D.bl := by
  rw [List.map_map]
  induction xs with
  | nil => rfl
  | cons x xs ih => rw [List.filterMap_cons, List.map_cons, ih]; rfl
theorem fm_map {α : Type} (f : α → D) (xs : List α) : (xs.filterMap fun x => some (f x)) = xs.map f := by
  induction xs with
  | nil => rfl
  | cons x xs ih => rw [List.filterMap_cons, List.map_cons, ih]
theorem fm_if {α : Type} (P : α → Bool) (en : α → D) (R : List α) : (R.filterMap fun x => if P x = true then some (en x) else none) = (R.filter P).map en := by
  induction R with
  | nil => rfl
  | cons x R ih =>
    by_cases c : P x = true
    · rw [List.filterMap_cons, if_pos c, List.filter_cons_of_pos c, List.map_cons, ih]
    · rw [List.filterMap_cons, if_neg c, List.filter_cons_of_neg c, ih]
theorem gtD_int {i j : Int} {s : S} : gtD (.int i) (.int j) s = some (.bl (decide (j < i)), s) := rfl
theorem addI_int {i j : Int} {s : S} : addI (.int i) (.int j) s = some (.int (i + j), s) := rfl
section
variable {b : ST} {c : EB} {e : EX} {env : Env} {s : S} {N : Env → S → Prop} {Rt : D → S → Prop} {B C : Env → S → Prop} {t : T} {Q : D → S → Prop} {vs : List Nat} {ok : S → Prop} {β : Type}
theorem cs_mapD {xs : List D} (g : D → Option D) (J : S → Prop) (hok : ok s) (hl : xs.length ≤ 16777216) (h0 : J s)
    (hs : ∀ x s, x ∈ xs → J s → ok s → WP (asgT t x (wipeE env vs)) fun e1 => WB c e1 s fun k s1 => if k = true then W e e1 s1 fun y s2 => ok s2 ∧ J s2 ∧ g x = some y else ok s1 ∧ J s1 ∧ g x = none)
    (hd : ∀ s, J s → ok s → Q (.ref s.length) (s ++ [O.lst (xs.filterMap g)])) : CS t vs c e ok env xs s Q := by
  have := cs_map (c := c) (e := e) (t := t) (vs := vs) (env := env) (Q := Q) (xs := xs) id g J hok hl h0 hs hd
  rwa [List.map_id] at this
theorem fs_foldD {xs : List D} (g : β → D → β) (a0 : β) (I : β → Env → S → Prop) (hok : ok s) (h0 : I a0 env s)
    (hs : ∀ a x env s, x ∈ xs → I a env s → ok s → WP (asgT t x env) fun e1 => WS b e1 s (fun e s => ok s ∧ I (g a x) e s) Rt N (fun e s => ok s ∧ I (g a x) e s))
    (hd : ∀ env s, I (xs.foldl g a0) env s → ok s → N env s) : FS t b ok xs env s N Rt B C := by
  have := fs_fold (b := b) (t := t) (env := env) (N := N) (Rt := Rt) (B := B) (C := C) (xs := xs) id g a0 I hok h0 hs hd
  rwa [List.map_id] at this
end
theorem cutD_init {xs : List D} : cutD xs none (some (-1)) = xs.dropLast := by
  unfold cutD HT.sIx
  simp only [List.drop_zero]
  rw [List.dropLast_eq_take]
  congr 1
  simp
  omega
theorem cutD_take {xs : List D} {n : Nat} : cutD xs none (some (n : Int)) = xs.take n := by
  unfold cutD
  rw [HT.sIx_nat, HT.sIx_none, List.drop_zero, Nat.sub_zero]
  by_cases h : n ≤ xs.length
  · rw [Nat.min_eq_left h]
  · rw [Nat.min_eq_right (by omega), List.take_of_length_le (Nat.le_refl _), List.take_of_length_le (by omega)]
theorem cutD_drop {xs : List D} {n : Nat} : cutD xs (some (n : Int)) none = xs.drop n := by
  unfold cutD
  rw [HT.sIx_nat, HT.sIx_none]
  by_cases h : n ≤ xs.length
  · rw [Nat.min_eq_left h, List.take_of_length_le (by rw [List.length_drop]; exact Nat.le_refl _)]
  · rw [Nat.min_eq_right (by omega), List.drop_of_length_le (Nat.le_refl _), List.drop_of_length_le (by omega), List.take_nil]
theorem atI_last {xs : List D} {l : D} (h : xs.getLast? = some l) : atI xs (-1) = some l := by
  unfold atI ixN
  rw [List.getLast?_eq_getElem?] at h
  have hp : 0 < xs.length := by
    cases xs with
    | nil => cases h
    | cons x xs => simp
  rw [if_neg (by omega), if_pos (by omega)]
  show xs[(-1 + (xs.length : Int)).toNat]? = some l
  rw [show (-1 + (xs.length : Int)).toNat = xs.length - 1 by omega]
  exact h
end Mi

set_option Elab.async false
set_option linter.all false
set_option maxRecDepth 100000
set_option maxHeartbeats 4000000
namespace Mi
open PySem PySem.Spec PyProof.Rows L2
/-! ### objects of own classes -/
def ClsF (K : PySem.W.Frag) (mg : Str → Option Value) (C : Str) : Prop := ∀ c, mg C = some (.ref c) → Cls K c
def NoA (K : PySem.W.Frag) (mg : Str → Option Value) (C f : Str) : Prop := ∀ c, mg C = some (.ref c) → NoAttr K c f
def MethF (K : PySem.W.Frag) (mg : Str → Option Value) (C m : Str) (f : Addr) : Prop := ∀ c, mg C = some (.ref c) → Meth K c m f
def fldD (C f : Str) (d : D) (s : S) : Option D := match d with
  | .ref p => match s[p]? with
    | some (.ins C' fs) => if C' = C then fs.lookup f else none
    | _ => none
  | _ => none
def insAt (C : Str) (d : D) (s : S) : Option (Nat × List (Str × D)) := match d with
  | .ref p => match s[p]? with
    | some (.ins C' fs) => if C' = C then some (p, fs) else none
    | _ => none
  | _ => none
def eFld (C f : Str) (x : EX) : EX := fun env s => (x env s).bind fun d s1 => R.of ((fldD C f d s1).map fun v => (v, s1))
def putFD (f : Str) (v : D) : List (Str × D) → List (Str × D)
  | [] => [(f, v)]
  | (g, x) :: r => if g = f then (g, v) :: r else (g, x) :: putFD f v r
/-- x.f = v -/
def sFldD (C f : Str) (v x : EX) : ST := fun env s => (v env s).go fun d s1 => (x env s1).go fun o s2 => match insAt C o s2 with
  | some (p, fs) => if fs.length < 1000 then .nx env (s2.set p (.ins C (putFD f d fs))) else .no
  | none => .no
section
variable {g : G} {m : List Addr} {H : Hp} {s : S} {v : V} {d : D} {C f : Str}
theorem entF_lookup : ∀ {es : List (Str × V)} {fs : List (Str × D)}, EntF g m H es fs → (fs.lookup f = none ∧ es.lookup f = none) ∨ ∃ v d, fs.lookup f = some d ∧ es.lookup f = some v ∧ Rep g m H v d
  | _, _, .nil => .inl ⟨rfl, rfl⟩
  | (k, v) :: es, (k', d) :: fs, .cons r t => by
    obtain ⟨r1, r2⟩ := r
    have r1 : k' = k := r1
    subst r1
    show (List.lookup f ((k', d) :: fs) = none ∧ _) ∨ _
    rw [List.lookup_cons, List.lookup_cons]
    cases hk : f == k' with
    | true => exact .inr ⟨v, d, rfl, rfl, r2⟩
    | false => exact entF_lookup t
theorem ent_putF {w : V} {x : D} (r0 : Rep g m H w x) : ∀ {es : List (Str × V)} {fs : List (Str × D)}, EntF g m H es fs → EntF g m H (putF f w es) (putFD f x fs)
  | _, _, .nil => .cons ⟨rfl, r0⟩ .nil
  | (k, v) :: es, (k', d) :: fs, .cons r t => by
    obtain ⟨r1, r2⟩ := r
    have r1 : k' = k := r1
    subst r1
    unfold putF putFD
    by_cases c : k' = f
    · rw [if_pos c, if_pos c]; exact .cons ⟨rfl, r0⟩ t
    · rw [if_neg c, if_neg c]; exact .cons ⟨rfl, r2⟩ (ent_putF r0 t)
theorem ins_rep {p : Nat} {fs : List (Str × D)} (hold : Hold g m s H) (r : Rep g m H v d) (h : insAt C d s = some (p, fs)) : ∃ a c dx es, v = .ref a ∧ d = .ref p ∧ m[p]? = some a ∧ g.mg C = some (.ref c) ∧ H a = some (.ins c dx es) ∧ H dx = some (.own a) ∧ EntF g m H es fs := by
  unfold insAt at h
  split at h
  · cases r with
    | @ref a q z =>
      split at h
      · rename_i C' fs' e
        by_cases c : C' = C
        · rw [if_pos c] at h
          cases h
          subst c
          obtain ⟨c, dx, es, h1, h2, h3, h4⟩ := hold.obj _ a _ z e
          exact ⟨a, c, dx, es, rfl, rfl, z, h1, h2, h3, h4⟩
        · rw [if_neg c] at h; cases h
      · cases h
  · cases h
theorem fld_ins {x : D} (h : fldD C f d s = some x) : ∃ p fs, insAt C d s = some (p, fs) ∧ fs.lookup f = some x := by
  unfold fldD at h
  unfold insAt
  split at h
  · rename_i q
    split at h
    · rename_i C' fs' e
      by_cases c : C' = C
      · rw [if_pos c] at h
        exact ⟨q, fs', by simp only [e, c, if_true], h⟩
      · rw [if_neg c] at h; cases h
    · cases h
  · cases h
end
section
variable {X : Cx} {W : XK} {C f : Str} {x v : EX}
theorem s_fld {e : Expr} {pos : Pos} (hc : ClsF X.K X.mg C) (hn : NoA X.K X.mg C f) (ha : PE X e (sem ⟨X.K, X.mg⟩ W x)) (hb : attributeBase e f X.env (eval e X.env) = eval e X.env := by rfl) : PE X (.Attribute e f pos) (sem ⟨X.K, X.mg⟩ W (eFld C f x)) := by
  refine PE.of (pe_fld ha hb) fun σ H Q ⟨m, env, s, ag, q⟩ => ?_
  refine sem_k ag (R.post_bind q) fun d s1 v m1 H1 q1 l1 a1 r1 => ?_
  obtain ⟨y, s2, e1, q2⟩ := R.post_of q1
  cases hf : fldD C f d s1 with
  | none => rw [hf] at e1; cases e1
  | some z =>
    rw [hf] at e1
    cases e1
    obtain ⟨p, fs, h1, h2⟩ := fld_ins hf
    obtain ⟨a, c, dx, es, rfl, rfl, z1, h3, h4, h5, h6⟩ := ins_rep a1.hold r1 h1
    rcases entF_lookup (f := f) h6 with ⟨n1, _⟩ | ⟨w, d', h7, h8, h9⟩
    · rw [n1] at h2; cases h2
    · rw [h7] at h2; cases h2
      exact ⟨a, c, dx, es, w, rfl, h4, hc c h3, hn c h3, h8, PD.le l1 q2 w m1 H1 (Le.refl _ _) a1.hold h9⟩
theorem c_fld {o e : Expr} {pos pos' : Pos} (hc : ClsF X.K X.mg C) (hn : NoA X.K X.mg C f) (ho : PE X o (sem ⟨X.K, X.mg⟩ W x)) (he : PE X e (sem ⟨X.K, X.mg⟩ W v)) (hs : swapsWith e (some (.Attribute o f pos')) pos.line X.env = pure false) : PS X (.Assign [.Attribute o f pos'] e pos) (semS ⟨X.K, X.mg⟩ W (sFldD C f v x)) := by
  refine PS.of (ps_fld ho he hs) fun B σ H ⟨m, env, s, a, q⟩ => ?_
  refine sem_k a (R.go_post q) fun d s1 w m1 H1 q1 l1 a1 r1 => ?_
  refine sem_k a1 (R.go_post (Fl.post_le l1 q1)) fun y s2 u m2 H2 q2 l2 a2 r2 => ?_
  cases h : insAt C y s2 with
  | none => rw [h] at q2; exact q2.elim
  | some pf =>
    obtain ⟨p, fs⟩ := pf
    rw [h] at q2
    dsimp only at q2
    by_cases c : fs.length < 1000
    · rw [if_pos c] at q2
      obtain ⟨a', c', dx, es, rfl, rfl, z1, h3, h4, h5, h6⟩ := ins_rep a2.hold r2 h
      have hlen : es.length = fs.length := Paired.length h6
      have hw : Hold ⟨X.K, X.mg⟩ m2 (s2.set p (.ins C (putFD f d fs))) (upd H2 a' (.ins c' dx (putF f w es))) :=
        a2.hold.write z1 ⟨c', dx, putF f w es, h3, upd_same, (by
          rw [upd_ne (fun z => by rw [z] at h5; rw [h4] at h5; cases h5)]; exact h5), (ent_putF (r1.le l2) h6).le (Le.write a2.hold z1)⟩
      refine ⟨a', c', dx, es, rfl, h4, hc c' h3, hn c' h3, by rw [hlen]; exact c, ?_⟩
      exact q2 σ m2 _ (l2.trans (Le.write a2.hold z1)) (a2.go (Le.write a2.hold z1) hw)
    · rw [if_neg c] at q2; exact q2.elim
end
/-! ### calls of methods and classes -/
/-- x.m(args): the method of class C does F -/
def eMth (C m : Str) (n : Nat) (F : FN) (x : EX) (fa : EA) : EX := fun env s => (x env s).bind fun d s1 => match insAt C d s1 with
  | some (_, fs) => if fs.lookup m = none then (fa env s1).bind fun ds s2 => if ds.length + 1 = n then F (d :: ds) s2 else .no else .no
  | none => .no
/-- C(args): a new object, for which __init__ does F -/
def eNew (C : Str) (n : Nat) (F : FN) (fa : EA) : EX := fun env s => (fa env s).bind fun ds s1 => if ds.length + 1 = n then (F (.ref s1.length :: ds) (s1 ++ [.ins C []])).bind fun r s2 => match r with
  | .non => .ok (.ref s1.length) s2
  | _ => .no else .no
/-- the method m of class C does F, at level L -/
structure KeepsM (P : Program) (w : World) (K : PySem.W.Frag) (mg : Str → Option Value) (base : Heap) (L : Nat) (C m : Str) (ps : List Str) (F : FN) (f : Addr) (fd : FuncData) : Prop where
  ok : FnOk P w K mg base CX0 L f fd ps (spF ⟨K, mg⟩ ps.length F)
  mt : MethF K mg C m f
  bd : Binds K fd ps []
structure MethAt (K : PySem.W.Frag) (mg : Str → Option Value) (C m qual : Str) (st : Stmt) (ps : List Str) (f : Addr) (fd : FuncData) : Prop where
  fn : Fun K m qual st f fd
  mt : MethF K mg C m f
  bd : Binds K fd ps []
section
variable {P : Program} {w : World} {K : PySem.W.Frag} {mg : Str → Option Value} {base : Heap}
theorem keepsM_of {C m qual : Str} {st : Stmt} {f : Addr} {fd : FuncData} {N ps : List Str} {k : Nat} {b : ST} (h : MethAt K mg C m qual st ps f fd) (sc : FnScope N ps (defScope st))
    (hb : ∀ (cdv : Value) (A : Around) (outer : List PySem.Env) (s : Shared) (H : Hp) (E : XK), Room k (A.deeper (envOfC qual (defScope st) s.heap.objs.size f cdv)) →
      PSs (cxOf CX0 P w K mg base N qual (defScope st) f cdv A outer s H E).nox (defBody st) (semS ⟨K, mg⟩ E0 b)) : KeepsM P w K mg base (k + 1) C m ps (fnB N.length ps.length b) f fd :=
  ⟨fn_ok h.fn sc hb, h.mt, h.bd⟩
end
section
variable {X : Cx} {L L' n : Nat} {C m : Str} {ps : List Str} {F : FN} {f : Addr} {fd : FuncData} {o e : Expr} {es : List Expr} {x : EX} {fa : EA} {p pos apos : Pos}
theorem sem_mth {σ : L2.St} {H : Hp} {Q : VK} (hn : ps.length = n) (c : Addr) (hm : X.mg C = some (.ref c)) (h : sem ⟨X.K, X.mg⟩ E0 (eMth C m n F x fa) σ H Q) :
    tMeth c m (spF ⟨X.K, X.mg⟩ ps.length F) [] E0 (sem ⟨X.K, X.mg⟩ E0 x) (semA ⟨X.K, X.mg⟩ E0 fa) σ H Q := by
  obtain ⟨m0, env, s, ag, q⟩ := h
  refine sem_k ag (R.post_bind q) fun d s1 v m1 H1 q1 l1 a1 r1 => ?_
  cases hi : insAt C d s1 with
  | none => rw [hi] at q1; exact q1.elim
  | some pf =>
    obtain ⟨p, fs⟩ := pf
    rw [hi] at q1
    dsimp only at q1
    by_cases hl : fs.lookup m = none
    · rw [if_pos hl] at q1
      obtain ⟨a, c', dx, es, rfl, rfl, z1, h3, h4, h5, h6⟩ := ins_rep a1.hold r1 hi
      have h3 : X.mg C = some (.ref c') := h3
      rw [hm] at h3; cases h3
      refine ⟨a, dx, es, rfl, h4, ?_, ?_⟩
      · rcases entF_lookup (f := m) h6 with ⟨_, n2⟩ | ⟨w, d', h7, _⟩
        · exact n2
        · rw [h7] at hl; cases hl
      refine semA_k a1 (R.post_mono (R.post_bind q1) (fun _ _ z => z) fun _ _ _ z => z.le l1) fun ds s2 vs m2 H2 q2 l2 a2 r2 => ?_
      by_cases cn : ds.length + 1 = n
      · rw [if_pos cn] at q2
        rw [List.append_nil]
        exact ⟨m2, s2, .ref p :: ds, by rw [List.length_cons, cn, hn], a2.hold, .cons (r1.le l2) r2, R.post_mono q2 (fun _ _ z => PD.le (l1.trans l2) z) fun _ _ _ z => WX.le (l1.trans l2) z⟩
      · rw [if_neg cn] at q2; exact q2.elim
    · rw [if_neg hl] at q1; exact q1.elim
theorem s_mth {pl : Sem Bool} {c : Addr} (h : KeepsM X.prog X.w X.K X.mg X.base L C m ps F f fd) (hcm : X.mg C = some (.ref c)) (hc : ClsF X.K X.mg C) (hl : L ≤ L') (hr : Room L' X.A) (hn : ps.length = n)
    (ho : PE X o (sem ⟨X.K, X.mg⟩ E0 x)) (ha : PA X (e :: es) (semA ⟨X.K, X.mg⟩ E0 fa))
    (hst : starEach (e :: es) X.env = (false, eval e X.env) :: starEach es X.env := by rfl) (hpl : (backTo pos (starEach es X.env)).any (·.1) = false := by rfl)
    (ht : eval (.Call (.Attribute o m apos) (e :: es) [] pos) X.env = (do
      let ov ← eval o X.env
      standAt apos.atName
      let (f, first) ← holding [ov] (getMethod ov m pl)
      callWith pos f first (backTo pos (starEach (e :: es) X.env)) (backToKw pos (keywordEach [] X.env))) := by rfl) :
    PE X (.Call (.Attribute o m apos) (e :: es) [] pos) (sem ⟨X.K, X.mg⟩ E0 (eMth C m n F x fa)) :=
  PE.of (pe_meth (pl := pl) ho (hc c hcm) (h.mt c hcm) (h.ok.mono hl) hr h.bd .nil pass0 ha hst hpl ht) fun _ _ _ q => sem_mth hn c hcm q
theorem s_mth0 {pl : Sem Bool} {c : Addr} (h : KeepsM X.prog X.w X.K X.mg X.base L C m ps F f fd) (hcm : X.mg C = some (.ref c)) (hc : ClsF X.K X.mg C) (hl : L ≤ L') (hr : Room L' X.A) (hn : ps.length = n)
    (ho : PE X o (sem ⟨X.K, X.mg⟩ E0 x))
    (ht : eval (.Call (.Attribute o m apos) [] [] pos) X.env = (do
      let ov ← eval o X.env
      standAt apos.atName
      let (f, first) ← holding [ov] (getMethod ov m pl)
      callWith pos f first (backTo pos (starEach [] X.env)) (backToKw pos (keywordEach [] X.env))) := by rfl) :
    PE X (.Call (.Attribute o m apos) [] [] pos) (sem ⟨X.K, X.mg⟩ E0 (eMth C m n F x aN)) := by
  refine PE.of (pe_meth0 (pl := pl) ho (hc c hcm) (h.mt c hcm) (h.ok.mono hl) hr h.bd .nil pass0 ht) fun σ H Q q => ?_
  obtain ⟨m0, env, s, ag, q⟩ := q
  refine sem_k ag (R.post_bind q) fun d s1 v m1 H1 q1 l1 a1 r1 => ?_
  cases hi : insAt C d s1 with
  | none => rw [hi] at q1; exact q1.elim
  | some pf =>
    obtain ⟨p, fs⟩ := pf
    rw [hi] at q1
    dsimp only at q1
    by_cases hl : fs.lookup m = none
    · rw [if_pos hl] at q1
      obtain ⟨a, c', dx, es, rfl, rfl, z1, h3, h4, h5, h6⟩ := ins_rep a1.hold r1 hi
      have h3 : X.mg C = some (.ref c') := h3
      rw [hcm] at h3; cases h3
      refine ⟨a, dx, es, rfl, h4, ?_, ?_⟩
      · rcases entF_lookup (f := m) h6 with ⟨_, n2⟩ | ⟨w, d', h7, _⟩
        · exact n2
        · rw [h7] at hl; cases hl
      · have q2 : (if ([] : List D).length + 1 = n then F (.ref p :: []) s1 else .no).post _ _ := q1
        by_cases cn : ([] : List D).length + 1 = n
        · rw [if_pos cn] at q2
          exact ⟨m1, s1, [.ref p], by rw [hn, ← cn]; rfl, a1.hold, .cons r1 .nil, R.post_mono q2 (fun _ _ z => PD.le l1 z) fun _ _ _ z => WX.le l1 z⟩
        · rw [if_neg cn] at q2; exact q2.elim
    · rw [if_neg hl] at q1; exact q1.elim
theorem s_new {c : Addr} {pn : Pos} {cn : Str} (h : KeepsM X.prog X.w X.K X.mg X.base L C "__init__" ps F f fd) (hcm : X.mg C = some (.ref c)) (hmk : Mk X.K c f) (hl : L + 1 ≤ L') (hr : Room L' X.A) (hn : ps.length = n) (hg : Gl X C)
    (ha : PA X (e :: es) (semA ⟨X.K, X.mg⟩ E0 fa)) (hdb : (C == ("__debug__" : Str)) = false := by decide) (he : starEach (e :: es) X.env = (false, eval e X.env) :: starEach es X.env := by rfl) (hpl : (backTo pos (starEach es X.env)).any (·.1) = false := by rfl) :
    PE X (.Call (.Name C pn) (e :: es) [] pos) (sem ⟨X.K, X.mg⟩ E0 (eNew C n F fa)) := by
  refine PE.of (pe_make hmk h.ok (hr.mono hl) hg hcm h.bd .nil pass0 ha hdb he hpl) fun σ H Q ⟨m0, env, s, ag, q⟩ => ?_
  refine semA_k ag (R.post_bind q) fun ds s1 vs m1 H1 q1 l1 a1 r1 => ?_
  by_cases cn : ds.length + 1 = n
  · rw [if_pos cn] at q1
    intro x dx hx hdx hne
    have l2 : Le m1 H1 m1 (upd H1 dx (.own x)) := Le.aside a1.hold hdx
    have hold2 : Hold ⟨X.K, X.mg⟩ m1 s1 (upd H1 dx (.own x)) := a1.hold.aside hdx
    have hx2 : upd H1 dx (.own x) x = none := by rw [upd_ne (fun z => hne z.symm)]; exact hx
    have l3 : Le m1 (upd H1 dx (.own x)) (m1 ++ [x]) (upd (upd H1 dx (.own x)) x (.ins c dx [])) := Le.new hold2 hx2
    have hold3 : Hold ⟨X.K, X.mg⟩ (m1 ++ [x]) (s1 ++ [.ins C []]) (upd (upd H1 dx (.own x)) x (.ins c dx [])) :=
      hold2.new hx2 ⟨c, dx, [], hcm, upd_same, by rw [upd_ne hne]; exact upd_same, .nil⟩
    have hxr : Rep ⟨X.K, X.mg⟩ (m1 ++ [x]) (upd (upd H1 dx (.own x)) x (.ins c dx [])) (.ref x) (.ref s1.length) := .ref (by
      rw [← a1.hold.len, List.getElem?_append_right (Nat.le_refl _), Nat.sub_self]; rfl)
    rw [List.append_nil]
    refine ⟨m1 ++ [x], s1 ++ [.ins C []], .ref s1.length :: ds, by rw [List.length_cons, cn, hn], hold3, .cons hxr (r1.le (l2.trans l3)), ?_⟩
    refine R.post_mono (R.post_bind q1) (fun r s2 z => ?_) fun _ _ _ z => WX.le (l1.trans (l2.trans l3)) z
    intro v m' H' l4 hold4 r4
    cases r with
    | non =>
      cases r4
      refine ⟨rfl, ?_⟩
      cases hxr with
      | ref hxr => exact z (.ref x) m' H' (l1.trans (l2.trans (l3.trans l4))) hold4 (.ref (l4.get hxr))
    | _ => exact z.elim
  · rw [if_neg cn] at q1; exact q1.elim
end
/-- x.f op= v, of ints -/
def sFldAug (o : OP2) (C f : Str) (x v : EX) : ST := fun env s => (x env s).go fun d s1 => (R.of ((fldD C f d s1).map fun y => (y, s1))).go fun old s1 => (v env s1).go fun y s2 => (R.of (o old y s2)).go fun z s3 => match insAt C d s3 with
  | some (p, fs) => if fs.length < 1000 then .nx env (s3.set p (.ins C (putFD f z fs))) else .no
  | none => .no
end Mi

set_option Elab.async false
set_option linter.all false
set_option maxRecDepth 100000
set_option maxHeartbeats 4000000
namespace Mi
open PySem PySem.Spec PyProof.Rows L2
/-! ### d.get(k, z) -/
def eDGet2 (f f' f'' : EX) : EX := fun env s => (f env s).bind fun d s1 => match dctAt d s1 with
  | none => .no
  | some _ => (f' env s1).bind fun k s2 => (f'' env s2).bind fun z s3 => match dctAt d s3, keyD k with
    | some kvs, some k' => .ok ((valD kvs k').getD z) s3
    | _, _ => .no
section
variable {X : Cx} {g : G} {W : XK} {f f' f'' : EX} {o e e2 : Expr} {apos cpos : Pos}
theorem s_dget2 (hu : X.A.units + 1 < cLine) (ho : PE X o (sem g W f)) (he : PE X e (sem g W f')) (hf : PE X e2 (sem g W f'')) (m : M2 X o "get" apos e e2 cpos) : PE X (.Call (.Attribute o "get" apos) [e, e2] [] cpos) (sem g W (eDGet2 f f' f'')) := by
  refine PE.of (pe_dget2 hu ho he hf m) fun σ H Q ⟨m0, env, s, ag, q⟩ => ?_
  refine sem_k ag (R.post_bind q) fun d s1 v m1 H1 q1 l1 a1 r1 => ?_
  cases hd : dctAt d s1 with
  | none => rw [hd] at q1; exact q1.elim
  | some kvs0 =>
    rw [hd] at q1
    dsimp only at q1
    obtain ⟨p, a, es, rfl, rfl, z, e2', t⟩ := dct_rep a1.hold r1 hd
    refine ⟨a, rfl, .inl ⟨es, .inl e2'⟩, ?_⟩
    refine sem_k a1 (R.post_mono (R.post_bind q1) (fun _ _ z => z) fun _ _ _ z => z.le l1) fun k s2 w m2 H2 q2 l2 a2 r2 => ?_
    refine sem_k a2 (R.post_mono (R.post_bind q2) (fun _ _ z => z) fun _ _ _ z => z.le (l1.trans l2)) fun y s3 u m3 H3 q3 l3 a3 r3 => ?_
    cases hd3 : dctAt (.ref p) s3 with
    | none => rw [hd3] at q3; exact q3.elim
    | some kvs =>
      rw [hd3] at q3
      cases hk : keyD k with
      | none => rw [hk] at q3; exact q3.elim
      | some k' =>
        rw [hk] at q3
        have q3 : PD g m0 H Q ((valD kvs k').getD y) s3 := q3
        obtain ⟨p', a', es', e0, e1, z', e2'', t'⟩ := dct_rep a3.hold ((r1.le l2).le l3) hd3
        cases e1
        have hkey := key_rep r2 hk
        subst hkey
        rcases val_rep (k := k') t' with ⟨e3, e4⟩ | ⟨u', d', e3, e4, r⟩
        · refine ⟨none, by rw [← e4]; exact DGet.k e2'', ?_⟩
          rw [e3] at q3
          exact q3 u m3 H3 (l1.trans (l2.trans l3)) a3.hold r3
        · refine ⟨some u', by rw [← e4]; exact DGet.k e2'', ?_⟩
          rw [e3] at q3
          exact q3 u' m3 H3 (l1.trans (l2.trans l3)) a3.hold r
end
section
variable {f f' f'' : EX}
theorem w_DGet2 {env : Env} {s : S} {Q : D → S → Prop} : W (eDGet2 f f' f'') env s Q ↔ W f env s fun d s1 => WP (dctAt d s1) fun _ => W f' env s1 fun k s2 => W f'' env s2 fun z s3 => WP (dctAt d s3) fun kvs => WP (keyD k) fun k' => Q ((valD kvs k').getD z) s3 := by
  unfold W eDGet2
  rw [wf_bind]
  refine wf_congr fun d s1 => ?_
  cases dctAt d s1 with
  | none => exact ⟨fun ⟨_, _, e, _⟩ => (by cases e), fun ⟨_, e, _⟩ => (by cases e)⟩
  | some kv =>
    rw [wp_some]
    dsimp only
    rw [wf_bind]
    refine wf_congr fun k s2 => ?_
    rw [wf_bind]
    refine wf_congr fun z s3 => ?_
    cases dctAt d s3 with
    | none => exact ⟨fun ⟨_, _, e, _⟩ => (by cases e), fun ⟨_, e, _⟩ => (by cases e)⟩
    | some kvs =>
      rw [wp_some]
      cases keyD k with
      | none => exact ⟨fun ⟨_, _, e, _⟩ => (by cases e), fun ⟨_, e, _⟩ => (by cases e)⟩
      | some k' => rw [wp_some]; exact wf_ok
end
/-! ### list.index, list.count, list.remove -/
theorem int_inj {a b : List Int} (h : a.map V.int = b.map V.int) : a = b := by
  induction a generalizing b with
  | nil => cases b with
    | nil => rfl
    | cons => cases h
  | cons x a ih => cases b with
    | nil => cases h
    | cons y b =>
      rw [List.map_cons, List.map_cons] at h
      injection h with h1 h2
      cases h1
      rw [ih h2]
def idxM : OPM := fun d ds s => match d, ds with
  | .ref p, [y] => match s[p]? with
    | some (.lst xs) => if (flatD y && xs.all flatD) = true then (match xs.findIdx? (fun z => eqF z y) with
      | some j => some (.int (j : Int), s)
      | none => none) else none
    | _ => none
  | _, _ => none
def cntM : OPM := fun d ds s => match d, ds with
  | .ref p, [.int k] => match s[p]? with
    | some (.lst xs) => (intsD xs).map fun ns => (.int (ns.count k : Nat), s)
    | _ => none
  | _, _ => none
section
variable {g : G}
theorem rep_lst' {m : List Addr} {H : Hp} {s : S} {v : V} {p : Nat} {ds : List D} (hold : Hold g m s H) (r : Rep g m H v (.ref p)) (e : s[p]? = some (.lst ds)) : ∃ a xs, v = .ref a ∧ m[p]? = some a ∧ H a = some (.lst xs) ∧ Reps g m H xs ds := by
  obtain ⟨a, ys, h1, h2, h3, h4⟩ := rep_lst hold r e
  exact ⟨a, ys, h1, h2, h3, h4⟩
theorem om_idx : OM g (rIndex g.K) idxM := by
  intro m H s v vs d ds x s' Q hold r rs he q
  unfold idxM at he
  split at he
  · rename_i p y
    split at he
    · rename_i xs e1
      by_cases c : (flatD y && xs.all flatD) = true
      · rw [if_pos c] at he
        cases hf : xs.findIdx? (fun z => eqF z y) with
        | none => rw [hf] at he; cases he
        | some j =>
          rw [hf] at he; cases he
          rw [Bool.and_eq_true] at c
          obtain ⟨a, ys, rfl, z, e2, t⟩ := rep_lst' hold r e1
          obtain ⟨w, rfl, rw1⟩ := reps1 rs
          obtain ⟨hj, h1, h2⟩ := List.findIdx?_eq_some_iff_getElem.mp hf
          obtain ⟨z0, hz0, rz0⟩ := Reps.get t (List.getElem?_eq_getElem hj)
          have fl : ∀ d ∈ xs, flatD d = true := List.all_eq_true.mp c.2
          refine ⟨a, ys, w, j, z0, rfl, rfl, .of e2, flat_rep rw1 c.1, flats_rep t c.2, hz0, ?_, ?_, PD.here hold (.int _) q⟩
          · rw [eqF_rep rz0 rw1 (fl _ (List.getElem_mem hj)) c.1]; exact h1
          · intro k z' hk hz'
            obtain ⟨d', hd', rd'⟩ := Reps.get' t hz'
            have hkl := (List.getElem?_eq_some_iff.mp hd')
            obtain ⟨hkl, hkd⟩ := hkl
            rw [eqF_rep rd' rw1 (fl _ (List.mem_of_getElem? hd')) c.1]
            have := h2 k hk
            rw [hkd] at this
            simpa using this
      · rw [if_neg c] at he; cases he
    · cases he
  · cases he
theorem om_cnt : OM g (rCntI g.K) cntM := by
  intro m H s v vs d ds x s' Q hold r rs he q
  unfold cntM at he
  split at he
  · rename_i p k
    split at he
    · rename_i xs e1
      cases hi : intsD xs with
      | none => rw [hi] at he; cases he
      | some ns =>
        rw [hi] at he; cases he
        obtain ⟨a, ys, rfl, z, e2, t⟩ := rep_lst' hold r e1
        obtain ⟨w, rfl, rw1⟩ := reps1 rs
        have hw := rep_int rw1
        subst hw
        have hy := ints_rep t hi
        subst hy
        exact ⟨a, ns, k, rfl, rfl, .of e2, PD.here hold (.int _) q⟩
    · cases he
  · cases he
end
/-! ### xs[i] op= e -/
theorem get_list {X : Cx} : PGet X (rIxL X.K) := by
  intro pins s σ H x y v u Q I rx ry h
  obtain ⟨p, xs, i, z, rfl, rfl, hq, he, q⟩ := h
  cases rx
  obtain ⟨t, rfl⟩ := ry
  obtain ⟨its, r, pl, hz⟩ := I.list hq
  obtain ⟨j, h1, h2, h3, h4, h5⟩ := atI_get he
  obtain ⟨w, ew, rw'⟩ := r.get h2
  have hl := r.length
  have hn := line63
  have fin : EP X pins σ Q w s := ⟨z, H, I, rw', q⟩
  by_cases h0 : 0 ≤ i
  · have hj : i.toNat = j := by
      rw [seqIndex_of h0 h5] at h1
      exact Option.some.inj h1
    exact wpAny_getItem_list pl.isList h0 (by omega) (by rw [hj]; simpa using ew) fin
  · have hj : (i + (its.toArray.size : Int)).toNat = j := by
      rw [seqIndex_neg (by omega) h4] at h1
      rw [List.size_toArray, ← hl]
      exact Option.some.inj h1
    exact wpAny_getItem_list_neg pl.isList (by omega) (by rw [List.size_toArray] <;> omega) (by omega) (by rw [hj]; simpa using ew) fin
/-- xs[i], of a list of the store -/
def ixLD : OP2 := fun d k s => match d, k with
  | .ref p, .int i => match s[p]? with
    | some (.lst xs) => (atI xs i).map fun x => (x, s)
    | _ => none
  | _, _ => none
/-- xs[i] op= e: the list, the index, the value -/
def sLAug (o : OP2) (f' f'' f : EX) : ST := fun env s => (f' env s).go fun d s1 => (f'' env s1).go fun k s2 => (R.of (ixLD d k s2)).go fun old s2 => (f env s2).go fun x s3 => (R.of (o old x s3)).go fun y s4 => match setLD d k y s4 with
  | some s5 => .nx env s5
  | none => .no
section
variable {X : Cx} {g : G} {W : XK} {f f' f'' : EX} {st : Stmt}
theorem c_laug {r : R2} {o : OP2} (h : PS X st (tAugS (sem g W f') (sem g W f'') (sem g W f) (rIxL g.K) r rSetL)) (ho : O2 g r o) : PS X st (semS g W (sLAug o f' f'' f)) := by
  refine PS.of h fun B σ H ⟨m, env, s, a, q⟩ => ?_
  refine sem_k a (R.go_post q) fun d s1 w m1 H1 q1 l1 a1 r1 => ?_
  refine sem_k a1 (R.go_post (Fl.post_le l1 q1)) fun k s2 u m2 H2 q2 l2 a2 r2 => ?_
  obtain ⟨old, s2', e0, q2⟩ := R.post_of (R.go_post q2)
  unfold ixLD at e0
  split at e0
  · rename_i p i _
    split at e0
    · rename_i xs e1
      cases hx : atI xs i with
      | none => rw [hx] at e0; cases e0
      | some od =>
        rw [hx] at e0; cases e0
        obtain ⟨b, ys, rfl, z, e2, t⟩ := rep_lst' a2.hold (r1.le l2) e1
        obtain ⟨ov, e3, r3⟩ := atI_rep t hx
        have hi := rep_int r2
        subst hi
        refine ⟨b, ys, i, ov, rfl, rfl, .of e2, e3, ?_⟩
        refine sem_k a2 (R.go_post (Fl.post_le l2 q2)) fun x s3 xv m3 H3 q3 l3 a3 r3' => ?_
        obtain ⟨y, s4, e5, q4⟩ := R.post_of (R.go_post q3)
        refine ho m3 H3 s3 ov xv _ x y s4 _ a3.hold (r3.le l3) r3' e5 fun yv m4 H4 l4 hold4 r4 => ?_
        split at q4
        · rename_i s5 e6
          exact setL_ok hold4 (((r1.le l2).le l3).le l4) ((r2.le l3).le l4) r4 e6 fun H' l' h' => q4 σ m4 H' (l3.trans (l4.trans l')) (a3.go (l4.trans l') h')
        · exact q4.elim
    · cases e0
  · cases e0
end
section
variable {f f' f'' : EX} {env : Env} {s : S} {N : Env → S → Prop} {Rt : D → S → Prop} {B C : Env → S → Prop}
theorem ws_laug {o : OP2} : WS (sLAug o f' f'' f) env s N Rt B C ↔ W f' env s fun d s1 => W f'' env s1 fun k s2 => WP (ixLD d k s2) fun old => W f env old.2 fun x s3 => WP (o old.1 x s3) fun y => WP (setLD d k y.1 y.2) fun s4 => N env s4 := by
  unfold WS sLAug W
  rw [ws_go]
  refine wf_congr fun d s1 => ?_
  rw [ws_go]
  refine wf_congr fun k s2 => ?_
  rw [ws_go, wf_of]
  refine wp_congr fun old => ?_
  rw [ws_go]
  refine wf_congr fun x s3 => ?_
  rw [ws_go, wf_of]
  refine wp_congr fun y => ?_
  cases setLD d k y.1 y.2 <;> simp [wp_some, wp_none]
end
/-! ### a def in a local name, called -/
def eCallV (i n : Nat) (Fs : List (Str × FN)) (fa : EA) : EX := fun env s => match env[i]? with
  | some (some (.glo x)) => (match Fs.lookup x with
    | some F => (fa env s).bind fun ds s1 => if ds.length = n then F ds s1 else .no
    | none => .no)
  | _ => .no
section
variable {X : Cx} {i n L' : Nat} {Fs : List (Str × FN)} {z : Str} {e : Expr} {es : List Expr} {fa : EA} {p pos : Pos}
theorem s_callV (hF : ∀ x F, Fs.lookup x = some F → ∃ L ps f fd, L ≤ L' ∧ ps.length = n ∧ Keeps X.prog X.w X.K X.mg X.base L x ps F f fd) (hr : Room L' X.A) (hN : X.N[i]? = some z) (hv : Vis X.env.scope z)
    (ha : PA X (e :: es) (semA ⟨X.K, X.mg⟩ E0 fa)) (hd : (z == ("__debug__" : Str)) = false := by decide) (hcd : (z == ("__classdict__" : Str)) = false := by decide)
    (he : starEach (e :: es) X.env = (false, eval e X.env) :: starEach es X.env := by rfl) (hpl : (backTo pos (starEach es X.env)).any (·.1) = false := by rfl) :
    PE X (.Call (.Name z p) (e :: es) [] pos) (sem ⟨X.K, X.mg⟩ E0 (eCallV i n Fs fa)) := by
  refine ⟨fun pins s σ H Q I h => ?_⟩
  obtain ⟨m, env, s0, ag, q⟩ := h
  unfold eCallV at q
  split at q
  · rename_i x hx
    split at q
    · rename_i F hFx
      obtain ⟨L, ps, f, fd, hl, hn, K⟩ := hF x F hFx
      obtain ⟨v, hσ, rv⟩ := ag.val i _ hx
      cases rv with
      | @glo a _ hm =>
        have hm : X.mg x = some (.ref a) := hm
        rw [K.at_] at hm; cases hm
        have c : C8.CalAt X.prog X.w X.K X.mg X.base L f (spF ⟨X.K, X.mg⟩ ps.length F) := ⟨⟨fd, ps, K.ok, K.kp, K.bd⟩⟩
        refine (C8.pe_cv c c hr hl hl hN hv ha hd hcd he hpl).run pins s σ H Q I (.inl ⟨hσ, ?_⟩)
        refine semA_k ag (R.post_bind q) fun ds s1 vs m1 H1 q1 l1 a1 r1 => ?_
        by_cases cn : ds.length = n
        · rw [if_pos cn] at q1
          exact ⟨m1, s1, ds, cn.trans hn.symm, a1.hold, r1, R.post_mono q1 (fun _ _ z => PD.le l1 z) fun _ _ _ z => WX.le l1 z⟩
        · rw [if_neg cn] at q1; exact q1.elim
    · exact q.elim
  · exact q.elim
end
section
variable {i n : Nat} {Fs : List (Str × FN)} {fa : EA} {env : Env} {s : S} {Q : D → S → Prop}
theorem w_callV : W (eCallV i n Fs fa) env s Q ↔ WP (env[i]?) fun o => WP o fun d => ∃ x, d = .glo x ∧ WP (Fs.lookup x) fun F => WA fa env s fun ds s1 => ds.length = n ∧ WF (F ds s1) Q := by
  have no : ∀ {α : Type} {P : α → S → Prop}, ¬ WF (.no : R α) P := fun ⟨_, _, e, _⟩ => by cases e
  have nn : ∀ {α : Type} {P : α → Prop}, ¬ WP (none : Option α) P := fun ⟨_, e, _⟩ => by cases e
  unfold W eCallV
  cases he : env[i]? with
  | none => exact ⟨fun h => absurd h no, fun h => absurd h nn⟩
  | some o =>
    rw [wp_some]
    cases o with
    | none => exact ⟨fun h => absurd h no, fun h => absurd h nn⟩
    | some d =>
      rw [wp_some]
      cases d with
      | glo x =>
        dsimp only
        cases hF : Fs.lookup x with
        | none => exact ⟨fun h => absurd h no, fun ⟨y, e, h⟩ => by cases e; rw [hF] at h; exact absurd h nn⟩
        | some F =>
          dsimp only
          rw [wf_bind]
          have k : (WF (fa env s) fun ds s1 => WF (if ds.length = n then F ds s1 else .no) Q) ↔ WA fa env s fun ds s1 => ds.length = n ∧ WF (F ds s1) Q := by
            refine wf_congr fun ds s1 => ?_
            by_cases c : ds.length = n
            · rw [if_pos c]; exact ⟨fun h => ⟨c, h⟩, And.right⟩
            · rw [if_neg c]; exact ⟨fun h => absurd h no, fun h => absurd h.1 c⟩
          rw [k]
          exact ⟨fun h => ⟨x, rfl, by rw [hF, wp_some]; exact h⟩, fun ⟨y, e, h⟩ => by cases e; rw [hF, wp_some] at h; exact h⟩
      | _ => exact ⟨fun h => absurd h no, fun ⟨y, e, _⟩ => by cases e⟩
end
section
variable {P : Program} {w : World} {K : PySem.W.Frag} {mg : Str → Option Value} {base : Heap} {L' n : Nat}
/-- the defs that a local name may hold -/
def FsOk (P : Program) (w : World) (K : PySem.W.Frag) (mg : Str → Option Value) (base : Heap) (L' n : Nat) (Fs : List (Str × FN)) : Prop := ∀ x F, Fs.lookup x = some F → ∃ L ps f fd, L ≤ L' ∧ ps.length = n ∧ Keeps P w K mg base L x ps F f fd
theorem fo_nil : FsOk P w K mg base L' n [] := fun _ _ h => by cases h
theorem fo_cons {L : Nat} {x : Str} {ps : List Str} {F : FN} {f : Addr} {fd : FuncData} {Fs : List (Str × FN)} (k : Keeps P w K mg base L x ps F f fd) (hl : L ≤ L') (hn : ps.length = n) (r : FsOk P w K mg base L' n Fs) : FsOk P w K mg base L' n ((x, F) :: Fs) := by
  intro y G h
  rw [List.lookup_cons] at h
  cases c : y == x with
  | true =>
    rw [c] at h
    cases h
    have : y = x := eq_of_beq c
    subst this
    exact ⟨L, ps, f, fd, hl, hn, k⟩
  | false => rw [c] at h; exact r y G h
end
end Mi

set_option Elab.async false
set_option linter.all false
set_option maxRecDepth 100000
namespace Mi
open PySem PySem.Spec PyProof.Rows L2
/-! ### isinstance(x, (A, B)) -/
def tysD : List D → Option (List String)
  | [] => some []
  | .ty c :: ds => (tysD ds).map (c :: ·)
  | _ => none
def isAny (n : String) : List String → Option Bool
  | [] => some false
  | c :: cs => match isB n c with
    | some true => some true
    | some false => isAny n cs
    | none => none
def isiTB : OPN := fun ds s => match ds with
  | [d, .tup es] => match tyN d s, tysD es with
    | some n, some cs => (isAny n cs).map fun b => (.bl b, s)
    | _, _ => none
  | _ => none
theorem tys_rep {g : G} {m : List Addr} {H : Hp} : ∀ {xs : List V} {ds : List D} {cs : List String}, Reps g m H xs ds → tysD ds = some cs → xs = cs.map V.ty
  | _, _, _, .nil, h => by cases h; rfl
  | _, _, _, .cons (d := d) (ds := ds) r t, h => by
    cases r <;> first | (cases h; done) | skip
    rename_i c
    have h : (tysD ds).map (c :: ·) = some _ := h
    cases e : tysD ds with
    | none => rw [e] at h; cases h
    | some cs =>
      rw [e] at h; cases h
      rw [tys_rep t e]; rfl
theorem any_ok {d : D} {s : S} {n : String} (K : PySem.W.Frag) (hn : tyN d s = some n) : ∀ {cs : List String} {b : Bool}, isAny n cs = some b → PySem.W.kitAny K (.type n) (cs.map Value.type) = some b
  | [], _, h => by cases h; rfl
  | c :: cs, b, h => by
    unfold isAny at h
    show (match PySem.W.kitOne K (.type n) (.type c) with | some true => some true | some false => PySem.W.kitAny K (.type n) (cs.map Value.type) | none => none) = some b
    cases hb : isB n c with
    | none => rw [hb] at h; cases h
    | some b' =>
      rw [hb] at h
      rw [isB_ok K hn hb]
      cases b' with
      | true => exact h
      | false => exact any_ok K hn h
theorem cls_tys : ∀ cs : List String, Paired ClsV (cs.map V.ty) (cs.map Value.type)
  | [] => .nil
  | c :: cs => .cons (.ty c) (cls_tys cs)
theorem vals_tys : ∀ {cs : List String} {us : List Value}, Vals (cs.map V.ty) us → us = cs.map Value.type
  | [], _, h => by cases h; rfl
  | c :: cs, _, h => by
    cases h with
    | cons r t =>
      rw [vals_tys t]
      have : _ = Value.type c := r
      rw [this]; rfl
section
variable {X : Cx} {g : G}
theorem call_isiTK : CallR X (.builtin "isinstance") (fun xs H Q => rIsiT X.K xs H Q ∨ rIsiK X.K xs H Q) := call_isiT.or call_isiK
theorem on_isiT : ON g (fun xs H Q => rIsiT g.K xs H Q ∨ rIsiK g.K xs H Q) isiTB := by
  intro m H s vs ds x s' Q hold rv he q
  unfold isiTB at he
  split at he
  · rename_i d es
    obtain ⟨v, w, rfl, r, r'⟩ := reps2 rv
    split at he
    · rename_i n cs hn hc
      cases hb : isAny n cs with
      | none => rw [hb] at he; cases he
      | some b =>
        rw [hb] at he; cases he
        cases r' with
        | @tup a xs _ z t =>
          have hx := tys_rep t hc
          subst hx
          rcases z with ⟨z, _⟩ | ⟨o, its, k, h1, h2, h3, h4, h5⟩
          · exact .inl ⟨v, a, _, .type n, _, b, rfl, z, cls_tys cs, tyX_of hold r hn, any_ok g.K hn hb, PD.here hold (.bl _) q⟩
          · have hu := vals_tys h5
            have ho : o = ⟨.type "tuple", o.dict, .seq (cs.map Value.type).toArray k, o.slots⟩ := by
              obtain ⟨oc, od, dt, sl⟩ := o
              simp only at h2 h3
              subst h2 h3
              rw [← hu, Array.toArray_toList]
            rw [ho] at h1
            exact .inr ⟨v, a, _, cs.map Value.type, k, _, .type n, b, rfl, h1, tyX_of hold r hn, any_ok g.K hn hb, PD.here hold (.bl _) q⟩
    · cases he
  · cases he
end
end Mi

set_option Elab.async false
set_option linter.all false
set_option maxRecDepth 100000
namespace Mi
open PySem PySem.Spec PyProof.Rows L2
/-! ### dicts as sets of ints -/
def addL (L : List Int) (x : Int) : List Int := if x ∈ L then L else L ++ [x]
def keysL (L : List Int) : List (Key × D) := L.map fun r => (Sum.inl r, D.bl true)
theorem val_keys (L : List Int) (r : Int) : valD (keysL L) (.inl r) = if r ∈ L then some (.bl true) else none := by
  induction L with
  | nil => rfl
  | cons x L ih =>
    unfold keysL valD at ih ⊢
    rw [List.map_cons, List.find?_cons]
    by_cases h : x = r
    · subst h
      simp
    · have h2 : ¬ r = x := fun z => h z.symm
      have : decide ((Sum.inl x : Key) = Sum.inl r) = false := decide_eq_false fun z => h (Sum.inl.inj z)
      rw [this]
      dsimp only
      rw [ih]
      simp [h2]
theorem isSome_keys (L : List Int) (r : Int) : (valD (keysL L) (.inl r)).isSome = decide (r ∈ L) := by
  rw [val_keys]
  by_cases h : r ∈ L <;> simp [h]
theorem put_keys (L : List Int) (r : Int) : putD (keysL L) (.inl r) (.bl true) = keysL (addL L r) := by
  unfold putD addL
  have e : ((keysL L).any fun kv => decide (kv.1 = Sum.inl r)) = decide (r ∈ L) := by
    induction L with
    | nil => rfl
    | cons x L ih =>
      unfold keysL at ih ⊢
      rw [List.map_cons, List.any_cons, ih]
      by_cases h : x = r
      · subst h; simp
      · have h2 : ¬ r = x := fun z => h z.symm
        have : decide ((Sum.inl x : Key) = Sum.inl r) = false := decide_eq_false fun z => h (Sum.inl.inj z)
        rw [this, Bool.false_or]
        simp [h2]
  rw [e]
  by_cases h : r ∈ L
  · rw [if_pos (decide_eq_true h), if_pos h]
    unfold keysL
    rw [List.map_map]
    apply List.map_congr_left
    intro x hx
    dsimp only [Function.comp]
    by_cases c : (Sum.inl x : Key) = Sum.inl r
    · rw [if_pos c]
    · rw [if_neg c]
  · rw [if_neg (by simp [h]), if_neg h]
    unfold keysL
    rw [List.map_append]; rfl
theorem keysL_length (L : List Int) : (keysL L).length = L.length := by unfold keysL; rw [List.length_map]
theorem dctAt_ref {p : Nat} {kvs : List (Key × D)} {s : S} (h : s[p]? = some (.dct kvs)) : dctAt (.ref p) s = some kvs := by simp only [dctAt, h]
theorem dget_k {p : Nat} {kvs : List (Key × D)} {s : S} {k : D} {k' : Key} (h : s[p]? = some (.dct kvs)) (hk : keyD k = some k') : dgetD (.ref p) k s = (valD kvs k').map fun v => (v, s) := by simp only [dgetD, dctAt_ref h, hk]
theorem dput_k {p : Nat} {kvs : List (Key × D)} {s : S} {k v : D} {k' : Key} (h : s[p]? = some (.dct kvs)) (hk : keyD k = some k') : dputD (.ref p) k v s = if kvs.length < 16777216 then some (s.set p (.dct (putD kvs k' v))) else none := by simp only [dputD, dctAt_ref h, hk]
theorem din_k {p : Nat} {kvs : List (Key × D)} {s : S} {k : D} {k' : Key} {neg : Bool} (h : s[p]? = some (.dct kvs)) (hk : keyD k = some k') : dinD neg k (.ref p) s = some (.bl (if neg then !(valD kvs k').isSome else (valD kvs k').isSome), s) := by simp only [dinD, dctAt_ref h, hk]
theorem din_L {q : Nat} {L : List Int} {a : Int} {neg : Bool} {s : S} (h : s[q]? = some (.dct (keysL L))) : dinD neg (.int a) (.ref q) s = some (.bl (if neg then !decide (a ∈ L) else decide (a ∈ L)), s) := by
  rw [din_k h (by rfl), isSome_keys]
end Mi

set_option Elab.async false
set_option linter.all false
set_option maxRecDepth 100000
namespace Mi
open PySem PySem.Spec PyProof.Rows L2
section
variable {b : ST} {env : Env} {s : S} {N : Env → S → Prop} {Rt : D → S → Prop} {B C : Env → S → Prop} {t : T} {ok : S → Prop} {d : D} {ds : List D}
theorem fs_nil (h : N env s) (hk : ok s) : FS t b ok [] env s N Rt B C := fs_inv (fun i e s' => e = env ∧ s' = s) hk ⟨rfl, rfl⟩ (fun i d e s hi => by simp at hi) (fun e s' ⟨h1, h2⟩ _ => by rw [h1, h2]; exact h)
theorem fs_cons (hk : ok s) (h : WP (asgT t d env) fun e1 => WS b e1 s (fun e s => FS t b ok ds e s N Rt B C) Rt N (fun e s => FS t b ok ds e s N Rt B C)) : FS t b ok (d :: ds) env s N Rt B C := by
  obtain ⟨e1, he, h⟩ := h
  unfold FS forL
  rw [if_pos hk, he]
  dsimp only
  unfold WS at h
  cases hb : b e1 s with
  | nx e2 s2 => rw [hb] at h; unfold FS at h; exact h
  | ct e2 s2 => rw [hb] at h; unfold FS at h; exact h
  | bk e2 s2 => rw [hb] at h; exact h
  | rt d s2 => rw [hb] at h; exact h
  | no => rw [hb] at h; exact h
  | ex c fs s2 => rw [hb] at h; exact h
end
end Mi

set_option Elab.async false
set_option linter.all false
set_option maxRecDepth 100000
namespace Mi
open PySem PySem.Spec PyProof.Rows L2
section
variable {b : ST} {f f' : EX} {c : EB} {e ek ev : EX} {env : Env} {s : S} {N : Env → S → Prop} {Rt : D → S → Prop} {B C : Env → S → Prop} {t : T} {Q : D → S → Prop} {vs : List Nat} {ok : S → Prop}
/-- range(a, b) -/
theorem wi_rg2 {QI : Wk → S → Prop} : WI (iRg2 f f') env s QI ↔ W f env s fun d s1 => W f' env s1 fun e s2 => asI d fun i => asI e fun j => (-4611686018427387904 ≤ i ∧ i < 4611686018427387904 ∧ -4611686018427387904 ≤ j ∧ j < 4611686018427387904) ∧ QI ⟨rng i (j - i).toNat, okT⟩ s2 := by
  unfold W WI iRg2
  rw [wf_bind]
  refine wf_congr fun d s1 => ?_
  rw [wf_bind]
  refine wf_congr fun e s2 => ?_
  cases d <;> first | (simp [wf_no, asI]; done) | skip
  cases e <;> first | (simp [wf_no, asI]; done) | skip
  simp only [wf_if, wf_ok, asI]
  exact Iff.rfl
theorem ws_forG2 : WS (sFor t (iRg2 f f') b) env s N Rt B C ↔ W f env s fun d s1 => W f' env s1 fun e s2 => asI d fun i => asI e fun j => (-4611686018427387904 ≤ i ∧ i < 4611686018427387904 ∧ -4611686018427387904 ≤ j ∧ j < 4611686018427387904) ∧ FS t b okT (rng i (j - i).toNat) env s2 N Rt B C := by
  rw [ws_for_wi, wi_rg2]
theorem w_lcG2 : W (eLc (iRg2 f f') t vs c e) env s Q ↔ W f env s fun d s1 => W f' env s1 fun e' s2 => asI d fun i => asI e' fun j => (-4611686018427387904 ≤ i ∧ i < 4611686018427387904 ∧ -4611686018427387904 ≤ j ∧ j < 4611686018427387904) ∧ CS t vs c e okT env (rng i (j - i).toNat) s2 Q := by
  rw [w_lc_wi, wi_rg2]
end
theorem isD_non {s : S} : isD .non .non s = some (.bl true, s) := rfl
theorem isD_ref {q : Nat} {s : S} : isD (.ref q) .non s = some (.bl false, s) := rfl
theorem isD_tup {ds : List D} {s : S} : isD (.tup ds) .non s = some (.bl false, s) := rfl
theorem isD_int {i : Int} {s : S} : isD (.int i) .non s = some (.bl false, s) := rfl
theorem isD_str {i : Str} {s : S} : isD (.str i) .non s = some (.bl false, s) := rfl
theorem isD_bl {a b : Bool} {s : S} : isD (.bl a) (.bl b) s = some (.bl (decide (a = b)), s) := rfl
theorem isNotD_non {s : S} : isNotD .non .non s = some (.bl false, s) := rfl
theorem isNotD_ref {q : Nat} {s : S} : isNotD (.ref q) .non s = some (.bl true, s) := rfl
theorem isNotD_tup {ds : List D} {s : S} : isNotD (.tup ds) .non s = some (.bl true, s) := rfl
theorem isNotD_int {i : Int} {s : S} : isNotD (.int i) .non s = some (.bl true, s) := rfl
theorem isNotD_str {i : Str} {s : S} : isNotD (.str i) .non s = some (.bl true, s) := rfl
theorem isNotD_bl {a b : Bool} {s : S} : isNotD (.bl a) (.bl b) s = some (.bl (!decide (a = b)), s) := rfl
theorem isiT_tup {ds : List D} {s : S} : isiTB [.tup ds, .tup [.ty "tuple", .ty "list"]] s = some (.bl true, s) := by kernel_rfl
theorem isiT_int {i : Int} {s : S} : isiTB [.int i, .tup [.ty "tuple", .ty "list"]] s = some (.bl false, s) := by kernel_rfl
theorem isiT_str {i : Str} {s : S} : isiTB [.str i, .tup [.ty "tuple", .ty "list"]] s = some (.bl false, s) := by kernel_rfl
theorem isiT_bl {i : Bool} {s : S} : isiTB [.bl i, .tup [.ty "tuple", .ty "list"]] s = some (.bl false, s) := by kernel_rfl
theorem isiT_non {s : S} : isiTB [.non, .tup [.ty "tuple", .ty "list"]] s = some (.bl false, s) := by kernel_rfl
theorem isi_tup_tuple {ds : List D} {s : S} : isiB [.tup ds, .ty "tuple"] s = some (.bl true, s) := by kernel_rfl
theorem isi_tup_str {ds : List D} {s : S} : isiB [.tup ds, .ty "str"] s = some (.bl false, s) := by kernel_rfl
theorem isi_tup_int {ds : List D} {s : S} : isiB [.tup ds, .ty "int"] s = some (.bl false, s) := by kernel_rfl
theorem isi_tup_bool {ds : List D} {s : S} : isiB [.tup ds, .ty "bool"] s = some (.bl false, s) := by kernel_rfl
theorem isi_tup_list {ds : List D} {s : S} : isiB [.tup ds, .ty "list"] s = some (.bl false, s) := by kernel_rfl
theorem isi_str_tuple {x : Str} {s : S} : isiB [.str x, .ty "tuple"] s = some (.bl false, s) := by kernel_rfl
theorem isi_str_str {x : Str} {s : S} : isiB [.str x, .ty "str"] s = some (.bl true, s) := by kernel_rfl
theorem isi_str_int {x : Str} {s : S} : isiB [.str x, .ty "int"] s = some (.bl false, s) := by kernel_rfl
theorem isi_str_bool {x : Str} {s : S} : isiB [.str x, .ty "bool"] s = some (.bl false, s) := by kernel_rfl
theorem isi_str_list {x : Str} {s : S} : isiB [.str x, .ty "list"] s = some (.bl false, s) := by kernel_rfl
theorem isi_int_tuple {i : Int} {s : S} : isiB [.int i, .ty "tuple"] s = some (.bl false, s) := by kernel_rfl
theorem isi_int_str {i : Int} {s : S} : isiB [.int i, .ty "str"] s = some (.bl false, s) := by kernel_rfl
theorem isi_int_int {i : Int} {s : S} : isiB [.int i, .ty "int"] s = some (.bl true, s) := by kernel_rfl
theorem isi_int_bool {i : Int} {s : S} : isiB [.int i, .ty "bool"] s = some (.bl false, s) := by kernel_rfl
theorem isi_int_list {i : Int} {s : S} : isiB [.int i, .ty "list"] s = some (.bl false, s) := by kernel_rfl
theorem isi_bl_tuple {b : Bool} {s : S} : isiB [.bl b, .ty "tuple"] s = some (.bl false, s) := by kernel_rfl
theorem isi_bl_str {b : Bool} {s : S} : isiB [.bl b, .ty "str"] s = some (.bl false, s) := by kernel_rfl
theorem isi_bl_int {b : Bool} {s : S} : isiB [.bl b, .ty "int"] s = some (.bl true, s) := by kernel_rfl
theorem isi_bl_bool {b : Bool} {s : S} : isiB [.bl b, .ty "bool"] s = some (.bl true, s) := by kernel_rfl
theorem isi_bl_list {b : Bool} {s : S} : isiB [.bl b, .ty "list"] s = some (.bl false, s) := by kernel_rfl
theorem isi_non_tuple {s : S} : isiB [.non, .ty "tuple"] s = some (.bl false, s) := by kernel_rfl
theorem isi_non_str {s : S} : isiB [.non, .ty "str"] s = some (.bl false, s) := by kernel_rfl
theorem isi_non_int {s : S} : isiB [.non, .ty "int"] s = some (.bl false, s) := by kernel_rfl
theorem isi_non_bool {s : S} : isiB [.non, .ty "bool"] s = some (.bl false, s) := by kernel_rfl
theorem isi_non_list {s : S} : isiB [.non, .ty "list"] s = some (.bl false, s) := by kernel_rfl
theorem neD_str {a b : Str} {s : S} : neD (.str a) (.str b) s = some (.bl (!decide (a = b)), s) := rfl
theorem atI_of {ds : List D} {t : Int} {d : D} (h0 : 0 ≤ t) (h : ds[t.toNat]? = some d) : atI ds t = some d := by
  have := atI_nat' h
  rwa [Int.toNat_of_nonneg h0] at this
theorem repD_one {d : D} : ∀ n, repD n [d] = List.replicate n d
  | 0 => rfl
  | n + 1 => by
    show [d] ++ repD n [d] = _
    rw [repD_one n]; rfl
theorem mul_rep {p n : Nat} {d : D} {s : S} (h : s[p]? = some (.lst [d])) (hn : n ≤ 16000000) : mulD (.ref p) (.int (n : Int)) s = some (.ref s.length, s ++ [.lst (List.replicate n d)]) := by
  have c : (n : Int) < 2 ^ 63 ∧ -(2 ^ 63) ≤ (n : Int) ∧ [d].length * (n : Int).toNat ≤ 16777216 := ⟨by omega, by omega, by rw [List.length_singleton, Int.toNat_natCast]; omega⟩
  simp only [mulD, h]
  rw [if_pos c, Int.toNat_natCast, repD_one]
theorem setL_ref {p i : Nat} {ds : List D} {x : D} {s : S} (h : s[p]? = some (.lst ds)) (hi : i < ds.length) : setLD (.ref p) (.int (i : Int)) x s = some (s.set p (.lst (ds.set i x))) := by
  have e : ixN ds.length (i : Int) = some i := by
    unfold ixN
    rw [if_pos (by omega), if_pos (by omega), Int.toNat_natCast]
  simp only [setLD, h, e]
theorem setL_of {p : Nat} {ds : List D} {t : Int} {x : D} {s : S} (h : s[p]? = some (.lst ds)) (h0 : 0 ≤ t) (ht : t < ds.length) : setLD (.ref p) (.int t) x s = some (s.set p (.lst (ds.set t.toNat x))) := by
  have := setL_ref (i := t.toNat) (x := x) h (by omega)
  rwa [Int.toNat_of_nonneg h0] at this
theorem ixL_ref {p : Nat} {ds : List D} {i : Int} {s : S} (h : s[p]? = some (.lst ds)) : ixLD (.ref p) (.int i) s = (atI ds i).map fun x => (x, s) := by
  simp only [ixLD, h]
theorem pop_ref {p : Nat} {ds : List D} {x : D} {s : S} (h : s[p]? = some (.lst (ds ++ [x]))) : popM (.ref p) [] s = some (x, s.set p (.lst ds)) := by
  have e : (ds ++ [x])[(ds ++ [x]).length - 1]? = some x := by
    rw [List.length_append, List.length_singleton, Nat.add_sub_cancel, List.getElem?_append_right (Nat.le_refl _), Nat.sub_self]; rfl
  simp only [popM, h, e, List.dropLast_concat]
theorem slD_ref {p : Nat} {ds : List D} {lo hi : Option Int} {s : S} (h : s[p]? = some (.lst ds)) : slD (.ref p) lo hi s = some (.ref s.length, s ++ [.lst (cutD ds lo hi)]) := by
  simp only [slD, h]
theorem lstB_ref' {p : Nat} {ds : List D} {s : S} (h : s[p]? = some (.lst ds)) : lstB [.ref p] s = some (.ref s.length, s ++ [.lst ds]) := lstB_ref h
theorem findIdx_ints : ∀ (L : List Int) (a : Int), a ∈ L → (L.map D.int).findIdx? (fun z => eqF z (.int a)) = some (L.idxOf a)
  | b :: L, a, h => by
    rw [List.map_cons, List.findIdx?_cons, List.idxOf_cons, eqF_int]
    by_cases c : b = a
    · simp [c]
    · have ih := findIdx_ints L a ((List.mem_cons.mp h).elim (fun z => absurd z.symm c) id)
      simp [c, ih, beq_eq_false_iff_ne.mpr c]
theorem idx_ref {p : Nat} {L : List Int} {a : Int} {s : S} (h : s[p]? = some (.lst (L.map D.int))) (ha : a ∈ L) : idxM (.ref p) [.int a] s = some (.int (L.idxOf a : Int), s) := by
  have e : (flatD (.int a) && (L.map D.int).all flatD) = true := by rw [flat_ints]; rfl
  simp only [idxM, h]
  rw [if_pos e, findIdx_ints L a ha]
theorem cnt_ref {p : Nat} {L : List Int} {a : Int} {s : S} (h : s[p]? = some (.lst (L.map D.int))) : cntM (.ref p) [.int a] s = some (.int (L.count a : Nat), s) := by
  simp only [cntM, h, intsD_map]
  rfl
/-- all that stood, but for pw, stands -/
def Fr (pw : Nat) (s s' : S) : Prop := s.length ≤ s'.length ∧ ∀ p, p < s.length → p ≠ pw → s'[p]? = s[p]?
theorem Fr.refl (pw : Nat) (s : S) : Fr pw s s := ⟨Nat.le_refl _, fun _ _ _ => rfl⟩
theorem Fr.trans {pw : Nat} {s s1 s2 : S} (a : Fr pw s s1) (b : Fr pw s1 s2) : Fr pw s s2 := ⟨Nat.le_trans a.1 b.1, fun p h n => (b.2 p (Nat.lt_of_lt_of_le h a.1) n).trans (a.2 p h n)⟩
theorem Fr.app (pw : Nat) (s t : S) : Fr pw s (s ++ t) := ⟨by rw [List.length_append]; omega, fun p h _ => List.getElem?_append_left h⟩
theorem Fr.get {pw : Nat} {s s' : S} (a : Fr pw s s') {p : Nat} {o : O} (h : s[p]? = some o) (n : p ≠ pw) : s'[p]? = some o := by rw [a.2 p (List.getElem?_eq_some_iff.mp h).1 n]; exact h
theorem Gr.fr {pw : Nat} {s s' : S} (a : Gr s s') : Fr pw s s' := ⟨a.1, fun p h _ => a.2 p h⟩
theorem Fr.set {pw : Nat} {s s' : S} (a : Fr pw s s') {q : Nat} {o : O} (h : q = pw ∨ s.length ≤ q) : Fr pw s (s'.set q o) := by
  refine ⟨by rw [List.length_set]; exact a.1, fun p hp np => ?_⟩
  rw [List.getElem?_set_ne (fun z => ?_)]
  · exact a.2 p hp np
  · rcases h with h | h
    · exact np (z.symm.trans h)
    · omega
theorem Gr.len {s s' : S} (a : Gr s s') : s.length ≤ s'.length := a.1
theorem Fr.len {pw : Nat} {s s' : S} (a : Fr pw s s') : s.length ≤ s'.length := a.1
end Mi

set_option Elab.async false
set_option linter.all false
set_option maxRecDepth 100000
set_option maxHeartbeats 4000000
namespace My
open PySem PySem.Spec PyProof.Rows L2 Mi
def topS (i : Nat) : Stmt := PySem.Challenge.pw_sameclock_k47_shorter_ways.main.body.getD i (.Pass ⟨0, 0, 0, 0⟩)
structure Blt (K : PySem.W.Frag) (w : World) (mg : Str → Option Value) : Prop where
  len : mg "len" = none
  range : mg "range" = none
  all : mg "all" = none
  tuple : mg "tuple" = none
  abs : mg "abs" = none
  int : mg "int" = none
  list : mg "list" = none
  sorted : mg "sorted" = none
  isinstance : mg "isinstance" = none
  str : mg "str" = none
  bool : mg "bool" = none
section
variable {P : Program} {w : World} {K : PySem.W.Frag} {mg : Str → Option Value} {base : Heap}
abbrev s_ways : Stmt := topS 1
theorem sc_ways : FnScope ["block", "row"] ["block"] (defScope s_ways) := ⟨rfl, rfl, rfl, by decide +kernel, rfl, by decide +kernel, by decide +kernel⟩
noncomputable def g_ways : ST :=
  (sSeq (sSet 1 (e2 ixD (vr 0) (eNeg (cn (.int 1)))))
    (sSeq (sIf (tB1 (e2 eqD (e2 ixD (vr 1) (cn (.int 0))) (cn (.str "jump")))) (sRet (eTup (aC (e2 ixD (vr 1) (cn (.int 1))) aN))) sSkip)
    (sSeq (sIf (tB1 (e2 eqD (e2 ixD (vr 1) (cn (.int 0))) (cn (.str "branch")))) (sRet (eTup (aC (e2 ixD (vr 1) (cn (.int 2))) (aC (e2 ixD (vr 1) (cn (.int 3))) aN)))) sSkip)
    (sRet (eTup aN)))))
noncomputable def F_ways : FN := fnB 2 1 g_ways
theorem ok_ways (B : Blt K w mg) {f : Addr} {fd : FuncData} (h : DefAt K mg "ways" s_ways ["block"] f fd)  : Keeps P w K mg base 1 "ways" ["block"] F_ways f fd :=
  keeps_of h sc_ways fun cdv A outer s H E hr =>
    (ss_cons (c_set (ps_set (i := 1) sc_ways.nd rfl (by first | exact Or.inl rfl | exact Or.inr rfl) (s_ix ix_seq o2_ix (s_var (pv 0)) (s_neg s_int) (fun _ _ => rfl))))
    (ss_cons (c_if (ps_if (t_cmp (op_eqA hr.units) o2_eq (s_ix ix_seq o2_ix (s_var (pv 1)) s_int (fun _ _ => rfl)) s_str (nomark _)) (ss_one (c_ret (ps_ret (s_tup (a_cons (s_ix ix_seq o2_ix (s_var (pv 1)) s_int (fun _ _ => rfl)) a_nil))))) ss_nil))
    (ss_cons (c_if (ps_if (t_cmp (op_eqA hr.units) o2_eq (s_ix ix_seq o2_ix (s_var (pv 1)) s_int (fun _ _ => rfl)) s_str (nomark _)) (ss_one (c_ret (ps_ret (s_tup (a_cons (s_ix ix_seq o2_ix (s_var (pv 1)) s_int (fun _ _ => rfl)) (a_cons (s_ix ix_seq o2_ix (s_var (pv 1)) s_int (fun _ _ => rfl)) a_nil)))))) ss_nil))
    (ss_one (c_ret (ps_ret (s_tup a_nil)))))))
abbrev s_can_be_come_to : Stmt := topS 2
theorem sc_can_be_come_to : FnScope ["blocks", "found", "waiting", "other"] ["blocks"] (defScope s_can_be_come_to) := ⟨rfl, rfl, rfl, by decide +kernel, rfl, by decide +kernel, by decide +kernel⟩
noncomputable def g_can_be_come_to_b1 : ST :=
  (sIf (tNo (tTl (e2 ixD (vr 1) (vr 3)))) (sSeq (sLPut (cn (.bl true)) (vr 1) (vr 3))
    (sEx (eM "list" appM (vr 2) (aC (vr 3) aN)))) sSkip)
noncomputable def g_can_be_come_to_b2 : ST :=
  (sFor (.n 3) (iSeq (eCall 1 F_ways (aC (e2 ixD (vr 0) (eM "list" popM (vr 2) aN)) aN))) g_can_be_come_to_b1)
noncomputable def g_can_be_come_to : ST :=
  (sSeq (sSet 1 (e2 mulD (eLst (aC (cn (.bl false)) aN)) (eB lenB (aC (vr 0) aN))))
    (sSeq (sLPut (cn (.bl true)) (vr 1) (cn (.int 0)))
    (sSeq (sSet 2 (eLst (aC (cn (.int 0)) aN)))
    (sSeq (whl (tTl (vr 2)) g_can_be_come_to_b2 1000000)
    (sRet (vr 1))))))
noncomputable def F_can_be_come_to : FN := fnB 4 1 g_can_be_come_to
theorem ok_can_be_come_to (B : Blt K w mg) {f : Addr} {fd : FuncData} (h : DefAt K mg "can_be_come_to" s_can_be_come_to ["blocks"] f fd) {f0 : Addr} {fd0 : FuncData} (h_ways : Keeps P w K mg base 1 "ways" ["block"] F_ways f0 fd0) : Keeps P w K mg base 2 "can_be_come_to" ["blocks"] F_can_be_come_to f fd :=
  keeps_of h sc_can_be_come_to fun cdv A outer s H E hr =>
    (ss_cons (c_set (ps_set (i := 1) sc_can_be_come_to.nd rfl (by first | exact Or.inl rfl | exact Or.inr rfl) (s_op op_mulA o2_mul (s_lst (a_cons s_bl a_nil)) (s_blt (pe_callB call_lenA (by rfl) B.len (by decide +kernel) (a_cons (s_var (pv 0)) a_nil)) on_len))))
    (ss_cons (c_lput (ps_asg s_bl (pg_sub (s_var (pv 1)) s_int set_list)))
    (ss_cons (c_set (ps_set (i := 2) sc_can_be_come_to.nd rfl (by first | exact Or.inl rfl | exact Or.inr rfl) (s_lst (a_cons s_int a_nil))))
    (ss_cons (c_while (ps_while PassesOwn.never (t_truth (s_var (pv 2))) (ss_one (c_for (t := (.n 3)) (ps_for PassesOwn.never rfl (i_seq (s_own h_ways (by decide) hr rfl (by rfl) (a_cons (s_ix ix_seq o2_ix (s_var (pv 0)) (s_meth0 (pe_bm0 PySem.F.plainAttrs_list PySem.F.slot_list_pop PySem.F.type_list_pop mt_pop (s_var (pv 2))) om_pop) (fun _ _ => rfl)) a_nil))) (pg_name (i := 3) sc_can_be_come_to.nd rfl (by first | exact Or.inl rfl | exact Or.inr rfl)) (ss_one (c_if (ps_if (t_not (t_truth (s_ix ix_seq o2_ix (s_var (pv 1)) (s_var (pv 3)) (fun _ _ => rfl)))) (ss_cons (c_lput (ps_asg s_bl (pg_sub (s_var (pv 1)) (s_var (pv 3)) set_list)))
    (ss_one (c_ex (ps_expr (s_meth (pe_bm PySem.F.plainAttrs_list PySem.F.slot_list_append PySem.F.type_list_append mt_append (s_var (pv 2)) (a_cons (s_var (pv 3)) a_nil)) om_app))))) ss_nil))))))))
    (ss_one (c_ret (ps_ret (s_var (pv 1)))))))))
abbrev s_is_alone : Stmt := topS 4
theorem sc_is_alone : FnScope ["block"] ["block"] (defScope s_is_alone) := ⟨rfl, rfl, rfl, by decide +kernel, rfl, by decide +kernel, by decide +kernel⟩
noncomputable def g_is_alone : ST :=
  (sRet (eAn (e2 eqD (eB lenB (aC (vr 0) aN)) (cn (.int 1))) (e2 eqD (e2 ixD (e2 ixD (vr 0) (cn (.int 0))) (cn (.int 0))) (cn (.str "jump")))))
noncomputable def F_is_alone : FN := fnB 1 1 g_is_alone
theorem ok_is_alone (B : Blt K w mg) {f : Addr} {fd : FuncData} (h : DefAt K mg "is_alone" s_is_alone ["block"] f fd)  : Keeps P w K mg base 1 "is_alone" ["block"] F_is_alone f fd :=
  keeps_of h sc_is_alone fun cdv A outer s H E hr =>
    (ss_one (c_ret (ps_ret (s_and (s_cmp (op_eqA hr.units) o2_eq (s_blt (pe_callB call_lenA (by rfl) B.len (by decide +kernel) (a_cons (s_var (pv 0)) a_nil)) on_len) s_int (nomark _)) (s_one (s_cmp (op_eqA hr.units) o2_eq (s_ix ix_seq o2_ix (s_ix ix_seq o2_ix (s_var (pv 0)) s_int (fun _ _ => rfl)) s_int (fun _ _ => rfl)) s_str (nomark _)))))))
abbrev s_end_from : Stmt := topS 5
theorem sc_end_from : FnScope ["blocks", "at", "seen"] ["blocks", "at"] (defScope s_end_from) := ⟨rfl, rfl, rfl, by decide +kernel, rfl, by decide +kernel, by decide +kernel⟩
noncomputable def g_end_from_b1 : ST :=
  (sSeq (sIf (tB1 (e2 (dinD false) (vr 1) (vr 2))) (sRet (eNeg (cn (.int 1)))) sSkip)
    (sSeq (sDPutD (cn (.bl true)) (vr 2) (vr 1))
    (sSet 1 (e2 ixD (e2 ixD (e2 ixD (vr 0) (vr 1)) (cn (.int 0))) (cn (.int 1))))))
noncomputable def g_end_from : ST :=
  (sSeq (sSet 2 eDn)
    (sSeq (whl (tTl (eCall 1 F_is_alone (aC (e2 ixD (vr 0) (vr 1)) aN))) g_end_from_b1 1000000)
    (sRet (vr 1))))
noncomputable def F_end_from : FN := fnB 3 2 g_end_from
theorem ok_end_from (B : Blt K w mg) {f : Addr} {fd : FuncData} (h : DefAt K mg "end_from" s_end_from ["blocks", "at"] f fd) {f0 : Addr} {fd0 : FuncData} (h_is_alone : Keeps P w K mg base 1 "is_alone" ["block"] F_is_alone f0 fd0) : Keeps P w K mg base 2 "end_from" ["blocks", "at"] F_end_from f fd :=
  keeps_of h sc_end_from fun cdv A outer s H E hr =>
    (ss_cons (c_set (ps_set (i := 2) sc_end_from.nd rfl (by first | exact Or.inl rfl | exact Or.inr rfl) (s_dn pe_dnewK)))
    (ss_cons (c_while (ps_while PassesOwn.never (t_truth (s_own h_is_alone (by decide) hr rfl (by rfl) (a_cons (s_ix ix_seq o2_ix (s_var (pv 0)) (s_var (pv 1)) (fun _ _ => rfl)) a_nil))) (ss_cons (c_if (ps_if (c_2t (pt_cmp (pc_din (hu_of hr) (s_var (pv 1)) (s_var (pv 2))) (by rfl)) o2_din) (ss_one (c_ret (ps_ret (s_neg s_int)))) ss_nil))
    (ss_cons (c_dput (ps_dput (hu_of hr) (s_var (pv 2)) (s_var (pv 1)) s_bl (by rfl)))
    (ss_one (c_set (ps_set (i := 1) sc_end_from.nd rfl (by first | exact Or.inl rfl | exact Or.inr rfl) (s_ix ix_seq o2_ix (s_ix ix_seq o2_ix (s_ix ix_seq o2_ix (s_var (pv 0)) (s_var (pv 1)) (fun _ _ => rfl)) s_int (fun _ _ => rfl)) s_int (fun _ _ => rfl)))))))))
    (ss_one (c_ret (ps_ret (s_var (pv 1)))))))
abbrev s_with_last : Stmt := topS 6
theorem sc_with_last : FnScope ["blocks", "at", "row"] ["blocks", "at", "row"] (defScope s_with_last) := ⟨rfl, rfl, rfl, by decide +kernel, rfl, by decide +kernel, by decide +kernel⟩
noncomputable def g_with_last : ST :=
  (sRet (e2 addD (e2 addD (eSl (vr 0) oN (oS (vr 1))) (eTup (aC (e2 addD (eSl (e2 ixD (vr 0) (vr 1)) oN (oS (eNeg (cn (.int 1))))) (eTup (aC (vr 2) aN))) aN))) (eSl (vr 0) (oS (e2 addD (vr 1) (cn (.int 1)))) oN)))
noncomputable def F_with_last : FN := fnB 3 3 g_with_last
theorem ok_with_last (B : Blt K w mg) {f : Addr} {fd : FuncData} (h : DefAt K mg "with_last" s_with_last ["blocks", "at", "row"] f fd)  : Keeps P w K mg base 1 "with_last" ["blocks", "at", "row"] F_with_last f fd :=
  keeps_of h sc_with_last fun cdv A outer s H E hr =>
    (ss_one (c_ret (ps_ret (s_op op_addA o2_add (s_op op_addA o2_add (s_slice (s_var (pv 0)) o_none (o_some (s_var (pv 1)))) (s_tup (a_cons (s_op op_addA o2_add (s_slice (s_ix ix_seq o2_ix (s_var (pv 0)) (s_var (pv 1)) (fun _ _ => rfl)) o_none (o_some (s_neg s_int))) (s_tup (a_cons (s_var (pv 2)) a_nil))) a_nil))) (s_slice (s_var (pv 0)) (o_some (s_op op_addA o2_add (s_var (pv 1)) s_int)) o_none)))))
abbrev s_one_way : Stmt := topS 7
theorem sc_one_way : FnScope ["blocks", "at", "row"] ["blocks"] (defScope s_one_way) := ⟨rfl, rfl, rfl, by decide +kernel, rfl, by decide +kernel, by decide +kernel⟩
noncomputable def g_one_way_b1 : ST :=
  (sSeq (sSet 2 (e2 ixD (e2 ixD (vr 0) (vr 1)) (eNeg (cn (.int 1)))))
    (sIf (tAn (tB1 (e2 eqD (e2 ixD (vr 2) (cn (.int 0))) (cn (.str "branch")))) (tB1 (e2 eqD (e2 ixD (vr 2) (cn (.int 2))) (e2 ixD (vr 2) (cn (.int 3)))))) (sRet (eCall 3 F_with_last (aC (vr 0) (aC (vr 1) (aC (eTup (aC (cn (.str "jump")) (aC (e2 ixD (vr 2) (cn (.int 2))) aN))) aN))))) sSkip))
noncomputable def g_one_way : ST :=
  (sSeq (sFor (.n 1) (iRg1 (eB lenB (aC (vr 0) aN))) g_one_way_b1)
    (sRet (cn .non)))
noncomputable def F_one_way : FN := fnB 3 1 g_one_way
theorem ok_one_way (B : Blt K w mg) {f : Addr} {fd : FuncData} (h : DefAt K mg "one_way" s_one_way ["blocks"] f fd) {f0 : Addr} {fd0 : FuncData} (h_with_last : Keeps P w K mg base 1 "with_last" ["blocks", "at", "row"] F_with_last f0 fd0) : Keeps P w K mg base 2 "one_way" ["blocks"] F_one_way f fd :=
  keeps_of h sc_one_way fun cdv A outer s H E hr =>
    (ss_cons (c_for (t := (.n 1)) (ps_for PassesOwn.never rfl (i_rg1 (pi_range1 (by rfl) B.range (a_cons (s_blt (pe_callB call_lenA (by rfl) B.len (by decide +kernel) (a_cons (s_var (pv 0)) a_nil)) on_len) a_nil))) (pg_name (i := 1) sc_one_way.nd rfl (by first | exact Or.inl rfl | exact Or.inr rfl)) (ss_cons (c_set (ps_set (i := 2) sc_one_way.nd rfl (by first | exact Or.inl rfl | exact Or.inr rfl) (s_ix ix_seq o2_ix (s_ix ix_seq o2_ix (s_var (pv 0)) (s_var (pv 1)) (fun _ _ => rfl)) (s_neg s_int) (fun _ _ => rfl))))
    (ss_one (c_if (ps_if (PW.pt (t_and (t_cmp (op_eqA hr.units) o2_eq (s_ix ix_seq o2_ix (s_var (pv 2)) s_int (fun _ _ => rfl)) s_str (nomark _)) (t_and1 (t_cmp (op_eqA hr.units) o2_eq (s_ix ix_seq o2_ix (s_var (pv 2)) s_int (fun _ _ => rfl)) (s_ix ix_seq o2_ix (s_var (pv 2)) s_int (fun _ _ => rfl)) (nomark _))))) (ss_one (c_ret (ps_ret (s_own h_with_last (by decide) hr rfl (by rfl) (a_cons (s_var (pv 0)) (a_cons (s_var (pv 1)) (a_cons (s_tup (a_cons s_str (a_cons (s_ix ix_seq o2_ix (s_var (pv 2)) s_int (fun _ _ => rfl)) a_nil))) a_nil))))))) ss_nil))))))
    (ss_one (c_ret (ps_ret s_non))))
abbrev s_shortened : Stmt := topS 8
theorem sc_shortened : FnScope ["blocks", "at", "row", "places", "place", "end"] ["blocks"] (defScope s_shortened) := ⟨rfl, rfl, rfl, by decide +kernel, rfl, by decide +kernel, by decide +kernel⟩
noncomputable def g_shortened_b1 : ST :=
  (sIf (tTl (eCall 1 F_is_alone (aC (e2 ixD (vr 0) (e2 ixD (vr 2) (vr 4))) aN))) (sSeq (sSet 5 (eCall 2 F_end_from (aC (vr 0) (aC (e2 ixD (vr 2) (vr 4)) aN))))
    (sIf (tB1 (e2 geD (vr 5) (cn (.int 0)))) (sRet (eCall 3 F_with_last (aC (vr 0) (aC (vr 1) (aC (e2 addD (e2 addD (eSl (vr 2) oN (oS (vr 4))) (eTup (aC (vr 5) aN))) (eSl (vr 2) (oS (e2 addD (vr 4) (cn (.int 1)))) oN)) aN))))) sSkip)) sSkip)
noncomputable def g_shortened_b2 : ST :=
  (sSeq (sSet 2 (e2 ixD (e2 ixD (vr 0) (vr 1)) (eNeg (cn (.int 1)))))
    (sSeq (sSet 3 (eDGet2 (eDct [((cn (.str "jump")), (eTup (aC (cn (.int 1)) aN))), ((cn (.str "branch")), (eTup (aC (cn (.int 2)) (aC (cn (.int 3)) aN))))]) (e2 ixD (vr 2) (cn (.int 0))) (eTup aN)))
    (sFor (.n 4) (iSeq (vr 3)) g_shortened_b1)))
noncomputable def g_shortened : ST :=
  (sSeq (sFor (.n 1) (iRg1 (eB lenB (aC (vr 0) aN))) g_shortened_b2)
    (sRet (cn .non)))
noncomputable def F_shortened : FN := fnB 6 1 g_shortened
theorem ok_shortened (B : Blt K w mg) {f : Addr} {fd : FuncData} (h : DefAt K mg "shortened" s_shortened ["blocks"] f fd) {f0 : Addr} {fd0 : FuncData} (h_is_alone : Keeps P w K mg base 1 "is_alone" ["block"] F_is_alone f0 fd0) {f1 : Addr} {fd1 : FuncData} (h_end_from : Keeps P w K mg base 2 "end_from" ["blocks", "at"] F_end_from f1 fd1) {f2 : Addr} {fd2 : FuncData} (h_with_last : Keeps P w K mg base 1 "with_last" ["blocks", "at", "row"] F_with_last f2 fd2) : Keeps P w K mg base 3 "shortened" ["blocks"] F_shortened f fd :=
  keeps_of h sc_shortened fun cdv A outer s H E hr =>
    (ss_cons (c_for (t := (.n 1)) (ps_for PassesOwn.never rfl (i_rg1 (pi_range1 (by rfl) B.range (a_cons (s_blt (pe_callB call_lenA (by rfl) B.len (by decide +kernel) (a_cons (s_var (pv 0)) a_nil)) on_len) a_nil))) (pg_name (i := 1) sc_shortened.nd rfl (by first | exact Or.inl rfl | exact Or.inr rfl)) (ss_cons (c_set (ps_set (i := 2) sc_shortened.nd rfl (by first | exact Or.inl rfl | exact Or.inr rfl) (s_ix ix_seq o2_ix (s_ix ix_seq o2_ix (s_var (pv 0)) (s_var (pv 1)) (fun _ _ => rfl)) (s_neg s_int) (fun _ _ => rfl))))
    (ss_cons (c_set (ps_set (i := 3) sc_shortened.nd rfl (by first | exact Or.inl rfl | exact Or.inr rfl) (s_dget2 (hu_of hr) (s_dctm (ppm_cons s_str (s_tup (a_cons s_int a_nil)) (ppm_cons s_str (s_tup (a_cons s_int (a_cons s_int a_nil))) ppm_nil)) (by rfl) (by rfl) (fun z => by cases z) (by decide)) (s_ix ix_seq o2_ix (s_var (pv 2)) s_int (fun _ _ => rfl)) (s_tup a_nil) ⟨rfl, rfl, rfl, rfl⟩)))
    (ss_one (c_for (t := (.n 4)) (ps_for PassesOwn.never rfl (i_seq (s_var (pv 3))) (pg_name (i := 4) sc_shortened.nd rfl (by first | exact Or.inl rfl | exact Or.inr rfl)) (ss_one (c_if (ps_if (t_truth (s_own h_is_alone (by decide) hr rfl (by rfl) (a_cons (s_ix ix_seq o2_ix (s_var (pv 0)) (s_ix ix_seq o2_ix (s_var (pv 2)) (s_var (pv 4)) (fun _ _ => rfl)) (fun _ _ => rfl)) a_nil))) (ss_cons (c_set (ps_set (i := 5) sc_shortened.nd rfl (by first | exact Or.inl rfl | exact Or.inr rfl) (s_own h_end_from (by decide) hr rfl (by rfl) (a_cons (s_var (pv 0)) (a_cons (s_ix ix_seq o2_ix (s_var (pv 2)) (s_var (pv 4)) (fun _ _ => rfl)) a_nil)))))
    (ss_one (c_if (ps_if (t_cmp op_ge o2_ge (s_var (pv 5)) s_int (nomark _)) (ss_one (c_ret (ps_ret (s_own h_with_last (by decide) hr rfl (by rfl) (a_cons (s_var (pv 0)) (a_cons (s_var (pv 1)) (a_cons (s_op op_addA o2_add (s_op op_addA o2_add (s_slice (s_var (pv 2)) o_none (o_some (s_var (pv 4)))) (s_tup (a_cons (s_var (pv 5)) a_nil))) (s_slice (s_var (pv 2)) (o_some (s_op op_addA o2_add (s_var (pv 4)) s_int)) o_none)) a_nil))))))) ss_nil)))) ss_nil))))))))))
    (ss_one (c_ret (ps_ret s_non))))
abbrev s_left_out : Stmt := topS 9
theorem sc_left_out : FnScope ["blocks", "found", "numbers", "at", "rest", "row"] ["blocks"] (defScope s_left_out) := ⟨rfl, rfl, rfl, by decide +kernel, rfl, by decide +kernel, by decide +kernel⟩
noncomputable def g_left_out_b1 : ST :=
  (sIf (tTl (e2 ixD (vr 1) (vr 3))) (sDPutD (eB lenB (aC (vr 2) aN)) (vr 2) (vr 3)) sSkip)
noncomputable def g_left_out_b2 : ST :=
  (sIf (tTl (e2 ixD (vr 1) (vr 3))) (sSeq (sSet 5 (e2 ixD (e2 ixD (vr 0) (vr 3)) (eNeg (cn (.int 1)))))
    (sSeq (sIf (tB1 (e2 eqD (e2 ixD (vr 5) (cn (.int 0))) (cn (.str "jump")))) (sSet 5 (eTup (aC (cn (.str "jump")) (aC (e2 dgetD (vr 2) (e2 ixD (vr 5) (cn (.int 1)))) aN)))) (sIf (tB1 (e2 eqD (e2 ixD (vr 5) (cn (.int 0))) (cn (.str "branch")))) (sSet 5 (eTup (aC (cn (.str "branch")) (aC (e2 ixD (vr 5) (cn (.int 1))) (aC (e2 dgetD (vr 2) (e2 ixD (vr 5) (cn (.int 2)))) (aC (e2 dgetD (vr 2) (e2 ixD (vr 5) (cn (.int 3)))) aN)))))) sSkip))
    (sEx (eM "list" appM (vr 4) (aC (e2 addD (eSl (e2 ixD (vr 0) (vr 3)) oN (oS (eNeg (cn (.int 1))))) (eTup (aC (vr 5) aN))) aN))))) sSkip)
noncomputable def g_left_out : ST :=
  (sSeq (sSet 1 (eCall 1 F_can_be_come_to (aC (vr 0) aN)))
    (sSeq (sIf (tTl (eB allB (aC (vr 1) aN))) (sRet (cn .non)) sSkip)
    (sSeq (sSet 2 eDn)
    (sSeq (sFor (.n 3) (iRg1 (eB lenB (aC (vr 0) aN))) g_left_out_b1)
    (sSeq (sSet 4 (eLst aN))
    (sSeq (sFor (.n 3) (iRg1 (eB lenB (aC (vr 0) aN))) g_left_out_b2)
    (sRet (eB tupB (aC (vr 4) aN)))))))))
noncomputable def F_left_out : FN := fnB 6 1 g_left_out
theorem ok_left_out (B : Blt K w mg) {f : Addr} {fd : FuncData} (h : DefAt K mg "left_out" s_left_out ["blocks"] f fd) {f0 : Addr} {fd0 : FuncData} (h_can_be_come_to : Keeps P w K mg base 2 "can_be_come_to" ["blocks"] F_can_be_come_to f0 fd0) : Keeps P w K mg base 3 "left_out" ["blocks"] F_left_out f fd :=
  keeps_of h sc_left_out fun cdv A outer s H E hr =>
    (ss_cons (c_set (ps_set (i := 1) sc_left_out.nd rfl (by first | exact Or.inl rfl | exact Or.inr rfl) (s_own h_can_be_come_to (by decide) hr rfl (by rfl) (a_cons (s_var (pv 0)) a_nil))))
    (ss_cons (c_if (ps_if (t_truth (s_blt (pe_callB (cr_all rfl) (by rfl) B.all (by decide +kernel) (a_cons (s_var (pv 1)) a_nil)) on_all)) (ss_one (c_ret (ps_ret s_non))) ss_nil))
    (ss_cons (c_set (ps_set (i := 2) sc_left_out.nd rfl (by first | exact Or.inl rfl | exact Or.inr rfl) (s_dn pe_dnewK)))
    (ss_cons (c_for (t := (.n 3)) (ps_for PassesOwn.never rfl (i_rg1 (pi_range1 (by rfl) B.range (a_cons (s_blt (pe_callB call_lenA (by rfl) B.len (by decide +kernel) (a_cons (s_var (pv 0)) a_nil)) on_len) a_nil))) (pg_name (i := 3) sc_left_out.nd rfl (by first | exact Or.inl rfl | exact Or.inr rfl)) (ss_one (c_if (ps_if (t_truth (s_ix ix_seq o2_ix (s_var (pv 1)) (s_var (pv 3)) (fun _ _ => rfl))) (ss_one (c_dput (ps_dput (hu_of hr) (s_var (pv 2)) (s_var (pv 3)) (s_blt (pe_callB call_lenA (by rfl) B.len (by decide +kernel) (a_cons (s_var (pv 2)) a_nil)) on_len) (by rfl)))) ss_nil)))))
    (ss_cons (c_set (ps_set (i := 4) sc_left_out.nd rfl (by first | exact Or.inl rfl | exact Or.inr rfl) (s_lst a_nil)))
    (ss_cons (c_for (t := (.n 3)) (ps_for PassesOwn.never rfl (i_rg1 (pi_range1 (by rfl) B.range (a_cons (s_blt (pe_callB call_lenA (by rfl) B.len (by decide +kernel) (a_cons (s_var (pv 0)) a_nil)) on_len) a_nil))) (pg_name (i := 3) sc_left_out.nd rfl (by first | exact Or.inl rfl | exact Or.inr rfl)) (ss_one (c_if (ps_if (t_truth (s_ix ix_seq o2_ix (s_var (pv 1)) (s_var (pv 3)) (fun _ _ => rfl))) (ss_cons (c_set (ps_set (i := 5) sc_left_out.nd rfl (by first | exact Or.inl rfl | exact Or.inr rfl) (s_ix ix_seq o2_ix (s_ix ix_seq o2_ix (s_var (pv 0)) (s_var (pv 3)) (fun _ _ => rfl)) (s_neg s_int) (fun _ _ => rfl))))
    (ss_cons (c_if (ps_if (t_cmp (op_eqA hr.units) o2_eq (s_ix ix_seq o2_ix (s_var (pv 5)) s_int (fun _ _ => rfl)) s_str (nomark _)) (ss_one (c_set (ps_set (i := 5) sc_left_out.nd rfl (by first | exact Or.inl rfl | exact Or.inr rfl) (s_tup (a_cons s_str (a_cons (c_2 (pe_dget (hu_of hr) (s_var (pv 2)) (s_ix ix_seq o2_ix (s_var (pv 5)) s_int (fun _ _ => rfl)) (fun _ _ => rfl)) o2_dget) a_nil)))))) (ss_one (c_if (ps_if (t_cmp (op_eqA hr.units) o2_eq (s_ix ix_seq o2_ix (s_var (pv 5)) s_int (fun _ _ => rfl)) s_str (nomark _)) (ss_one (c_set (ps_set (i := 5) sc_left_out.nd rfl (by first | exact Or.inl rfl | exact Or.inr rfl) (s_tup (a_cons s_str (a_cons (s_ix ix_seq o2_ix (s_var (pv 5)) s_int (fun _ _ => rfl)) (a_cons (c_2 (pe_dget (hu_of hr) (s_var (pv 2)) (s_ix ix_seq o2_ix (s_var (pv 5)) s_int (fun _ _ => rfl)) (fun _ _ => rfl)) o2_dget) (a_cons (c_2 (pe_dget (hu_of hr) (s_var (pv 2)) (s_ix ix_seq o2_ix (s_var (pv 5)) s_int (fun _ _ => rfl)) (fun _ _ => rfl)) o2_dget) a_nil)))))))) ss_nil)))))
    (ss_one (c_ex (ps_expr (s_meth (pe_bm PySem.F.plainAttrs_list PySem.F.slot_list_append PySem.F.type_list_append mt_append (s_var (pv 4)) (a_cons (s_op op_addA o2_add (s_slice (s_ix ix_seq o2_ix (s_var (pv 0)) (s_var (pv 3)) (fun _ _ => rfl)) o_none (o_some (s_neg s_int))) (s_tup (a_cons (s_var (pv 5)) a_nil))) a_nil)) om_app)))))) ss_nil)))))
    (ss_one (c_ret (ps_ret (s_blt (pe_callTy call_tuple_of (by rfl) B.tuple (by decide +kernel) (a_cons (s_var (pv 4)) a_nil)) on_tup))))))))))
abbrev s_joined : Stmt := topS 10
theorem sc_joined : FnScope ["blocks", "many", "block", "other", "at", "row"] ["blocks"] (defScope s_joined) := ⟨rfl, rfl, rfl, by decide +kernel, rfl, by decide +kernel, by decide +kernel⟩
noncomputable def g_joined_b1 : ST :=
  (sLAug addI (vr 1) (vr 3) (cn (.int 1)))
noncomputable def g_joined_b2 : ST :=
  (sFor (.n 3) (iSeq (eCall 1 F_ways (aC (vr 2) aN))) g_joined_b1)
noncomputable def g_joined_b3 : ST :=
  (sSeq (sSet 5 (e2 ixD (e2 ixD (vr 0) (vr 4)) (eNeg (cn (.int 1)))))
    (sIf (tAn (tB1 (e2 eqD (e2 ixD (vr 5) (cn (.int 0))) (cn (.str "jump")))) (tAn (tB1 (e2 neD (e2 ixD (vr 5) (cn (.int 1))) (vr 4))) (tAn (tB1 (e2 neD (e2 ixD (vr 5) (cn (.int 1))) (cn (.int 0)))) (tB1 (e2 eqD (e2 ixD (vr 1) (e2 ixD (vr 5) (cn (.int 1)))) (cn (.int 1))))))) (sRet (e2 addD (e2 addD (eSl (vr 0) oN (oS (vr 4))) (eTup (aC (e2 addD (eSl (e2 ixD (vr 0) (vr 4)) oN (oS (eNeg (cn (.int 1))))) (e2 ixD (vr 0) (e2 ixD (vr 5) (cn (.int 1))))) aN))) (eSl (vr 0) (oS (e2 addD (vr 4) (cn (.int 1)))) oN))) sSkip))
noncomputable def g_joined : ST :=
  (sSeq (sSet 1 (e2 mulD (eLst (aC (cn (.int 0)) aN)) (eB lenB (aC (vr 0) aN))))
    (sSeq (sFor (.n 2) (iSeq (vr 0)) g_joined_b2)
    (sSeq (sFor (.n 4) (iRg1 (eB lenB (aC (vr 0) aN))) g_joined_b3)
    (sRet (cn .non)))))
noncomputable def F_joined : FN := fnB 6 1 g_joined
theorem ok_joined (B : Blt K w mg) {f : Addr} {fd : FuncData} (h : DefAt K mg "joined" s_joined ["blocks"] f fd) {f0 : Addr} {fd0 : FuncData} (h_ways : Keeps P w K mg base 1 "ways" ["block"] F_ways f0 fd0) : Keeps P w K mg base 2 "joined" ["blocks"] F_joined f fd :=
  keeps_of h sc_joined fun cdv A outer s H E hr =>
    (ss_cons (c_set (ps_set (i := 1) sc_joined.nd rfl (by first | exact Or.inl rfl | exact Or.inr rfl) (s_op op_mulA o2_mul (s_lst (a_cons s_int a_nil)) (s_blt (pe_callB call_lenA (by rfl) B.len (by decide +kernel) (a_cons (s_var (pv 0)) a_nil)) on_len))))
    (ss_cons (c_for (t := (.n 2)) (ps_for PassesOwn.never rfl (i_seq (s_var (pv 0))) (pg_name (i := 2) sc_joined.nd rfl (by first | exact Or.inl rfl | exact Or.inr rfl)) (ss_one (c_for (t := (.n 3)) (ps_for PassesOwn.never rfl (i_seq (s_own h_ways (by decide) hr rfl (by rfl) (a_cons (s_var (pv 2)) a_nil))) (pg_name (i := 3) sc_joined.nd rfl (by first | exact Or.inl rfl | exact Or.inr rfl)) (ss_one (c_laug (ps_augS (s_var (pv 1)) (s_var (pv 3)) get_list s_int (ip_of iop_add) set_list) (o2_I0 fun _ _ _ _ => .int _))))))))
    (ss_cons (c_for (t := (.n 4)) (ps_for PassesOwn.never rfl (i_rg1 (pi_range1 (by rfl) B.range (a_cons (s_blt (pe_callB call_lenA (by rfl) B.len (by decide +kernel) (a_cons (s_var (pv 0)) a_nil)) on_len) a_nil))) (pg_name (i := 4) sc_joined.nd rfl (by first | exact Or.inl rfl | exact Or.inr rfl)) (ss_cons (c_set (ps_set (i := 5) sc_joined.nd rfl (by first | exact Or.inl rfl | exact Or.inr rfl) (s_ix ix_seq o2_ix (s_ix ix_seq o2_ix (s_var (pv 0)) (s_var (pv 4)) (fun _ _ => rfl)) (s_neg s_int) (fun _ _ => rfl))))
    (ss_one (c_if (ps_if (PW.pt (t_and (t_cmp (op_eqA hr.units) o2_eq (s_ix ix_seq o2_ix (s_var (pv 5)) s_int (fun _ _ => rfl)) s_str (nomark _)) (t_and (t_cmp (op_neA hr.units) o2_ne (s_ix ix_seq o2_ix (s_var (pv 5)) s_int (fun _ _ => rfl)) (s_var (pv 4)) (nomark _)) (t_and (t_cmp (op_neA hr.units) o2_ne (s_ix ix_seq o2_ix (s_var (pv 5)) s_int (fun _ _ => rfl)) s_int (nomark _)) (t_and1 (t_cmp (op_eqA hr.units) o2_eq (s_ix ix_seq o2_ix (s_var (pv 1)) (s_ix ix_seq o2_ix (s_var (pv 5)) s_int (fun _ _ => rfl)) (fun _ _ => rfl)) s_int (nomark _))))))) (ss_one (c_ret (ps_ret (s_op op_addA o2_add (s_op op_addA o2_add (s_slice (s_var (pv 0)) o_none (o_some (s_var (pv 4)))) (s_tup (a_cons (s_op op_addA o2_add (s_slice (s_ix ix_seq o2_ix (s_var (pv 0)) (s_var (pv 4)) (fun _ _ => rfl)) o_none (o_some (s_neg s_int))) (s_ix ix_seq o2_ix (s_var (pv 0)) (s_ix ix_seq o2_ix (s_var (pv 5)) s_int (fun _ _ => rfl)) (fun _ _ => rfl))) a_nil))) (s_slice (s_var (pv 0)) (o_some (s_op op_addA o2_add (s_var (pv 4)) s_int)) o_none))))) ss_nil))))))
    (ss_one (c_ret (ps_ret s_non))))))
abbrev s_jumps : Stmt := topS 12
theorem sc_jumps : FnScope ["program", "arrays", "params", "blocks", "after", "change"] ["program"] (defScope s_jumps) := ⟨rfl, rfl, rfl, by decide +kernel, rfl, by decide +kernel, by decide +kernel⟩
noncomputable def g_jumps_b1 : ST :=
  (sIf (tB1 (e2 isD (vr 4) (cn .non))) (sSet 4 (eCallV 5 1 [("one_way", F_one_way), ("shortened", F_shortened), ("left_out", F_left_out), ("joined", F_joined)] (aC (vr 3) aN))) sSkip)
noncomputable def g_jumps_b2 : ST :=
  (sSeq (sSet 3 (vr 4))
    (sSeq (sSet 4 (cn .non))
    (sFor (.n 5) (iSeq (eTup (aC (cn (.glo "one_way")) (aC (cn (.glo "shortened")) (aC (cn (.glo "left_out")) (aC (cn (.glo "joined")) aN)))))) g_jumps_b1)))
noncomputable def g_jumps : ST :=
  (sSeq (sAsg (.t [1, 2, 3]) (vr 0))
    (sSeq (sSet 4 (vr 3))
    (sSeq (whl (tB1 (e2 isNotD (vr 4) (cn .non))) g_jumps_b2 1000000)
    (sRet (eTup (aC (vr 1) (aC (vr 2) (aC (vr 3) aN))))))))
noncomputable def F_jumps : FN := fnB 6 1 g_jumps
theorem ok_jumps (B : Blt K w mg) {f : Addr} {fd : FuncData} (h : DefAt K mg "jumps" s_jumps ["program"] f fd) {f0 : Addr} {fd0 : FuncData} (h_joined : Keeps P w K mg base 2 "joined" ["blocks"] F_joined f0 fd0) {f1 : Addr} {fd1 : FuncData} (h_left_out : Keeps P w K mg base 3 "left_out" ["blocks"] F_left_out f1 fd1) {f2 : Addr} {fd2 : FuncData} (h_shortened : Keeps P w K mg base 3 "shortened" ["blocks"] F_shortened f2 fd2) {f3 : Addr} {fd3 : FuncData} (h_one_way : Keeps P w K mg base 2 "one_way" ["blocks"] F_one_way f3 fd3) : Keeps P w K mg base 4 "jumps" ["program"] F_jumps f fd :=
  keeps_of h sc_jumps fun cdv A outer s H E hr =>
    (ss_cons (c_asg (t := (.t [1, 2, 3])) (ps_asg (s_var (pv 0)) (pg_tup rfl (pgs_cons (pg_name (i := 1) sc_jumps.nd rfl (by first | exact Or.inl rfl | exact Or.inr rfl)) (pgs_cons (pg_name (i := 2) sc_jumps.nd rfl (by first | exact Or.inl rfl | exact Or.inr rfl)) (pgs_cons (pg_name (i := 3) sc_jumps.nd rfl (by first | exact Or.inl rfl | exact Or.inr rfl)) pgs_nil))))))
    (ss_cons (c_set (ps_set (i := 4) sc_jumps.nd rfl (by first | exact Or.inl rfl | exact Or.inr rfl) (s_var (pv 3))))
    (ss_cons (c_while (ps_while PassesOwn.never (t_cmp op_isNotA o2_isNot (s_var (pv 4)) s_non (nomark _)) (ss_cons (c_set (ps_set (i := 3) sc_jumps.nd rfl (by first | exact Or.inl rfl | exact Or.inr rfl) (s_var (pv 4))))
    (ss_cons (c_set (ps_set (i := 4) sc_jumps.nd rfl (by first | exact Or.inl rfl | exact Or.inr rfl) s_non))
    (ss_one (c_for (t := (.n 5)) (ps_for PassesOwn.never rfl (i_seq (s_tup (a_cons (s_go (by rfl) h_one_way.at_) (a_cons (s_go (by rfl) h_shortened.at_) (a_cons (s_go (by rfl) h_left_out.at_) (a_cons (s_go (by rfl) h_joined.at_) a_nil)))))) (pg_name (i := 5) sc_jumps.nd rfl (by first | exact Or.inl rfl | exact Or.inr rfl)) (ss_one (c_if (ps_if (t_cmp op_isA o2_is (s_var (pv 4)) s_non (nomark _)) (ss_one (c_set (ps_set (i := 4) sc_jumps.nd rfl (by first | exact Or.inl rfl | exact Or.inr rfl) (s_callV (fo_cons h_one_way (by decide) rfl (fo_cons h_shortened (by decide) rfl (fo_cons h_left_out (by decide) rfl (fo_cons h_joined (by decide) rfl fo_nil)))) hr rfl (by first | exact Or.inl rfl | exact Or.inr rfl) (a_cons (s_var (pv 3)) a_nil))))) ss_nil))))))))))
    (ss_one (c_ret (ps_ret (s_tup (a_cons (s_var (pv 1)) (a_cons (s_var (pv 2)) (a_cons (s_var (pv 3)) a_nil))))))))))
abbrev s_law_draws : Stmt := topS 14
theorem sc_law_draws : FnScope ["script", "many", "draws", "mixed", "k", "cell", "rest", "turn"] ["script", "many"] (defScope s_law_draws) := ⟨rfl, rfl, rfl, by decide +kernel, rfl, by decide +kernel, by decide +kernel⟩
noncomputable def g_law_draws_b1 : ST :=
  (sIf (tB1 (e2 gtD (vr 6) (cn (.int 0)))) (sSeq (sEx (eM "list" appM (vr 2) (aC (e2 modD (eB intB (aC (vr 6) aN)) (cn (.int 997))) aN)))
    (sSet 6 (e2 divD (vr 6) (cn (.int 997))))) sSkip)
noncomputable def g_law_draws_b2 : ST :=
  (sSeq (sSet 5 (eB absB (aC (eB intB (aC (e2 ixD (vr 0) (vr 4)) aN)) aN)))
    (sSeq (sSet 3 (e2 modD (eB intB (aC (e2 addD (e2 addD (e2 mulD (vr 3) (cn (.int 48271))) (e2 modD (vr 5) (cn (.int 1000003)))) (vr 4)) aN)) (cn (.int 65537))))
    (sSeq (sSet 6 (cn (.int 0)))
    (sSeq (sIf (tB1 (e2 geD (vr 5) (e2 powD (cn (.int 10)) (cn (.int 18))))) (sSet 6 (vr 5)) (sSeq (sEx (eM "list" appM (vr 2) (aC (e2 modD (eB intB (aC (vr 5) aN)) (cn (.int 997))) aN)))
    (sEx (eM "list" appM (vr 2) (aC (e2 modD (e2 modD (eB intB (aC (e2 addD (e2 mulD (vr 3) (cn (.int 69621))) (cn (.int 5))) aN)) (cn (.int 65521))) (cn (.int 997))) aN)))))
    (sFor (.n 7) (iRg1 (cn (.int 60))) g_law_draws_b1)))))
noncomputable def g_law_draws_b3 : ST :=
  (sSeq (sSet 3 (e2 modD (eB intB (aC (e2 addD (e2 addD (e2 mulD (vr 3) (cn (.int 16807))) (vr 4)) (cn (.int 1))) aN)) (cn (.int 65537))))
    (sEx (eM "list" appM (vr 2) (aC (e2 modD (eB intB (aC (vr 3) aN)) (cn (.int 997))) aN))))
noncomputable def g_law_draws : ST :=
  (sSeq (sSet 2 (eLst aN))
    (sSeq (sSet 3 (cn (.int 7)))
    (sSeq (sFor (.n 4) (iRg1 (eB lenB (aC (vr 0) aN))) g_law_draws_b2)
    (sSeq (sFor (.n 4) (iRg1 (vr 1)) g_law_draws_b3)
    (sRet (eSl (vr 2) oN (oS (vr 1))))))))
noncomputable def F_law_draws : FN := fnB 8 2 g_law_draws
theorem ok_law_draws (B : Blt K w mg) {f : Addr} {fd : FuncData} (h : DefAt K mg "_law_draws" s_law_draws ["script", "many"] f fd)  : Keeps P w K mg base 1 "_law_draws" ["script", "many"] F_law_draws f fd :=
  keeps_of h sc_law_draws fun cdv A outer s H E hr =>
    (ss_cons (c_set (ps_set (i := 2) sc_law_draws.nd rfl (by first | exact Or.inl rfl | exact Or.inr rfl) (s_lst a_nil)))
    (ss_cons (c_set (ps_set (i := 3) sc_law_draws.nd rfl (by first | exact Or.inl rfl | exact Or.inr rfl) s_int))
    (ss_cons (c_for (t := (.n 4)) (ps_for PassesOwn.never rfl (i_rg1 (pi_range1 (by rfl) B.range (a_cons (s_blt (pe_callB call_lenA (by rfl) B.len (by decide +kernel) (a_cons (s_var (pv 0)) a_nil)) on_len) a_nil))) (pg_name (i := 4) sc_law_draws.nd rfl (by first | exact Or.inl rfl | exact Or.inr rfl)) (ss_cons (c_set (ps_set (i := 5) sc_law_draws.nd rfl (by first | exact Or.inl rfl | exact Or.inr rfl) (s_blt (pe_callB call_abs (by rfl) B.abs (by decide +kernel) (a_cons (s_blt (pe_callTy call_int1 (by rfl) B.int (by decide +kernel) (a_cons (s_ix ix_seq o2_ix (s_var (pv 0)) (s_var (pv 4)) (fun _ _ => rfl)) a_nil)) on_int) a_nil)) on_abs)))
    (ss_cons (c_set (ps_set (i := 3) sc_law_draws.nd rfl (by first | exact Or.inl rfl | exact Or.inr rfl) (s_op op_mod o2_mod (s_blt (pe_callTy call_int1 (by rfl) B.int (by decide +kernel) (a_cons (s_op op_addA o2_add (s_op op_addA o2_add (s_op op_mulA o2_mul (s_var (pv 3)) s_int) (s_op op_mod o2_mod (s_var (pv 5)) s_int)) (s_var (pv 4))) a_nil)) on_int) s_int)))
    (ss_cons (c_set (ps_set (i := 6) sc_law_draws.nd rfl (by first | exact Or.inl rfl | exact Or.inr rfl) s_int))
    (ss_cons (c_if (ps_if (t_cmp op_ge o2_ge (s_var (pv 5)) (s_op op_pow o2_pow s_int s_int) (nomark _)) (ss_one (c_set (ps_set (i := 6) sc_law_draws.nd rfl (by first | exact Or.inl rfl | exact Or.inr rfl) (s_var (pv 5))))) (ss_cons (c_ex (ps_expr (s_meth (pe_bm PySem.F.plainAttrs_list PySem.F.slot_list_append PySem.F.type_list_append mt_append (s_var (pv 2)) (a_cons (s_op op_mod o2_mod (s_blt (pe_callTy call_int1 (by rfl) B.int (by decide +kernel) (a_cons (s_var (pv 5)) a_nil)) on_int) s_int) a_nil)) om_app)))
    (ss_one (c_ex (ps_expr (s_meth (pe_bm PySem.F.plainAttrs_list PySem.F.slot_list_append PySem.F.type_list_append mt_append (s_var (pv 2)) (a_cons (s_op op_mod o2_mod (s_op op_mod o2_mod (s_blt (pe_callTy call_int1 (by rfl) B.int (by decide +kernel) (a_cons (s_op op_addA o2_add (s_op op_mulA o2_mul (s_var (pv 3)) s_int) s_int) a_nil)) on_int) s_int) s_int) a_nil)) om_app)))))))
    (ss_one (c_for (t := (.n 7)) (ps_for PassesOwn.never rfl (i_rg1 (pi_range1 (by rfl) B.range (a_cons s_int a_nil))) (pg_name (i := 7) sc_law_draws.nd rfl (by first | exact Or.inl rfl | exact Or.inr rfl)) (ss_one (c_if (ps_if (t_cmp op_gt o2_gt (s_var (pv 6)) s_int (nomark _)) (ss_cons (c_ex (ps_expr (s_meth (pe_bm PySem.F.plainAttrs_list PySem.F.slot_list_append PySem.F.type_list_append mt_append (s_var (pv 2)) (a_cons (s_op op_mod o2_mod (s_blt (pe_callTy call_int1 (by rfl) B.int (by decide +kernel) (a_cons (s_var (pv 6)) a_nil)) on_int) s_int) a_nil)) om_app)))
    (ss_one (c_set (ps_set (i := 6) sc_law_draws.nd rfl (by first | exact Or.inl rfl | exact Or.inr rfl) (s_op op_fdiv o2_div (s_var (pv 6)) s_int))))) ss_nil))))))))))))
    (ss_cons (c_for (t := (.n 4)) (ps_for PassesOwn.never rfl (i_rg1 (pi_range1 (by rfl) B.range (a_cons (s_var (pv 1)) a_nil))) (pg_name (i := 4) sc_law_draws.nd rfl (by first | exact Or.inl rfl | exact Or.inr rfl)) (ss_cons (c_set (ps_set (i := 3) sc_law_draws.nd rfl (by first | exact Or.inl rfl | exact Or.inr rfl) (s_op op_mod o2_mod (s_blt (pe_callTy call_int1 (by rfl) B.int (by decide +kernel) (a_cons (s_op op_addA o2_add (s_op op_addA o2_add (s_op op_mulA o2_mul (s_var (pv 3)) s_int) (s_var (pv 4))) s_int) a_nil)) on_int) s_int)))
    (ss_one (c_ex (ps_expr (s_meth (pe_bm PySem.F.plainAttrs_list PySem.F.slot_list_append PySem.F.type_list_append mt_append (s_var (pv 2)) (a_cons (s_op op_mod o2_mod (s_blt (pe_callTy call_int1 (by rfl) B.int (by decide +kernel) (a_cons (s_var (pv 3)) a_nil)) on_int) s_int) a_nil)) om_app)))))))
    (ss_one (c_ret (ps_ret (s_slice (s_var (pv 2)) o_none (o_some (s_var (pv 1)))))))))))
abbrev s_law_take : Stmt := topS 15
theorem sc_law_take : FnScope ["d", "at"] ["d"] (defScope s_law_take) := ⟨rfl, rfl, rfl, by decide +kernel, rfl, by decide +kernel, by decide +kernel⟩
noncomputable def g_law_take : ST :=
  (sSeq (sSet 1 (eB intB (aC (e2 dgetD (vr 0) (cn (.str "at"))) aN)))
    (sSeq (sDPutD (e2 addD (vr 1) (cn (.int 1))) (vr 0) (cn (.str "at")))
    (sRet (e2 addD (eB intB (aC (e2 ixD (e2 dgetD (vr 0) (cn (.str "row"))) (e2 modD (vr 1) (cn (.int 400)))) aN)) (e2 divD (vr 1) (cn (.int 400)))))))
noncomputable def F_law_take : FN := fnB 2 1 g_law_take
theorem ok_law_take (B : Blt K w mg) {f : Addr} {fd : FuncData} (h : DefAt K mg "_law_take" s_law_take ["d"] f fd)  : Keeps P w K mg base 1 "_law_take" ["d"] F_law_take f fd :=
  keeps_of h sc_law_take fun cdv A outer s H E hr =>
    (ss_cons (c_set (ps_set (i := 1) sc_law_take.nd rfl (by first | exact Or.inl rfl | exact Or.inr rfl) (s_blt (pe_callTy call_int1 (by rfl) B.int (by decide +kernel) (a_cons (c_2 (pe_dget (hu_of hr) (s_var (pv 0)) s_str (fun _ _ => rfl)) o2_dget) a_nil)) on_int)))
    (ss_cons (c_dput (ps_dput (hu_of hr) (s_var (pv 0)) s_str (s_op op_addA o2_add (s_var (pv 1)) s_int) (by rfl)))
    (ss_one (c_ret (ps_ret (s_op op_addA o2_add (s_blt (pe_callTy call_int1 (by rfl) B.int (by decide +kernel) (a_cons (s_ix ix_seq o2_ix (c_2 (pe_dget (hu_of hr) (s_var (pv 0)) s_str (fun _ _ => rfl)) o2_dget) (s_op op_mod o2_mod (s_var (pv 1)) s_int) (fun _ _ => rfl)) a_nil)) on_int) (s_op op_fdiv o2_div (s_var (pv 1)) s_int)))))))
abbrev s_law_start : Stmt := topS 16
theorem sc_law_start : FnScope ["script"] ["script"] (defScope s_law_start) := ⟨rfl, rfl, rfl, by decide +kernel, rfl, by decide +kernel, by decide +kernel⟩
noncomputable def g_law_start : ST :=
  (sRet (eDct [((cn (.str "row")), (eCall 2 F_law_draws (aC (vr 0) (aC (cn (.int 400)) aN)))), ((cn (.str "at")), (cn (.int 0)))]))
noncomputable def F_law_start : FN := fnB 1 1 g_law_start
theorem ok_law_start (B : Blt K w mg) {f : Addr} {fd : FuncData} (h : DefAt K mg "_law_start" s_law_start ["script"] f fd) {f0 : Addr} {fd0 : FuncData} (h_law_draws : Keeps P w K mg base 1 "_law_draws" ["script", "many"] F_law_draws f0 fd0) : Keeps P w K mg base 2 "_law_start" ["script"] F_law_start f fd :=
  keeps_of h sc_law_start fun cdv A outer s H E hr =>
    (ss_one (c_ret (ps_ret (s_dctm (ppm_cons s_str (s_own h_law_draws (by decide) hr rfl (by rfl) (a_cons (s_var (pv 0)) (a_cons s_int a_nil))) (ppm_cons s_str s_int ppm_nil)) (by rfl) (by rfl) (fun z => by cases z) (by decide)))))
abbrev s_law_word : Stmt := topS 17
theorem sc_law_word : FnScope ["d", "words"] ["d"] (defScope s_law_word) := ⟨rfl, rfl, rfl, by decide +kernel, rfl, by decide +kernel, by decide +kernel⟩
noncomputable def g_law_word : ST :=
  (sSeq (sSet 1 (eLst (aC (cn (.int 0)) (aC (cn (.int 1)) (aC (cn (.int 2)) (aC (cn (.int 3)) (aC (cn (.int 5)) (aC (cn (.int 7)) (aC (cn (.int 31)) (aC (cn (.int 32)) (aC (cn (.int 4294967295)) (aC (cn (.int 2147483648)) (aC (cn (.int 4)) (aC (cn (.int 8)) aN))))))))))))))
    (sRet (e2 ixD (vr 1) (e2 modD (eCall 1 F_law_take (aC (vr 0) aN)) (cn (.int 12))))))
noncomputable def F_law_word : FN := fnB 2 1 g_law_word
theorem ok_law_word (B : Blt K w mg) {f : Addr} {fd : FuncData} (h : DefAt K mg "_law_word" s_law_word ["d"] f fd) {f0 : Addr} {fd0 : FuncData} (h_law_take : Keeps P w K mg base 1 "_law_take" ["d"] F_law_take f0 fd0) : Keeps P w K mg base 2 "_law_word" ["d"] F_law_word f fd :=
  keeps_of h sc_law_word fun cdv A outer s H E hr =>
    (ss_cons (c_set (ps_set (i := 1) sc_law_word.nd rfl (by first | exact Or.inl rfl | exact Or.inr rfl) (s_lst (a_cons s_int (a_cons s_int (a_cons s_int (a_cons s_int (a_cons s_int (a_cons s_int (a_cons s_int (a_cons s_int (a_cons s_int (a_cons s_int (a_cons s_int (a_cons s_int a_nil)))))))))))))))
    (ss_one (c_ret (ps_ret (s_ix ix_seq o2_ix (s_var (pv 1)) (s_op op_mod o2_mod (s_own h_law_take (by decide) hr rfl (by rfl) (a_cons (s_var (pv 0)) a_nil)) s_int) (fun _ _ => rfl))))))
abbrev s_law_sign : Stmt := topS 18
theorem sc_law_sign : FnScope ["d"] ["d"] (defScope s_law_sign) := ⟨rfl, rfl, rfl, by decide +kernel, rfl, by decide +kernel, by decide +kernel⟩
noncomputable def g_law_sign : ST :=
  (sRet (e2 ixD (eLst (aC (cn (.str "+")) (aC (cn (.str "-")) (aC (cn (.str "*")) (aC (cn (.str "&")) (aC (cn (.str "|")) (aC (cn (.str "^")) (aC (cn (.str "<<")) (aC (cn (.str ">>")) (aC (cn (.str "==")) (aC (cn (.str "<")) (aC (cn (.str "<=")) (aC (cn (.str "div")) (aC (cn (.str "mod")) aN)))))))))))))) (e2 modD (eCall 1 F_law_take (aC (vr 0) aN)) (cn (.int 13)))))
noncomputable def F_law_sign : FN := fnB 1 1 g_law_sign
theorem ok_law_sign (B : Blt K w mg) {f : Addr} {fd : FuncData} (h : DefAt K mg "_law_sign" s_law_sign ["d"] f fd) {f0 : Addr} {fd0 : FuncData} (h_law_take : Keeps P w K mg base 1 "_law_take" ["d"] F_law_take f0 fd0) : Keeps P w K mg base 2 "_law_sign" ["d"] F_law_sign f fd :=
  keeps_of h sc_law_sign fun cdv A outer s H E hr =>
    (ss_one (c_ret (ps_ret (s_ix ix_seq o2_ix (s_lst (a_cons s_str (a_cons s_str (a_cons s_str (a_cons s_str (a_cons s_str (a_cons s_str (a_cons s_str (a_cons s_str (a_cons s_str (a_cons s_str (a_cons s_str (a_cons s_str (a_cons s_str a_nil)))))))))))))) (s_op op_mod o2_mod (s_own h_law_take (by decide) hr rfl (by rfl) (a_cons (s_var (pv 0)) a_nil)) s_int) (fun _ _ => rfl)))))
abbrev s_law_row : Stmt := topS 19
theorem sc_law_row : FnScope ["d", "arrays", "many", "turn", "regs", "k"] ["d", "arrays", "many"] (defScope s_law_row) := ⟨rfl, rfl, rfl, by decide +kernel, rfl, by decide +kernel, by decide +kernel⟩
noncomputable def g_law_row : ST :=
  (sSeq (sSet 3 (e2 modD (eCall 1 F_law_take (aC (vr 0) aN)) (cn (.int 12))))
    (sSeq (sSet 4 (eLc (iRg1 (cn (.int 4))) (.n 5) [5] yes (e2 modD (eCall 1 F_law_take (aC (vr 0) aN)) (vr 2))))
    (sSeq (sIf (tB1 (e2 ltD (vr 3) (cn (.int 2)))) (sRet (eTup (aC (cn (.str "const")) (aC (e2 ixD (vr 4) (cn (.int 0))) (aC (eCall 1 F_law_word (aC (vr 0) aN)) aN))))) sSkip)
    (sSeq (sIf (tB1 (e2 ltD (vr 3) (cn (.int 4)))) (sRet (eTup (aC (cn (.str "copy")) (aC (e2 ixD (vr 4) (cn (.int 0))) (aC (e2 ixD (vr 4) (cn (.int 1))) aN))))) sSkip)
    (sSeq (sIf (tO (tB1 (e2 ltD (vr 3) (cn (.int 8)))) (tAn (tB1 (e2 eqD (vr 1) (eTup aN))) (tB1 (e2 gtD (vr 3) (cn (.int 8)))))) (sRet (eTup (aC (cn (.str "op")) (aC (eCall 1 F_law_sign (aC (vr 0) aN)) (aC (e2 ixD (vr 4) (cn (.int 0))) (aC (e2 ixD (vr 4) (cn (.int 1))) (aC (e2 ixD (vr 4) (cn (.int 2))) aN))))))) sSkip)
    (sSeq (sIf (tB1 (e2 eqD (vr 3) (cn (.int 8)))) (sRet (eTup (aC (cn (.str "select")) (aC (e2 ixD (vr 4) (cn (.int 0))) (aC (e2 ixD (vr 4) (cn (.int 1))) (aC (e2 ixD (vr 4) (cn (.int 2))) (aC (e2 ixD (vr 4) (cn (.int 3))) aN))))))) sSkip)
    (sSeq (sIf (tB1 (e2 eqD (vr 3) (cn (.int 9)))) (sRet (eTup (aC (cn (.str "load")) (aC (e2 ixD (vr 4) (cn (.int 0))) (aC (e2 modD (eCall 1 F_law_take (aC (vr 0) aN)) (eB lenB (aC (vr 1) aN))) (aC (e2 ixD (vr 4) (cn (.int 1))) aN)))))) sSkip)
    (sSeq (sIf (tB1 (e2 eqD (vr 3) (cn (.int 10)))) (sRet (eTup (aC (cn (.str "store")) (aC (e2 modD (eCall 1 F_law_take (aC (vr 0) aN)) (eB lenB (aC (vr 1) aN))) (aC (e2 ixD (vr 4) (cn (.int 1))) (aC (e2 ixD (vr 4) (cn (.int 2))) aN)))))) sSkip)
    (sRet (eTup (aC (cn (.str "out")) (aC (e2 ixD (vr 4) (cn (.int 0))) aN))))))))))))
noncomputable def F_law_row : FN := fnB 6 3 g_law_row
theorem ok_law_row (B : Blt K w mg) {f : Addr} {fd : FuncData} (h : DefAt K mg "_law_row" s_law_row ["d", "arrays", "many"] f fd) {f0 : Addr} {fd0 : FuncData} (h_law_take : Keeps P w K mg base 1 "_law_take" ["d"] F_law_take f0 fd0) {f1 : Addr} {fd1 : FuncData} (h_law_word : Keeps P w K mg base 2 "_law_word" ["d"] F_law_word f1 fd1) {f2 : Addr} {fd2 : FuncData} (h_law_sign : Keeps P w K mg base 2 "_law_sign" ["d"] F_law_sign f2 fd2) : Keeps P w K mg base 3 "_law_row" ["d", "arrays", "many"] F_law_row f fd :=
  keeps_of h sc_law_row fun cdv A outer s H E hr =>
    (ss_cons (c_set (ps_set (i := 3) sc_law_row.nd rfl (by first | exact Or.inl rfl | exact Or.inr rfl) (s_op op_mod o2_mod (s_own h_law_take (by decide) hr rfl (by rfl) (a_cons (s_var (pv 0)) a_nil)) s_int)))
    (ss_cons (c_setLc0 (ps_setLc (i := 4) (own := [("k", 5)]) (g := gT _ (.n 5)) (by rfl) sc_law_row.nd rfl rfl (sw_true rfl rfl rfl (by decide +kernel)) (i_rg1 (pi_range1 (by rfl) B.range (a_cons s_int a_nil))) (blkOk_by (own := [("k", 5)]) (N := ["d", "arrays", "many", "turn", "regs", "k"]) (sc := defScope s_law_row) (by decide +kernel)) (fun _ _ _ _ _ => (pg_name (i := 5) sc_law_row.nd rfl (by first | exact Or.inl rfl | exact Or.inr rfl))) (fun _ _ _ _ _ => pts_nil) (fun _ _ _ _ _ => (s_op op_mod o2_mod (s_own h_law_take (by decide) hr rfl (by rfl) (a_cons (s_var (pv 0)) a_nil)) (s_var (pv 2))))) (by decide))
    (ss_cons (c_if (ps_if (t_cmp op_lt o2_lt (s_var (pv 3)) s_int (nomark _)) (ss_one (c_ret (ps_ret (s_tup (a_cons s_str (a_cons (s_ix ix_seq o2_ix (s_var (pv 4)) s_int (fun _ _ => rfl)) (a_cons (s_own h_law_word (by decide) hr rfl (by rfl) (a_cons (s_var (pv 0)) a_nil)) a_nil))))))) ss_nil))
    (ss_cons (c_if (ps_if (t_cmp op_lt o2_lt (s_var (pv 3)) s_int (nomark _)) (ss_one (c_ret (ps_ret (s_tup (a_cons s_str (a_cons (s_ix ix_seq o2_ix (s_var (pv 4)) s_int (fun _ _ => rfl)) (a_cons (s_ix ix_seq o2_ix (s_var (pv 4)) s_int (fun _ _ => rfl)) a_nil))))))) ss_nil))
    (ss_cons (c_if (ps_if (PW.pt (t_or (t_cmp op_lt o2_lt (s_var (pv 3)) s_int (nomark _)) (t_or1 (PW.pt (t_and (t_cmp (op_eqA hr.units) o2_eq (s_var (pv 1)) (s_tup a_nil) (nomark _)) (t_and1 (t_cmp op_gt o2_gt (s_var (pv 3)) s_int (nomark _)))))))) (ss_one (c_ret (ps_ret (s_tup (a_cons s_str (a_cons (s_own h_law_sign (by decide) hr rfl (by rfl) (a_cons (s_var (pv 0)) a_nil)) (a_cons (s_ix ix_seq o2_ix (s_var (pv 4)) s_int (fun _ _ => rfl)) (a_cons (s_ix ix_seq o2_ix (s_var (pv 4)) s_int (fun _ _ => rfl)) (a_cons (s_ix ix_seq o2_ix (s_var (pv 4)) s_int (fun _ _ => rfl)) a_nil))))))))) ss_nil))
    (ss_cons (c_if (ps_if (t_cmp (op_eqA hr.units) o2_eq (s_var (pv 3)) s_int (nomark _)) (ss_one (c_ret (ps_ret (s_tup (a_cons s_str (a_cons (s_ix ix_seq o2_ix (s_var (pv 4)) s_int (fun _ _ => rfl)) (a_cons (s_ix ix_seq o2_ix (s_var (pv 4)) s_int (fun _ _ => rfl)) (a_cons (s_ix ix_seq o2_ix (s_var (pv 4)) s_int (fun _ _ => rfl)) (a_cons (s_ix ix_seq o2_ix (s_var (pv 4)) s_int (fun _ _ => rfl)) a_nil))))))))) ss_nil))
    (ss_cons (c_if (ps_if (t_cmp (op_eqA hr.units) o2_eq (s_var (pv 3)) s_int (nomark _)) (ss_one (c_ret (ps_ret (s_tup (a_cons s_str (a_cons (s_ix ix_seq o2_ix (s_var (pv 4)) s_int (fun _ _ => rfl)) (a_cons (s_op op_mod o2_mod (s_own h_law_take (by decide) hr rfl (by rfl) (a_cons (s_var (pv 0)) a_nil)) (s_blt (pe_callB call_lenA (by rfl) B.len (by decide +kernel) (a_cons (s_var (pv 1)) a_nil)) on_len)) (a_cons (s_ix ix_seq o2_ix (s_var (pv 4)) s_int (fun _ _ => rfl)) a_nil)))))))) ss_nil))
    (ss_cons (c_if (ps_if (t_cmp (op_eqA hr.units) o2_eq (s_var (pv 3)) s_int (nomark _)) (ss_one (c_ret (ps_ret (s_tup (a_cons s_str (a_cons (s_op op_mod o2_mod (s_own h_law_take (by decide) hr rfl (by rfl) (a_cons (s_var (pv 0)) a_nil)) (s_blt (pe_callB call_lenA (by rfl) B.len (by decide +kernel) (a_cons (s_var (pv 1)) a_nil)) on_len)) (a_cons (s_ix ix_seq o2_ix (s_var (pv 4)) s_int (fun _ _ => rfl)) (a_cons (s_ix ix_seq o2_ix (s_var (pv 4)) s_int (fun _ _ => rfl)) a_nil)))))))) ss_nil))
    (ss_one (c_ret (ps_ret (s_tup (a_cons s_str (a_cons (s_ix ix_seq o2_ix (s_var (pv 4)) s_int (fun _ _ => rfl)) a_nil))))))))))))))
abbrev s_law_way : Stmt := topS 20
theorem sc_law_way : FnScope ["d", "at", "many", "regs", "turn", "to", "k", "ahead"] ["d", "at", "many", "regs"] (defScope s_law_way) := ⟨rfl, rfl, rfl, by decide +kernel, rfl, by decide +kernel, by decide +kernel⟩
noncomputable def g_law_way_b1 : ST :=
  (sSeq (sSet 7 (e2 subD (e2 subD (vr 2) (vr 1)) (cn (.int 1))))
    (sIf (tO (tB1 (e2 eqD (vr 7) (cn (.int 0)))) (tB1 (e2 eqD (e2 modD (eCall 1 F_law_take (aC (vr 0) aN)) (cn (.int 5))) (cn (.int 0))))) (sEx (eM "list" appM (vr 5) (aC (e2 modD (eCall 1 F_law_take (aC (vr 0) aN)) (vr 2)) aN))) (sEx (eM "list" appM (vr 5) (aC (e2 addD (e2 addD (vr 1) (cn (.int 1))) (e2 modD (eCall 1 F_law_take (aC (vr 0) aN)) (vr 7))) aN)))))
noncomputable def g_law_way : ST :=
  (sSeq (sSet 4 (e2 modD (eCall 1 F_law_take (aC (vr 0) aN)) (cn (.int 8))))
    (sSeq (sSet 5 (eLst aN))
    (sSeq (sFor (.n 6) (iRg1 (cn (.int 2))) g_law_way_b1)
    (sSeq (sIf (tO (tB1 (e2 eqD (vr 4) (cn (.int 0)))) (tAn (tB1 (e2 eqD (vr 1) (e2 subD (vr 2) (cn (.int 1))))) (tB1 (e2 ltD (vr 4) (cn (.int 6)))))) (sRet (eTup (aC (cn (.str "stop")) (aC (e2 modD (eCall 1 F_law_take (aC (vr 0) aN)) (vr 3)) aN)))) sSkip)
    (sSeq (sIf (tB1 (e2 ltD (vr 4) (cn (.int 4)))) (sRet (eTup (aC (cn (.str "jump")) (aC (e2 ixD (vr 5) (cn (.int 0))) aN)))) sSkip)
    (sRet (eTup (aC (cn (.str "branch")) (aC (e2 modD (eCall 1 F_law_take (aC (vr 0) aN)) (vr 3)) (aC (e2 ixD (vr 5) (cn (.int 0))) (aC (e2 ixD (vr 5) (cn (.int 1))) aN)))))))))))
noncomputable def F_law_way : FN := fnB 8 4 g_law_way
theorem ok_law_way (B : Blt K w mg) {f : Addr} {fd : FuncData} (h : DefAt K mg "_law_way" s_law_way ["d", "at", "many", "regs"] f fd) {f0 : Addr} {fd0 : FuncData} (h_law_take : Keeps P w K mg base 1 "_law_take" ["d"] F_law_take f0 fd0) : Keeps P w K mg base 2 "_law_way" ["d", "at", "many", "regs"] F_law_way f fd :=
  keeps_of h sc_law_way fun cdv A outer s H E hr =>
    (ss_cons (c_set (ps_set (i := 4) sc_law_way.nd rfl (by first | exact Or.inl rfl | exact Or.inr rfl) (s_op op_mod o2_mod (s_own h_law_take (by decide) hr rfl (by rfl) (a_cons (s_var (pv 0)) a_nil)) s_int)))
    (ss_cons (c_set (ps_set (i := 5) sc_law_way.nd rfl (by first | exact Or.inl rfl | exact Or.inr rfl) (s_lst a_nil)))
    (ss_cons (c_for (t := (.n 6)) (ps_for PassesOwn.never rfl (i_rg1 (pi_range1 (by rfl) B.range (a_cons s_int a_nil))) (pg_name (i := 6) sc_law_way.nd rfl (by first | exact Or.inl rfl | exact Or.inr rfl)) (ss_cons (c_set (ps_set (i := 7) sc_law_way.nd rfl (by first | exact Or.inl rfl | exact Or.inr rfl) (s_op op_sub o2_sub (s_op op_sub o2_sub (s_var (pv 2)) (s_var (pv 1))) s_int)))
    (ss_one (c_if (ps_if (PW.pt (t_or (t_cmp (op_eqA hr.units) o2_eq (s_var (pv 7)) s_int (nomark _)) (t_or1 (t_cmp (op_eqA hr.units) o2_eq (s_op op_mod o2_mod (s_own h_law_take (by decide) hr rfl (by rfl) (a_cons (s_var (pv 0)) a_nil)) s_int) s_int (nomark _))))) (ss_one (c_ex (ps_expr (s_meth (pe_bm PySem.F.plainAttrs_list PySem.F.slot_list_append PySem.F.type_list_append mt_append (s_var (pv 5)) (a_cons (s_op op_mod o2_mod (s_own h_law_take (by decide) hr rfl (by rfl) (a_cons (s_var (pv 0)) a_nil)) (s_var (pv 2))) a_nil)) om_app)))) (ss_one (c_ex (ps_expr (s_meth (pe_bm PySem.F.plainAttrs_list PySem.F.slot_list_append PySem.F.type_list_append mt_append (s_var (pv 5)) (a_cons (s_op op_addA o2_add (s_op op_addA o2_add (s_var (pv 1)) s_int) (s_op op_mod o2_mod (s_own h_law_take (by decide) hr rfl (by rfl) (a_cons (s_var (pv 0)) a_nil)) (s_var (pv 7)))) a_nil)) om_app))))))))))
    (ss_cons (c_if (ps_if (PW.pt (t_or (t_cmp (op_eqA hr.units) o2_eq (s_var (pv 4)) s_int (nomark _)) (t_or1 (PW.pt (t_and (t_cmp (op_eqA hr.units) o2_eq (s_var (pv 1)) (s_op op_sub o2_sub (s_var (pv 2)) s_int) (nomark _)) (t_and1 (t_cmp op_lt o2_lt (s_var (pv 4)) s_int (nomark _)))))))) (ss_one (c_ret (ps_ret (s_tup (a_cons s_str (a_cons (s_op op_mod o2_mod (s_own h_law_take (by decide) hr rfl (by rfl) (a_cons (s_var (pv 0)) a_nil)) (s_var (pv 3))) a_nil)))))) ss_nil))
    (ss_cons (c_if (ps_if (t_cmp op_lt o2_lt (s_var (pv 4)) s_int (nomark _)) (ss_one (c_ret (ps_ret (s_tup (a_cons s_str (a_cons (s_ix ix_seq o2_ix (s_var (pv 5)) s_int (fun _ _ => rfl)) a_nil)))))) ss_nil))
    (ss_one (c_ret (ps_ret (s_tup (a_cons s_str (a_cons (s_op op_mod o2_mod (s_own h_law_take (by decide) hr rfl (by rfl) (a_cons (s_var (pv 0)) a_nil)) (s_var (pv 3))) (a_cons (s_ix ix_seq o2_ix (s_var (pv 5)) s_int (fun _ _ => rfl)) (a_cons (s_ix ix_seq o2_ix (s_var (pv 5)) s_int (fun _ _ => rfl)) a_nil)))))))))))))
abbrev s_law_program : Stmt := topS 21
theorem sc_law_program : FnScope ["d", "most", "regs", "arrays", "many", "blocks", "at", "rows", "k"] ["d", "most", "regs"] (defScope s_law_program) := ⟨rfl, rfl, rfl, by decide +kernel, rfl, by decide +kernel, by decide +kernel⟩
noncomputable def g_law_program_b1 : ST :=
  (sSeq (sSet 7 (eLc (iRg1 (e2 ixD (eLst (aC (cn (.int 0)) (aC (cn (.int 1)) (aC (cn (.int 3)) (aC (cn (.int 5)) (aC (cn (.int 7)) aN)))))) (e2 modD (eCall 1 F_law_take (aC (vr 0) aN)) (cn (.int 5))))) (.n 8) [8] yes (eCall 3 F_law_row (aC (vr 0) (aC (vr 3) (aC (vr 2) aN))))))
    (sEx (eM "list" appM (vr 5) (aC (eB tupB (aC (e2 addD (vr 7) (eLst (aC (eCall 4 F_law_way (aC (vr 0) (aC (vr 6) (aC (vr 4) (aC (vr 2) aN))))) aN))) aN)) aN))))
noncomputable def g_law_program : ST :=
  (sSeq (sSet 3 (eSl (eTup (aC (eTup (aC (cn (.str "a")) (aC (cn (.int 1)) (aC (cn (.str "public")) aN)))) (aC (eTup (aC (cn (.str "b")) (aC (cn (.int 3)) (aC (cn (.str "secret")) aN)))) (aC (eTup (aC (cn (.str "c")) (aC (cn (.int 8)) (aC (cn (.str "public")) aN)))) aN)))) oN (oS (e2 modD (eCall 1 F_law_take (aC (vr 0) aN)) (cn (.int 4))))))
    (sSeq (sSet 4 (e2 addD (cn (.int 1)) (e2 modD (eCall 1 F_law_take (aC (vr 0) aN)) (vr 1))))
    (sSeq (sSet 5 (eLst aN))
    (sSeq (sFor (.n 6) (iRg1 (vr 4)) g_law_program_b1)
    (sRet (eTup (aC (vr 3) (aC (e2 modD (eCall 1 F_law_take (aC (vr 0) aN)) (cn (.int 4))) (aC (eB tupB (aC (vr 5) aN)) aN)))))))))
noncomputable def F_law_program : FN := fnB 9 3 g_law_program
theorem ok_law_program (B : Blt K w mg) {f : Addr} {fd : FuncData} (h : DefAt K mg "_law_program" s_law_program ["d", "most", "regs"] f fd) {f0 : Addr} {fd0 : FuncData} (h_law_take : Keeps P w K mg base 1 "_law_take" ["d"] F_law_take f0 fd0) {f1 : Addr} {fd1 : FuncData} (h_law_row : Keeps P w K mg base 3 "_law_row" ["d", "arrays", "many"] F_law_row f1 fd1) {f2 : Addr} {fd2 : FuncData} (h_law_way : Keeps P w K mg base 2 "_law_way" ["d", "at", "many", "regs"] F_law_way f2 fd2) : Keeps P w K mg base 4 "_law_program" ["d", "most", "regs"] F_law_program f fd :=
  keeps_of h sc_law_program fun cdv A outer s H E hr =>
    (ss_cons (c_set (ps_set (i := 3) sc_law_program.nd rfl (by first | exact Or.inl rfl | exact Or.inr rfl) (s_slice (s_tup (a_cons (s_tup (a_cons s_str (a_cons s_int (a_cons s_str a_nil)))) (a_cons (s_tup (a_cons s_str (a_cons s_int (a_cons s_str a_nil)))) (a_cons (s_tup (a_cons s_str (a_cons s_int (a_cons s_str a_nil)))) a_nil)))) o_none (o_some (s_op op_mod o2_mod (s_own h_law_take (by decide) hr rfl (by rfl) (a_cons (s_var (pv 0)) a_nil)) s_int)))))
    (ss_cons (c_set (ps_set (i := 4) sc_law_program.nd rfl (by first | exact Or.inl rfl | exact Or.inr rfl) (s_op op_addA o2_add s_int (s_op op_mod o2_mod (s_own h_law_take (by decide) hr rfl (by rfl) (a_cons (s_var (pv 0)) a_nil)) (s_var (pv 1))))))
    (ss_cons (c_set (ps_set (i := 5) sc_law_program.nd rfl (by first | exact Or.inl rfl | exact Or.inr rfl) (s_lst a_nil)))
    (ss_cons (c_for (t := (.n 6)) (ps_for PassesOwn.never rfl (i_rg1 (pi_range1 (by rfl) B.range (a_cons (s_var (pv 4)) a_nil))) (pg_name (i := 6) sc_law_program.nd rfl (by first | exact Or.inl rfl | exact Or.inr rfl)) (ss_cons (c_setLc0 (ps_setLc (i := 7) (own := [("k", 8)]) (g := gT _ (.n 8)) (by rfl) sc_law_program.nd rfl rfl (sw_true rfl rfl rfl (by decide +kernel)) (i_rg1 (pi_range1 (by rfl) B.range (a_cons (s_ix ix_seq o2_ix (s_lst (a_cons s_int (a_cons s_int (a_cons s_int (a_cons s_int (a_cons s_int a_nil)))))) (s_op op_mod o2_mod (s_own h_law_take (by decide) hr rfl (by rfl) (a_cons (s_var (pv 0)) a_nil)) s_int) (fun _ _ => rfl)) a_nil))) (blkOk_by (own := [("k", 8)]) (N := ["d", "most", "regs", "arrays", "many", "blocks", "at", "rows", "k"]) (sc := defScope s_law_program) (by decide +kernel)) (fun _ _ _ _ _ => (pg_name (i := 8) sc_law_program.nd rfl (by first | exact Or.inl rfl | exact Or.inr rfl))) (fun _ _ _ _ _ => pts_nil) (fun _ _ _ _ _ => (s_own h_law_row (by decide) hr rfl (by rfl) (a_cons (s_var (pv 0)) (a_cons (s_var (pv 3)) (a_cons (s_var (pv 2)) a_nil)))))) (by decide))
    (ss_one (c_ex (ps_expr (s_meth (pe_bm PySem.F.plainAttrs_list PySem.F.slot_list_append PySem.F.type_list_append mt_append (s_var (pv 5)) (a_cons (s_blt (pe_callTy call_tuple_of (by rfl) B.tuple (by decide +kernel) (a_cons (s_op op_addA o2_add (s_var (pv 7)) (s_lst (a_cons (s_own h_law_way (by decide) hr rfl (by rfl) (a_cons (s_var (pv 0)) (a_cons (s_var (pv 6)) (a_cons (s_var (pv 4)) (a_cons (s_var (pv 2)) a_nil))))) a_nil))) a_nil)) on_tup) a_nil)) om_app)))))))
    (ss_one (c_ret (ps_ret (s_tup (a_cons (s_var (pv 3)) (a_cons (s_op op_mod o2_mod (s_own h_law_take (by decide) hr rfl (by rfl) (a_cons (s_var (pv 0)) a_nil)) s_int) (a_cons (s_blt (pe_callTy call_tuple_of (by rfl) B.tuple (by decide +kernel) (a_cons (s_var (pv 5)) a_nil)) on_tup) a_nil)))))))))))
abbrev s_law_reads : Stmt := topS 22
theorem sc_law_reads : FnScope ["row"] ["row"] (defScope s_law_reads) := ⟨rfl, rfl, rfl, by decide +kernel, rfl, by decide +kernel, by decide +kernel⟩
noncomputable def g_law_reads : ST :=
  (sSeq (sIf (tB1 (e2 (inD false) (e2 ixD (vr 0) (cn (.int 0))) (eTup (aC (cn (.str "op")) (aC (cn (.str "load")) aN))))) (sRet (eB lstB (aC (eSl (vr 0) (oS (cn (.int 3))) oN) aN))) sSkip)
    (sSeq (sIf (tB1 (e2 (inD false) (e2 ixD (vr 0) (cn (.int 0))) (eTup (aC (cn (.str "copy")) (aC (cn (.str "select")) (aC (cn (.str "store")) aN)))))) (sRet (eB lstB (aC (eSl (vr 0) (oS (cn (.int 2))) oN) aN))) sSkip)
    (sSeq (sIf (tB1 (e2 (inD false) (e2 ixD (vr 0) (cn (.int 0))) (eTup (aC (cn (.str "out")) (aC (cn (.str "branch")) (aC (cn (.str "stop")) aN)))))) (sRet (eLst (aC (e2 ixD (vr 0) (cn (.int 1))) aN))) sSkip)
    (sRet (eLst aN)))))
noncomputable def F_law_reads : FN := fnB 1 1 g_law_reads
theorem ok_law_reads (B : Blt K w mg) {f : Addr} {fd : FuncData} (h : DefAt K mg "_law_reads" s_law_reads ["row"] f fd)  : Keeps P w K mg base 1 "_law_reads" ["row"] F_law_reads f fd :=
  keeps_of h sc_law_reads fun cdv A outer s H E hr =>
    (ss_cons (c_if (ps_if (t_cmp op_in_seq (o2_in (neg := false)) (s_ix ix_seq o2_ix (s_var (pv 0)) s_int (fun _ _ => rfl)) (s_tup (a_cons s_str (a_cons s_str a_nil))) (by rfl)) (ss_one (c_ret (ps_ret (s_blt (pe_callTy call_list_of (by rfl) B.list (by decide +kernel) (a_cons (s_slice (s_var (pv 0)) (o_some s_int) o_none) a_nil)) on_lst)))) ss_nil))
    (ss_cons (c_if (ps_if (t_cmp op_in_seq (o2_in (neg := false)) (s_ix ix_seq o2_ix (s_var (pv 0)) s_int (fun _ _ => rfl)) (s_tup (a_cons s_str (a_cons s_str (a_cons s_str a_nil)))) (by rfl)) (ss_one (c_ret (ps_ret (s_blt (pe_callTy call_list_of (by rfl) B.list (by decide +kernel) (a_cons (s_slice (s_var (pv 0)) (o_some s_int) o_none) a_nil)) on_lst)))) ss_nil))
    (ss_cons (c_if (ps_if (t_cmp op_in_seq (o2_in (neg := false)) (s_ix ix_seq o2_ix (s_var (pv 0)) s_int (fun _ _ => rfl)) (s_tup (a_cons s_str (a_cons s_str (a_cons s_str a_nil)))) (by rfl)) (ss_one (c_ret (ps_ret (s_lst (a_cons (s_ix ix_seq o2_ix (s_var (pv 0)) s_int (fun _ _ => rfl)) a_nil))))) ss_nil))
    (ss_one (c_ret (ps_ret (s_lst a_nil)))))))
abbrev s_law_writes : Stmt := topS 23
theorem sc_law_writes : FnScope ["row"] ["row"] (defScope s_law_writes) := ⟨rfl, rfl, rfl, by decide +kernel, rfl, by decide +kernel, by decide +kernel⟩
noncomputable def g_law_writes : ST :=
  (sSeq (sIf (tB1 (e2 eqD (e2 ixD (vr 0) (cn (.int 0))) (cn (.str "op")))) (sRet (e2 ixD (vr 0) (cn (.int 2)))) sSkip)
    (sSeq (sIf (tB1 (e2 (inD false) (e2 ixD (vr 0) (cn (.int 0))) (eTup (aC (cn (.str "const")) (aC (cn (.str "copy")) (aC (cn (.str "select")) (aC (cn (.str "load")) aN))))))) (sRet (e2 ixD (vr 0) (cn (.int 1)))) sSkip)
    (sRet (eNeg (cn (.int 1))))))
noncomputable def F_law_writes : FN := fnB 1 1 g_law_writes
theorem ok_law_writes (B : Blt K w mg) {f : Addr} {fd : FuncData} (h : DefAt K mg "_law_writes" s_law_writes ["row"] f fd)  : Keeps P w K mg base 1 "_law_writes" ["row"] F_law_writes f fd :=
  keeps_of h sc_law_writes fun cdv A outer s H E hr =>
    (ss_cons (c_if (ps_if (t_cmp (op_eqA hr.units) o2_eq (s_ix ix_seq o2_ix (s_var (pv 0)) s_int (fun _ _ => rfl)) s_str (nomark _)) (ss_one (c_ret (ps_ret (s_ix ix_seq o2_ix (s_var (pv 0)) s_int (fun _ _ => rfl))))) ss_nil))
    (ss_cons (c_if (ps_if (t_cmp op_in_seq (o2_in (neg := false)) (s_ix ix_seq o2_ix (s_var (pv 0)) s_int (fun _ _ => rfl)) (s_tup (a_cons s_str (a_cons s_str (a_cons s_str (a_cons s_str a_nil))))) (by rfl)) (ss_one (c_ret (ps_ret (s_ix ix_seq o2_ix (s_var (pv 0)) s_int (fun _ _ => rfl))))) ss_nil))
    (ss_one (c_ret (ps_ret (s_neg s_int))))))
abbrev s_law_ways : Stmt := topS 24
theorem sc_law_ways : FnScope ["block", "row"] ["block"] (defScope s_law_ways) := ⟨rfl, rfl, rfl, by decide +kernel, rfl, by decide +kernel, by decide +kernel⟩
noncomputable def g_law_ways : ST :=
  (sSeq (sSet 1 (e2 ixD (vr 0) (eNeg (cn (.int 1)))))
    (sRet (eB lstB (aC (e2 dgetD (eDct [((cn (.str "jump")), (eSl (vr 1) (oS (cn (.int 1))) oN)), ((cn (.str "branch")), (eSl (vr 1) (oS (cn (.int 2))) oN)), ((cn (.str "stop")), (eTup aN))]) (e2 ixD (vr 1) (cn (.int 0)))) aN))))
noncomputable def F_law_ways : FN := fnB 2 1 g_law_ways
theorem ok_law_ways (B : Blt K w mg) {f : Addr} {fd : FuncData} (h : DefAt K mg "_law_ways" s_law_ways ["block"] f fd)  : Keeps P w K mg base 1 "_law_ways" ["block"] F_law_ways f fd :=
  keeps_of h sc_law_ways fun cdv A outer s H E hr =>
    (ss_cons (c_set (ps_set (i := 1) sc_law_ways.nd rfl (by first | exact Or.inl rfl | exact Or.inr rfl) (s_ix ix_seq o2_ix (s_var (pv 0)) (s_neg s_int) (fun _ _ => rfl))))
    (ss_one (c_ret (ps_ret (s_blt (pe_callTy call_list_of (by rfl) B.list (by decide +kernel) (a_cons (c_2 (pe_dget (hu_of hr) (s_dctm (ppm_cons s_str (s_slice (s_var (pv 1)) (o_some s_int) o_none) (ppm_cons s_str (s_slice (s_var (pv 1)) (o_some s_int) o_none) (ppm_cons s_str (s_tup a_nil) ppm_nil))) (by rfl) (by rfl) (fun z => by cases z) (by decide)) (s_ix ix_seq o2_ix (s_var (pv 1)) s_int (fun _ _ => rfl)) (fun _ _ => rfl)) o2_dget) a_nil)) on_lst)))))
abbrev s_law_come : Stmt := topS 25
theorem sc_law_come : FnScope ["blocks", "found", "turn", "at", "other"] ["blocks"] (defScope s_law_come) := ⟨rfl, rfl, rfl, by decide +kernel, rfl, by decide +kernel, by decide +kernel⟩
noncomputable def g_law_come_b1 : ST :=
  (sIf (tB1 (e2 (inD true) (vr 4) (vr 1))) (sEx (eM "list" appM (vr 1) (aC (vr 4) aN))) sSkip)
noncomputable def g_law_come_b2 : ST :=
  (sFor (.n 4) (iSeq (eCall 1 F_law_ways (aC (e2 ixD (vr 0) (vr 3)) aN))) g_law_come_b1)
noncomputable def g_law_come_b3 : ST :=
  (sFor (.n 3) (iSeq (eB lstB (aC (vr 1) aN))) g_law_come_b2)
noncomputable def g_law_come : ST :=
  (sSeq (sSet 1 (eLst (aC (cn (.int 0)) aN)))
    (sSeq (sFor (.n 2) (iRg1 (eB lenB (aC (vr 0) aN))) g_law_come_b3)
    (sRet (eB sortB (aC (vr 1) aN)))))
noncomputable def F_law_come : FN := fnB 5 1 g_law_come
theorem ok_law_come (B : Blt K w mg) {f : Addr} {fd : FuncData} (h : DefAt K mg "_law_come" s_law_come ["blocks"] f fd) {f0 : Addr} {fd0 : FuncData} (h_law_ways : Keeps P w K mg base 1 "_law_ways" ["block"] F_law_ways f0 fd0) : Keeps P w K mg base 2 "_law_come" ["blocks"] F_law_come f fd :=
  keeps_of h sc_law_come fun cdv A outer s H E hr =>
    (ss_cons (c_set (ps_set (i := 1) sc_law_come.nd rfl (by first | exact Or.inl rfl | exact Or.inr rfl) (s_lst (a_cons s_int a_nil))))
    (ss_cons (c_for (t := (.n 2)) (ps_for PassesOwn.never rfl (i_rg1 (pi_range1 (by rfl) B.range (a_cons (s_blt (pe_callB call_lenA (by rfl) B.len (by decide +kernel) (a_cons (s_var (pv 0)) a_nil)) on_len) a_nil))) (pg_name (i := 2) sc_law_come.nd rfl (by first | exact Or.inl rfl | exact Or.inr rfl)) (ss_one (c_for (t := (.n 3)) (ps_for PassesOwn.never rfl (i_seq (s_blt (pe_callTy call_list_of (by rfl) B.list (by decide +kernel) (a_cons (s_var (pv 1)) a_nil)) on_lst)) (pg_name (i := 3) sc_law_come.nd rfl (by first | exact Or.inl rfl | exact Or.inr rfl)) (ss_one (c_for (t := (.n 4)) (ps_for PassesOwn.never rfl (i_seq (s_own h_law_ways (by decide) hr rfl (by rfl) (a_cons (s_ix ix_seq o2_ix (s_var (pv 0)) (s_var (pv 3)) (fun _ _ => rfl)) a_nil))) (pg_name (i := 4) sc_law_come.nd rfl (by first | exact Or.inl rfl | exact Or.inr rfl)) (ss_one (c_if (ps_if (t_cmp op_notIn_seq (o2_in (neg := true)) (s_var (pv 4)) (s_var (pv 1)) (by rfl)) (ss_one (c_ex (ps_expr (s_meth (pe_bm PySem.F.plainAttrs_list PySem.F.slot_list_append PySem.F.type_list_append mt_append (s_var (pv 1)) (a_cons (s_var (pv 4)) a_nil)) om_app)))) ss_nil)))))))))))
    (ss_one (c_ret (ps_ret (s_blt (pe_callB cr_sortedI (by rfl) B.sorted (by decide +kernel) (a_cons (s_var (pv 1)) a_nil)) on_sort))))))
abbrev s_law_alone : Stmt := topS 26
theorem sc_law_alone : FnScope ["block"] ["block"] (defScope s_law_alone) := ⟨rfl, rfl, rfl, by decide +kernel, rfl, by decide +kernel, by decide +kernel⟩
noncomputable def g_law_alone : ST :=
  (sRet (eAn (e2 eqD (eB lenB (aC (vr 0) aN)) (cn (.int 1))) (e2 eqD (e2 ixD (e2 ixD (vr 0) (cn (.int 0))) (cn (.int 0))) (cn (.str "jump")))))
noncomputable def F_law_alone : FN := fnB 1 1 g_law_alone
theorem ok_law_alone (B : Blt K w mg) {f : Addr} {fd : FuncData} (h : DefAt K mg "_law_alone" s_law_alone ["block"] f fd)  : Keeps P w K mg base 1 "_law_alone" ["block"] F_law_alone f fd :=
  keeps_of h sc_law_alone fun cdv A outer s H E hr =>
    (ss_one (c_ret (ps_ret (s_and (s_cmp (op_eqA hr.units) o2_eq (s_blt (pe_callB call_lenA (by rfl) B.len (by decide +kernel) (a_cons (s_var (pv 0)) a_nil)) on_len) s_int (nomark _)) (s_one (s_cmp (op_eqA hr.units) o2_eq (s_ix ix_seq o2_ix (s_ix ix_seq o2_ix (s_var (pv 0)) s_int (fun _ _ => rfl)) s_int (fun _ _ => rfl)) s_str (nomark _)))))))
abbrev s_law_end : Stmt := topS 27
theorem sc_law_end : FnScope ["blocks", "at", "turn"] ["blocks", "at"] (defScope s_law_end) := ⟨rfl, rfl, rfl, by decide +kernel, rfl, by decide +kernel, by decide +kernel⟩
noncomputable def g_law_end_b1 : ST :=
  (sSeq (sIf (tNo (tTl (eCall 1 F_law_alone (aC (e2 ixD (vr 0) (vr 1)) aN)))) (sRet (vr 1)) sSkip)
    (sSet 1 (e2 ixD (e2 ixD (e2 ixD (vr 0) (vr 1)) (cn (.int 0))) (cn (.int 1)))))
noncomputable def g_law_end : ST :=
  (sSeq (sFor (.n 2) (iRg1 (e2 addD (eB lenB (aC (vr 0) aN)) (cn (.int 1)))) g_law_end_b1)
    (sRet (eNeg (cn (.int 1)))))
noncomputable def F_law_end : FN := fnB 3 2 g_law_end
theorem ok_law_end (B : Blt K w mg) {f : Addr} {fd : FuncData} (h : DefAt K mg "_law_end" s_law_end ["blocks", "at"] f fd) {f0 : Addr} {fd0 : FuncData} (h_law_alone : Keeps P w K mg base 1 "_law_alone" ["block"] F_law_alone f0 fd0) : Keeps P w K mg base 2 "_law_end" ["blocks", "at"] F_law_end f fd :=
  keeps_of h sc_law_end fun cdv A outer s H E hr =>
    (ss_cons (c_for (t := (.n 2)) (ps_for PassesOwn.never rfl (i_rg1 (pi_range1 (by rfl) B.range (a_cons (s_op op_addA o2_add (s_blt (pe_callB call_lenA (by rfl) B.len (by decide +kernel) (a_cons (s_var (pv 0)) a_nil)) on_len) s_int) a_nil))) (pg_name (i := 2) sc_law_end.nd rfl (by first | exact Or.inl rfl | exact Or.inr rfl)) (ss_cons (c_if (ps_if (t_not (t_truth (s_own h_law_alone (by decide) hr rfl (by rfl) (a_cons (s_ix ix_seq o2_ix (s_var (pv 0)) (s_var (pv 1)) (fun _ _ => rfl)) a_nil)))) (ss_one (c_ret (ps_ret (s_var (pv 1))))) ss_nil))
    (ss_one (c_set (ps_set (i := 1) sc_law_end.nd rfl (by first | exact Or.inl rfl | exact Or.inr rfl) (s_ix ix_seq o2_ix (s_ix ix_seq o2_ix (s_ix ix_seq o2_ix (s_var (pv 0)) (s_var (pv 1)) (fun _ _ => rfl)) s_int (fun _ _ => rfl)) s_int (fun _ _ => rfl))))))))
    (ss_one (c_ret (ps_ret (s_neg s_int)))))
abbrev s_law_with : Stmt := topS 28
theorem sc_law_with : FnScope ["blocks", "at", "block"] ["blocks", "at", "block"] (defScope s_law_with) := ⟨rfl, rfl, rfl, by decide +kernel, rfl, by decide +kernel, by decide +kernel⟩
noncomputable def g_law_with : ST :=
  (sRet (e2 addD (e2 addD (eSl (vr 0) oN (oS (vr 1))) (eLst (aC (vr 2) aN))) (eSl (vr 0) (oS (e2 addD (vr 1) (cn (.int 1)))) oN)))
noncomputable def F_law_with : FN := fnB 3 3 g_law_with
theorem ok_law_with (B : Blt K w mg) {f : Addr} {fd : FuncData} (h : DefAt K mg "_law_with" s_law_with ["blocks", "at", "block"] f fd)  : Keeps P w K mg base 1 "_law_with" ["blocks", "at", "block"] F_law_with f fd :=
  keeps_of h sc_law_with fun cdv A outer s H E hr =>
    (ss_one (c_ret (ps_ret (s_op op_addA o2_add (s_op op_addA o2_add (s_slice (s_var (pv 0)) o_none (o_some (s_var (pv 1)))) (s_lst (a_cons (s_var (pv 2)) a_nil))) (s_slice (s_var (pv 0)) (o_some (s_op op_addA o2_add (s_var (pv 1)) s_int)) o_none)))))
abbrev s_law_first : Stmt := topS 29
theorem sc_law_first : FnScope ["blocks", "at", "row", "place"] ["blocks"] (defScope s_law_first) := ⟨rfl, rfl, rfl, by decide +kernel, rfl, by decide +kernel, by decide +kernel⟩
noncomputable def g_law_first_b1 : ST :=
  (sSeq (sSet 2 (e2 ixD (e2 ixD (vr 0) (vr 1)) (eNeg (cn (.int 1)))))
    (sIf (tAn (tB1 (e2 eqD (e2 ixD (vr 2) (cn (.int 0))) (cn (.str "branch")))) (tB1 (e2 eqD (e2 ixD (vr 2) (cn (.int 2))) (e2 ixD (vr 2) (cn (.int 3)))))) (sRet (eCall 3 F_law_with (aC (vr 0) (aC (vr 1) (aC (e2 addD (eSl (e2 ixD (vr 0) (vr 1)) oN (oS (eNeg (cn (.int 1))))) (eTup (aC (eTup (aC (cn (.str "jump")) (aC (e2 ixD (vr 2) (cn (.int 2))) aN))) aN))) aN))))) sSkip))
noncomputable def g_law_first_b2 : ST :=
  (sIf (tAn (tB1 (e2 neD (e2 ixD (vr 2) (cn (.int 0))) (cn (.str "stop")))) (tAn (tTl (eCall 1 F_law_alone (aC (e2 ixD (vr 0) (e2 ixD (vr 2) (vr 3))) aN))) (tB1 (e2 geD (eCall 2 F_law_end (aC (vr 0) (aC (e2 ixD (vr 2) (vr 3)) aN))) (cn (.int 0)))))) (sSeq (sSet 2 (e2 addD (e2 addD (eSl (vr 2) oN (oS (vr 3))) (eTup (aC (eCall 2 F_law_end (aC (vr 0) (aC (e2 ixD (vr 2) (vr 3)) aN))) aN))) (eSl (vr 2) (oS (e2 addD (vr 3) (cn (.int 1)))) oN)))
    (sRet (eCall 3 F_law_with (aC (vr 0) (aC (vr 1) (aC (e2 addD (eSl (e2 ixD (vr 0) (vr 1)) oN (oS (eNeg (cn (.int 1))))) (eTup (aC (vr 2) aN))) aN)))))) sSkip)
noncomputable def g_law_first_b3 : ST :=
  (sSeq (sSet 2 (e2 ixD (e2 ixD (vr 0) (vr 1)) (eNeg (cn (.int 1)))))
    (sFor (.n 3) (iRg2 (e2 addD (cn (.int 1)) (eB intB (aC (e2 eqD (e2 ixD (vr 2) (cn (.int 0))) (cn (.str "branch"))) aN))) (eB lenB (aC (vr 2) aN))) g_law_first_b2))
noncomputable def g_law_first : ST :=
  (sSeq (sFor (.n 1) (iRg1 (eB lenB (aC (vr 0) aN))) g_law_first_b1)
    (sSeq (sFor (.n 1) (iRg1 (eB lenB (aC (vr 0) aN))) g_law_first_b3)
    (sRet (cn .non))))
noncomputable def F_law_first : FN := fnB 4 1 g_law_first
theorem ok_law_first (B : Blt K w mg) {f : Addr} {fd : FuncData} (h : DefAt K mg "_law_first" s_law_first ["blocks"] f fd) {f0 : Addr} {fd0 : FuncData} (h_law_with : Keeps P w K mg base 1 "_law_with" ["blocks", "at", "block"] F_law_with f0 fd0) {f1 : Addr} {fd1 : FuncData} (h_law_end : Keeps P w K mg base 2 "_law_end" ["blocks", "at"] F_law_end f1 fd1) {f2 : Addr} {fd2 : FuncData} (h_law_alone : Keeps P w K mg base 1 "_law_alone" ["block"] F_law_alone f2 fd2) : Keeps P w K mg base 3 "_law_first" ["blocks"] F_law_first f fd :=
  keeps_of h sc_law_first fun cdv A outer s H E hr =>
    (ss_cons (c_for (t := (.n 1)) (ps_for PassesOwn.never rfl (i_rg1 (pi_range1 (by rfl) B.range (a_cons (s_blt (pe_callB call_lenA (by rfl) B.len (by decide +kernel) (a_cons (s_var (pv 0)) a_nil)) on_len) a_nil))) (pg_name (i := 1) sc_law_first.nd rfl (by first | exact Or.inl rfl | exact Or.inr rfl)) (ss_cons (c_set (ps_set (i := 2) sc_law_first.nd rfl (by first | exact Or.inl rfl | exact Or.inr rfl) (s_ix ix_seq o2_ix (s_ix ix_seq o2_ix (s_var (pv 0)) (s_var (pv 1)) (fun _ _ => rfl)) (s_neg s_int) (fun _ _ => rfl))))
    (ss_one (c_if (ps_if (PW.pt (t_and (t_cmp (op_eqA hr.units) o2_eq (s_ix ix_seq o2_ix (s_var (pv 2)) s_int (fun _ _ => rfl)) s_str (nomark _)) (t_and1 (t_cmp (op_eqA hr.units) o2_eq (s_ix ix_seq o2_ix (s_var (pv 2)) s_int (fun _ _ => rfl)) (s_ix ix_seq o2_ix (s_var (pv 2)) s_int (fun _ _ => rfl)) (nomark _))))) (ss_one (c_ret (ps_ret (s_own h_law_with (by decide) hr rfl (by rfl) (a_cons (s_var (pv 0)) (a_cons (s_var (pv 1)) (a_cons (s_op op_addA o2_add (s_slice (s_ix ix_seq o2_ix (s_var (pv 0)) (s_var (pv 1)) (fun _ _ => rfl)) o_none (o_some (s_neg s_int))) (s_tup (a_cons (s_tup (a_cons s_str (a_cons (s_ix ix_seq o2_ix (s_var (pv 2)) s_int (fun _ _ => rfl)) a_nil))) a_nil))) a_nil))))))) ss_nil))))))
    (ss_cons (c_for (t := (.n 1)) (ps_for PassesOwn.never rfl (i_rg1 (pi_range1 (by rfl) B.range (a_cons (s_blt (pe_callB call_lenA (by rfl) B.len (by decide +kernel) (a_cons (s_var (pv 0)) a_nil)) on_len) a_nil))) (pg_name (i := 1) sc_law_first.nd rfl (by first | exact Or.inl rfl | exact Or.inr rfl)) (ss_cons (c_set (ps_set (i := 2) sc_law_first.nd rfl (by first | exact Or.inl rfl | exact Or.inr rfl) (s_ix ix_seq o2_ix (s_ix ix_seq o2_ix (s_var (pv 0)) (s_var (pv 1)) (fun _ _ => rfl)) (s_neg s_int) (fun _ _ => rfl))))
    (ss_one (c_for (t := (.n 3)) (ps_for PassesOwn.never rfl (i_rg2 (pi_range2 (by rfl) B.range (a_cons (s_op op_addA o2_add s_int (s_blt (pe_callTy call_int1 (by rfl) B.int (by decide +kernel) (a_cons (s_cmp (op_eqA hr.units) o2_eq (s_ix ix_seq o2_ix (s_var (pv 2)) s_int (fun _ _ => rfl)) s_str (nomark _)) a_nil)) on_int)) (a_cons (s_blt (pe_callB call_lenA (by rfl) B.len (by decide +kernel) (a_cons (s_var (pv 2)) a_nil)) on_len) a_nil)))) (pg_name (i := 3) sc_law_first.nd rfl (by first | exact Or.inl rfl | exact Or.inr rfl)) (ss_one (c_if (ps_if (PW.pt (t_and (t_cmp (op_neA hr.units) o2_ne (s_ix ix_seq o2_ix (s_var (pv 2)) s_int (fun _ _ => rfl)) s_str (nomark _)) (t_and (t_truth (s_own h_law_alone (by decide) hr rfl (by rfl) (a_cons (s_ix ix_seq o2_ix (s_var (pv 0)) (s_ix ix_seq o2_ix (s_var (pv 2)) (s_var (pv 3)) (fun _ _ => rfl)) (fun _ _ => rfl)) a_nil))) (t_and1 (t_cmp op_ge o2_ge (s_own h_law_end (by decide) hr rfl (by rfl) (a_cons (s_var (pv 0)) (a_cons (s_ix ix_seq o2_ix (s_var (pv 2)) (s_var (pv 3)) (fun _ _ => rfl)) a_nil))) s_int (nomark _)))))) (ss_cons (c_set (ps_set (i := 2) sc_law_first.nd rfl (by first | exact Or.inl rfl | exact Or.inr rfl) (s_op op_addA o2_add (s_op op_addA o2_add (s_slice (s_var (pv 2)) o_none (o_some (s_var (pv 3)))) (s_tup (a_cons (s_own h_law_end (by decide) hr rfl (by rfl) (a_cons (s_var (pv 0)) (a_cons (s_ix ix_seq o2_ix (s_var (pv 2)) (s_var (pv 3)) (fun _ _ => rfl)) a_nil))) a_nil))) (s_slice (s_var (pv 2)) (o_some (s_op op_addA o2_add (s_var (pv 3)) s_int)) o_none))))
    (ss_one (c_ret (ps_ret (s_own h_law_with (by decide) hr rfl (by rfl) (a_cons (s_var (pv 0)) (a_cons (s_var (pv 1)) (a_cons (s_op op_addA o2_add (s_slice (s_ix ix_seq o2_ix (s_var (pv 0)) (s_var (pv 1)) (fun _ _ => rfl)) o_none (o_some (s_neg s_int))) (s_tup (a_cons (s_var (pv 2)) a_nil))) a_nil)))))))) ss_nil)))))))))
    (ss_one (c_ret (ps_ret s_non)))))
abbrev s_law_numbered : Stmt := topS 30
theorem sc_law_numbered : FnScope ["blocks", "come", "found", "at", "row"] ["blocks"] (defScope s_law_numbered) := ⟨rfl, rfl, rfl, by decide +kernel, rfl, by decide +kernel, by decide +kernel⟩
noncomputable def g_law_numbered_b1 : ST :=
  (sSeq (sSet 4 (e2 ixD (e2 ixD (vr 0) (vr 3)) (eNeg (cn (.int 1)))))
    (sSeq (sIf (tB1 (e2 eqD (e2 ixD (vr 4) (cn (.int 0))) (cn (.str "jump")))) (sSet 4 (eTup (aC (cn (.str "jump")) (aC (eM "list" idxM (vr 1) (aC (e2 ixD (vr 4) (cn (.int 1))) aN)) aN)))) sSkip)
    (sSeq (sIf (tB1 (e2 eqD (e2 ixD (vr 4) (cn (.int 0))) (cn (.str "branch")))) (sSet 4 (e2 addD (eSl (vr 4) oN (oS (cn (.int 2)))) (eTup (aC (eM "list" idxM (vr 1) (aC (e2 ixD (vr 4) (cn (.int 2))) aN)) (aC (eM "list" idxM (vr 1) (aC (e2 ixD (vr 4) (cn (.int 3))) aN)) aN))))) sSkip)
    (sEx (eM "list" appM (vr 2) (aC (e2 addD (eSl (e2 ixD (vr 0) (vr 3)) oN (oS (eNeg (cn (.int 1))))) (eTup (aC (vr 4) aN))) aN))))))
noncomputable def g_law_numbered : ST :=
  (sSeq (sSet 1 (eCall 1 F_law_come (aC (vr 0) aN)))
    (sSeq (sSet 2 (eLst aN))
    (sSeq (sFor (.n 3) (iSeq (vr 1)) g_law_numbered_b1)
    (sRet (vr 2)))))
noncomputable def F_law_numbered : FN := fnB 5 1 g_law_numbered
theorem ok_law_numbered (B : Blt K w mg) {f : Addr} {fd : FuncData} (h : DefAt K mg "_law_numbered" s_law_numbered ["blocks"] f fd) {f0 : Addr} {fd0 : FuncData} (h_law_come : Keeps P w K mg base 2 "_law_come" ["blocks"] F_law_come f0 fd0) : Keeps P w K mg base 3 "_law_numbered" ["blocks"] F_law_numbered f fd :=
  keeps_of h sc_law_numbered fun cdv A outer s H E hr =>
    (ss_cons (c_set (ps_set (i := 1) sc_law_numbered.nd rfl (by first | exact Or.inl rfl | exact Or.inr rfl) (s_own h_law_come (by decide) hr rfl (by rfl) (a_cons (s_var (pv 0)) a_nil))))
    (ss_cons (c_set (ps_set (i := 2) sc_law_numbered.nd rfl (by first | exact Or.inl rfl | exact Or.inr rfl) (s_lst a_nil)))
    (ss_cons (c_for (t := (.n 3)) (ps_for PassesOwn.never rfl (i_seq (s_var (pv 1))) (pg_name (i := 3) sc_law_numbered.nd rfl (by first | exact Or.inl rfl | exact Or.inr rfl)) (ss_cons (c_set (ps_set (i := 4) sc_law_numbered.nd rfl (by first | exact Or.inl rfl | exact Or.inr rfl) (s_ix ix_seq o2_ix (s_ix ix_seq o2_ix (s_var (pv 0)) (s_var (pv 3)) (fun _ _ => rfl)) (s_neg s_int) (fun _ _ => rfl))))
    (ss_cons (c_if (ps_if (t_cmp (op_eqA hr.units) o2_eq (s_ix ix_seq o2_ix (s_var (pv 4)) s_int (fun _ _ => rfl)) s_str (nomark _)) (ss_one (c_set (ps_set (i := 4) sc_law_numbered.nd rfl (by first | exact Or.inl rfl | exact Or.inr rfl) (s_tup (a_cons s_str (a_cons (s_meth (pe_bm PySem.F.plainAttrs_list PySem.F.slot_list_index PySem.F.type_list_index mt_index (s_var (pv 1)) (a_cons (s_ix ix_seq o2_ix (s_var (pv 4)) s_int (fun _ _ => rfl)) a_nil)) om_idx) a_nil)))))) ss_nil))
    (ss_cons (c_if (ps_if (t_cmp (op_eqA hr.units) o2_eq (s_ix ix_seq o2_ix (s_var (pv 4)) s_int (fun _ _ => rfl)) s_str (nomark _)) (ss_one (c_set (ps_set (i := 4) sc_law_numbered.nd rfl (by first | exact Or.inl rfl | exact Or.inr rfl) (s_op op_addA o2_add (s_slice (s_var (pv 4)) o_none (o_some s_int)) (s_tup (a_cons (s_meth (pe_bm PySem.F.plainAttrs_list PySem.F.slot_list_index PySem.F.type_list_index mt_index (s_var (pv 1)) (a_cons (s_ix ix_seq o2_ix (s_var (pv 4)) s_int (fun _ _ => rfl)) a_nil)) om_idx) (a_cons (s_meth (pe_bm PySem.F.plainAttrs_list PySem.F.slot_list_index PySem.F.type_list_index mt_index (s_var (pv 1)) (a_cons (s_ix ix_seq o2_ix (s_var (pv 4)) s_int (fun _ _ => rfl)) a_nil)) om_idx) a_nil))))))) ss_nil))
    (ss_one (c_ex (ps_expr (s_meth (pe_bm PySem.F.plainAttrs_list PySem.F.slot_list_append PySem.F.type_list_append mt_append (s_var (pv 2)) (a_cons (s_op op_addA o2_add (s_slice (s_ix ix_seq o2_ix (s_var (pv 0)) (s_var (pv 3)) (fun _ _ => rfl)) o_none (o_some (s_neg s_int))) (s_tup (a_cons (s_var (pv 4)) a_nil))) a_nil)) om_app)))))))))
    (ss_one (c_ret (ps_ret (s_var (pv 2))))))))
abbrev s_law_joined : Stmt := topS 31
theorem sc_law_joined : FnScope ["blocks", "ways_v", "block", "at", "row"] ["blocks"] (defScope s_law_joined) := ⟨rfl, rfl, rfl, by decide +kernel, rfl, by decide +kernel, by decide +kernel⟩
noncomputable def g_law_joined_b1 : ST :=
  (sSet 1 (e2 addD (vr 1) (eCall 1 F_law_ways (aC (vr 2) aN))))
noncomputable def g_law_joined_b2 : ST :=
  (sSeq (sSet 4 (e2 ixD (e2 ixD (vr 0) (vr 3)) (eNeg (cn (.int 1)))))
    (sIf (tAn (tB1 (e2 eqD (e2 ixD (vr 4) (cn (.int 0))) (cn (.str "jump")))) (tAn (tB1 (e2 neD (e2 ixD (vr 4) (cn (.int 1))) (vr 3))) (tAn (tB1 (e2 neD (e2 ixD (vr 4) (cn (.int 1))) (cn (.int 0)))) (tB1 (e2 eqD (eM "list" cntM (vr 1) (aC (e2 ixD (vr 4) (cn (.int 1))) aN)) (cn (.int 1))))))) (sRet (eCall 3 F_law_with (aC (vr 0) (aC (vr 3) (aC (e2 addD (eSl (e2 ixD (vr 0) (vr 3)) oN (oS (eNeg (cn (.int 1))))) (e2 ixD (vr 0) (e2 ixD (vr 4) (cn (.int 1))))) aN))))) sSkip))
noncomputable def g_law_joined : ST :=
  (sSeq (sSet 1 (eLst aN))
    (sSeq (sFor (.n 2) (iSeq (vr 0)) g_law_joined_b1)
    (sSeq (sFor (.n 3) (iRg1 (eB lenB (aC (vr 0) aN))) g_law_joined_b2)
    (sRet (cn .non)))))
noncomputable def F_law_joined : FN := fnB 5 1 g_law_joined
theorem ok_law_joined (B : Blt K w mg) {f : Addr} {fd : FuncData} (h : DefAt K mg "_law_joined" s_law_joined ["blocks"] f fd) {f0 : Addr} {fd0 : FuncData} (h_law_ways : Keeps P w K mg base 1 "_law_ways" ["block"] F_law_ways f0 fd0) {f1 : Addr} {fd1 : FuncData} (h_law_with : Keeps P w K mg base 1 "_law_with" ["blocks", "at", "block"] F_law_with f1 fd1) : Keeps P w K mg base 2 "_law_joined" ["blocks"] F_law_joined f fd :=
  keeps_of h sc_law_joined fun cdv A outer s H E hr =>
    (ss_cons (c_set (ps_set (i := 1) sc_law_joined.nd rfl (by first | exact Or.inl rfl | exact Or.inr rfl) (s_lst a_nil)))
    (ss_cons (c_for (t := (.n 2)) (ps_for PassesOwn.never rfl (i_seq (s_var (pv 0))) (pg_name (i := 2) sc_law_joined.nd rfl (by first | exact Or.inl rfl | exact Or.inr rfl)) (ss_one (c_set (ps_set (i := 1) sc_law_joined.nd rfl (by first | exact Or.inl rfl | exact Or.inr rfl) (s_op op_addA o2_add (s_var (pv 1)) (s_own h_law_ways (by decide) hr rfl (by rfl) (a_cons (s_var (pv 2)) a_nil))))))))
    (ss_cons (c_for (t := (.n 3)) (ps_for PassesOwn.never rfl (i_rg1 (pi_range1 (by rfl) B.range (a_cons (s_blt (pe_callB call_lenA (by rfl) B.len (by decide +kernel) (a_cons (s_var (pv 0)) a_nil)) on_len) a_nil))) (pg_name (i := 3) sc_law_joined.nd rfl (by first | exact Or.inl rfl | exact Or.inr rfl)) (ss_cons (c_set (ps_set (i := 4) sc_law_joined.nd rfl (by first | exact Or.inl rfl | exact Or.inr rfl) (s_ix ix_seq o2_ix (s_ix ix_seq o2_ix (s_var (pv 0)) (s_var (pv 3)) (fun _ _ => rfl)) (s_neg s_int) (fun _ _ => rfl))))
    (ss_one (c_if (ps_if (PW.pt (t_and (t_cmp (op_eqA hr.units) o2_eq (s_ix ix_seq o2_ix (s_var (pv 4)) s_int (fun _ _ => rfl)) s_str (nomark _)) (t_and (t_cmp (op_neA hr.units) o2_ne (s_ix ix_seq o2_ix (s_var (pv 4)) s_int (fun _ _ => rfl)) (s_var (pv 3)) (nomark _)) (t_and (t_cmp (op_neA hr.units) o2_ne (s_ix ix_seq o2_ix (s_var (pv 4)) s_int (fun _ _ => rfl)) s_int (nomark _)) (t_and1 (t_cmp (op_eqA hr.units) o2_eq (s_meth (pe_bm PySem.F.plainAttrs_list PySem.F.slot_list_count PySem.F.type_list_count mt_lcount (s_var (pv 1)) (a_cons (s_ix ix_seq o2_ix (s_var (pv 4)) s_int (fun _ _ => rfl)) a_nil)) om_cnt) s_int (nomark _))))))) (ss_one (c_ret (ps_ret (s_own h_law_with (by decide) hr rfl (by rfl) (a_cons (s_var (pv 0)) (a_cons (s_var (pv 3)) (a_cons (s_op op_addA o2_add (s_slice (s_ix ix_seq o2_ix (s_var (pv 0)) (s_var (pv 3)) (fun _ _ => rfl)) o_none (o_some (s_neg s_int))) (s_ix ix_seq o2_ix (s_var (pv 0)) (s_ix ix_seq o2_ix (s_var (pv 4)) s_int (fun _ _ => rfl)) (fun _ _ => rfl))) a_nil))))))) ss_nil))))))
    (ss_one (c_ret (ps_ret s_non))))))
abbrev s_law_jumps : Stmt := topS 32
theorem sc_law_jumps : FnScope ["program", "blocks", "turn", "after"] ["program"] (defScope s_law_jumps) := ⟨rfl, rfl, rfl, by decide +kernel, rfl, by decide +kernel, by decide +kernel⟩
noncomputable def g_law_jumps_b1 : ST :=
  (sSeq (sSet 3 (eCall 1 F_law_first (aC (vr 1) aN)))
    (sSeq (sIf (tAn (tB1 (e2 isD (vr 3) (cn .non))) (tB1 (e2 ltD (eB lenB (aC (eCall 1 F_law_come (aC (vr 1) aN)) aN)) (eB lenB (aC (vr 1) aN))))) (sSet 3 (eCall 1 F_law_numbered (aC (vr 1) aN))) sSkip)
    (sSeq (sIf (tB1 (e2 isD (vr 3) (cn .non))) (sSet 3 (eCall 1 F_law_joined (aC (vr 1) aN))) sSkip)
    (sSeq (sIf (tB1 (e2 isD (vr 3) (cn .non))) (sRet (eTup (aC (e2 ixD (vr 0) (cn (.int 0))) (aC (e2 ixD (vr 0) (cn (.int 1))) (aC (eB tupB (aC (vr 1) aN)) aN))))) sSkip)
    (sSet 1 (vr 3))))))
noncomputable def g_law_jumps : ST :=
  (sSeq (sSet 1 (eB lstB (aC (e2 ixD (vr 0) (cn (.int 2))) aN)))
    (sSeq (sFor (.n 2) (iRg1 (cn (.int 400))) g_law_jumps_b1)
    (sRet (cn .non))))
noncomputable def F_law_jumps : FN := fnB 4 1 g_law_jumps
theorem ok_law_jumps (B : Blt K w mg) {f : Addr} {fd : FuncData} (h : DefAt K mg "_law_jumps" s_law_jumps ["program"] f fd) {f0 : Addr} {fd0 : FuncData} (h_law_first : Keeps P w K mg base 3 "_law_first" ["blocks"] F_law_first f0 fd0) {f1 : Addr} {fd1 : FuncData} (h_law_come : Keeps P w K mg base 2 "_law_come" ["blocks"] F_law_come f1 fd1) {f2 : Addr} {fd2 : FuncData} (h_law_numbered : Keeps P w K mg base 3 "_law_numbered" ["blocks"] F_law_numbered f2 fd2) {f3 : Addr} {fd3 : FuncData} (h_law_joined : Keeps P w K mg base 2 "_law_joined" ["blocks"] F_law_joined f3 fd3) : Keeps P w K mg base 4 "_law_jumps" ["program"] F_law_jumps f fd :=
  keeps_of h sc_law_jumps fun cdv A outer s H E hr =>
    (ss_cons (c_set (ps_set (i := 1) sc_law_jumps.nd rfl (by first | exact Or.inl rfl | exact Or.inr rfl) (s_blt (pe_callTy call_list_of (by rfl) B.list (by decide +kernel) (a_cons (s_ix ix_seq o2_ix (s_var (pv 0)) s_int (fun _ _ => rfl)) a_nil)) on_lst)))
    (ss_cons (c_for (t := (.n 2)) (ps_for PassesOwn.never rfl (i_rg1 (pi_range1 (by rfl) B.range (a_cons s_int a_nil))) (pg_name (i := 2) sc_law_jumps.nd rfl (by first | exact Or.inl rfl | exact Or.inr rfl)) (ss_cons (c_set (ps_set (i := 3) sc_law_jumps.nd rfl (by first | exact Or.inl rfl | exact Or.inr rfl) (s_own h_law_first (by decide) hr rfl (by rfl) (a_cons (s_var (pv 1)) a_nil))))
    (ss_cons (c_if (ps_if (PW.pt (t_and (t_cmp op_isA o2_is (s_var (pv 3)) s_non (nomark _)) (t_and1 (t_cmp op_lt o2_lt (s_blt (pe_callB call_lenA (by rfl) B.len (by decide +kernel) (a_cons (s_own h_law_come (by decide) hr rfl (by rfl) (a_cons (s_var (pv 1)) a_nil)) a_nil)) on_len) (s_blt (pe_callB call_lenA (by rfl) B.len (by decide +kernel) (a_cons (s_var (pv 1)) a_nil)) on_len) (nomark _))))) (ss_one (c_set (ps_set (i := 3) sc_law_jumps.nd rfl (by first | exact Or.inl rfl | exact Or.inr rfl) (s_own h_law_numbered (by decide) hr rfl (by rfl) (a_cons (s_var (pv 1)) a_nil))))) ss_nil))
    (ss_cons (c_if (ps_if (t_cmp op_isA o2_is (s_var (pv 3)) s_non (nomark _)) (ss_one (c_set (ps_set (i := 3) sc_law_jumps.nd rfl (by first | exact Or.inl rfl | exact Or.inr rfl) (s_own h_law_joined (by decide) hr rfl (by rfl) (a_cons (s_var (pv 1)) a_nil))))) ss_nil))
    (ss_cons (c_if (ps_if (t_cmp op_isA o2_is (s_var (pv 3)) s_non (nomark _)) (ss_one (c_ret (ps_ret (s_tup (a_cons (s_ix ix_seq o2_ix (s_var (pv 0)) s_int (fun _ _ => rfl)) (a_cons (s_ix ix_seq o2_ix (s_var (pv 0)) s_int (fun _ _ => rfl)) (a_cons (s_blt (pe_callTy call_tuple_of (by rfl) B.tuple (by decide +kernel) (a_cons (s_var (pv 1)) a_nil)) on_tup) a_nil))))))) ss_nil))
    (ss_one (c_set (ps_set (i := 1) sc_law_jumps.nd rfl (by first | exact Or.inl rfl | exact Or.inr rfl) (s_var (pv 3)))))))))))
    (ss_one (c_ret (ps_ret s_non)))))
abbrev s_law_with_jumps : Stmt := topS 33
theorem sc_law_with_jumps : FnScope ["d", "program", "blocks", "at", "block"] ["d", "program"] (defScope s_law_with_jumps) := ⟨rfl, rfl, rfl, by decide +kernel, rfl, by decide +kernel, by decide +kernel⟩
noncomputable def g_law_with_jumps_b1 : ST :=
  (sSeq (sSet 4 (e2 ixD (e2 ixD (vr 1) (cn (.int 2))) (vr 3)))
    (sSeq (sIf (tB1 (e2 eqD (e2 modD (eCall 1 F_law_take (aC (vr 0) aN)) (cn (.int 2))) (cn (.int 0)))) (sSet 4 (eTup (aC (eTup (aC (cn (.str "jump")) (aC (e2 modD (eCall 1 F_law_take (aC (vr 0) aN)) (eB lenB (aC (e2 ixD (vr 1) (cn (.int 2))) aN))) aN))) aN))) sSkip)
    (sEx (eM "list" appM (vr 2) (aC (vr 4) aN)))))
noncomputable def g_law_with_jumps : ST :=
  (sSeq (sSet 2 (eLst aN))
    (sSeq (sFor (.n 3) (iRg1 (eB lenB (aC (e2 ixD (vr 1) (cn (.int 2))) aN))) g_law_with_jumps_b1)
    (sRet (eTup (aC (e2 ixD (vr 1) (cn (.int 0))) (aC (e2 ixD (vr 1) (cn (.int 1))) (aC (eB tupB (aC (vr 2) aN)) aN)))))))
noncomputable def F_law_with_jumps : FN := fnB 5 2 g_law_with_jumps
theorem ok_law_with_jumps (B : Blt K w mg) {f : Addr} {fd : FuncData} (h : DefAt K mg "_law_with_jumps" s_law_with_jumps ["d", "program"] f fd) {f0 : Addr} {fd0 : FuncData} (h_law_take : Keeps P w K mg base 1 "_law_take" ["d"] F_law_take f0 fd0) : Keeps P w K mg base 2 "_law_with_jumps" ["d", "program"] F_law_with_jumps f fd :=
  keeps_of h sc_law_with_jumps fun cdv A outer s H E hr =>
    (ss_cons (c_set (ps_set (i := 2) sc_law_with_jumps.nd rfl (by first | exact Or.inl rfl | exact Or.inr rfl) (s_lst a_nil)))
    (ss_cons (c_for (t := (.n 3)) (ps_for PassesOwn.never rfl (i_rg1 (pi_range1 (by rfl) B.range (a_cons (s_blt (pe_callB call_lenA (by rfl) B.len (by decide +kernel) (a_cons (s_ix ix_seq o2_ix (s_var (pv 1)) s_int (fun _ _ => rfl)) a_nil)) on_len) a_nil))) (pg_name (i := 3) sc_law_with_jumps.nd rfl (by first | exact Or.inl rfl | exact Or.inr rfl)) (ss_cons (c_set (ps_set (i := 4) sc_law_with_jumps.nd rfl (by first | exact Or.inl rfl | exact Or.inr rfl) (s_ix ix_seq o2_ix (s_ix ix_seq o2_ix (s_var (pv 1)) s_int (fun _ _ => rfl)) (s_var (pv 3)) (fun _ _ => rfl))))
    (ss_cons (c_if (ps_if (t_cmp (op_eqA hr.units) o2_eq (s_op op_mod o2_mod (s_own h_law_take (by decide) hr rfl (by rfl) (a_cons (s_var (pv 0)) a_nil)) s_int) s_int (nomark _)) (ss_one (c_set (ps_set (i := 4) sc_law_with_jumps.nd rfl (by first | exact Or.inl rfl | exact Or.inr rfl) (s_tup (a_cons (s_tup (a_cons s_str (a_cons (s_op op_mod o2_mod (s_own h_law_take (by decide) hr rfl (by rfl) (a_cons (s_var (pv 0)) a_nil)) (s_blt (pe_callB call_lenA (by rfl) B.len (by decide +kernel) (a_cons (s_ix ix_seq o2_ix (s_var (pv 1)) s_int (fun _ _ => rfl)) a_nil)) on_len)) a_nil))) a_nil))))) ss_nil))
    (ss_one (c_ex (ps_expr (s_meth (pe_bm PySem.F.plainAttrs_list PySem.F.slot_list_append PySem.F.type_list_append mt_append (s_var (pv 2)) (a_cons (s_var (pv 4)) a_nil)) om_app))))))))
    (ss_one (c_ret (ps_ret (s_tup (a_cons (s_ix ix_seq o2_ix (s_var (pv 1)) s_int (fun _ _ => rfl)) (a_cons (s_ix ix_seq o2_ix (s_var (pv 1)) s_int (fun _ _ => rfl)) (a_cons (s_blt (pe_callTy call_tuple_of (by rfl) B.tuple (by decide +kernel) (a_cons (s_var (pv 2)) a_nil)) on_tup) a_nil)))))))))
abbrev s_law_equal : Stmt := topS 34
theorem sc_law_equal : FnScope ["told", "due", "k"] ["told", "due"] (defScope s_law_equal) := ⟨rfl, rfl, rfl, by decide +kernel, rfl, by decide +kernel, by decide +kernel⟩
noncomputable def g_law_equal (F_self : FN) : ST :=
  (sSeq (sIf (tTl (eB isiTB (aC (vr 1) (aC (eTup (aC (cn (.ty "tuple")) (aC (cn (.ty "list")) aN))) aN)))) (sSeq (sIf (tO (tNo (tTl (eB isiTB (aC (vr 0) (aC (eTup (aC (cn (.ty "tuple")) (aC (cn (.ty "list")) aN))) aN))))) (tO (tB1 (e2 neD (eB isiB (aC (vr 0) (aC (cn (.ty "tuple")) aN))) (eB isiB (aC (vr 1) (aC (cn (.ty "tuple")) aN))))) (tB1 (e2 neD (eB lenB (aC (vr 0) aN)) (eB lenB (aC (vr 1) aN)))))) (sRet (cn (.bl false))) sSkip)
    (sRet (e2 eqD (eLc (iRg1 (eB lenB (aC (vr 1) aN))) (.n 2) [2] (tNo (tTl (eCall 2 F_self (aC (e2 ixD (vr 0) (vr 2)) (aC (e2 ixD (vr 1) (vr 2)) aN))))) (vr 2)) (eLst aN)))) sSkip)
    (sSeq (sIf (tB1 (e2 isD (vr 1) (cn .non))) (sRet (e2 isD (vr 0) (cn .non))) sSkip)
    (sSeq (sIf (tTl (eB isiB (aC (vr 1) (aC (cn (.ty "str")) aN)))) (sRet (eAn (eB isiB (aC (vr 0) (aC (cn (.ty "str")) aN))) (e2 eqD (vr 0) (vr 1)))) sSkip)
    (sRet (eAn (eB isiB (aC (vr 0) (aC (cn (.ty "int")) aN))) (eAn (e2 eqD (eB isiB (aC (vr 0) (aC (cn (.ty "bool")) aN))) (eB isiB (aC (vr 1) (aC (cn (.ty "bool")) aN)))) (e2 eqD (vr 0) (vr 1))))))))
noncomputable def F_law_equal : Nat → FN
  | 0 => noF
  | r + 1 => fnB 3 2 (g_law_equal (F_law_equal r))
theorem ok_law_equal (B : Blt K w mg) {f : Addr} {fd : FuncData} (h : DefAt K mg "_law_equal" s_law_equal ["told", "due"] f fd)  : ∀ r : Nat, Keeps P w K mg base (0 + r) "_law_equal" ["told", "due"] (F_law_equal r) f fd
  | 0 => keeps_no h
  | r + 1 => keeps_of (k := 0 + r) h sc_law_equal fun cdv A outer s H E hr =>
    have ih := ok_law_equal B h  r
    (ss_cons (c_if (ps_if (t_truth (s_blt (pe_callB call_isiTK (by rfl) B.isinstance (by decide +kernel) (a_cons (s_var (pv 1)) (a_cons (s_tup (a_cons (s_ty (by rfl) B.tuple (by decide +kernel)) (a_cons (s_ty (by rfl) B.list (by decide +kernel)) a_nil))) a_nil))) on_isiT)) (ss_cons (c_if (ps_if (PW.pt (t_or (t_not (t_truth (s_blt (pe_callB call_isiTK (by rfl) B.isinstance (by decide +kernel) (a_cons (s_var (pv 0)) (a_cons (s_tup (a_cons (s_ty (by rfl) B.tuple (by decide +kernel)) (a_cons (s_ty (by rfl) B.list (by decide +kernel)) a_nil))) a_nil))) on_isiT))) (t_or (t_cmp (op_neA hr.units) o2_ne (s_blt (pe_callB call_isi (by rfl) B.isinstance (by decide +kernel) (a_cons (s_var (pv 0)) (a_cons (s_ty (by rfl) B.tuple (by decide +kernel)) a_nil))) on_isi) (s_blt (pe_callB call_isi (by rfl) B.isinstance (by decide +kernel) (a_cons (s_var (pv 1)) (a_cons (s_ty (by rfl) B.tuple (by decide +kernel)) a_nil))) on_isi) (nomark _)) (t_or1 (t_cmp (op_neA hr.units) o2_ne (s_blt (pe_callB call_lenA (by rfl) B.len (by decide +kernel) (a_cons (s_var (pv 0)) a_nil)) on_len) (s_blt (pe_callB call_lenA (by rfl) B.len (by decide +kernel) (a_cons (s_var (pv 1)) a_nil)) on_len) (nomark _)))))) (ss_one (c_ret (ps_ret s_bl))) ss_nil))
    (ss_one (c_ret (ps_ret (s_cmp (op_eqA hr.units) o2_eq (s_lc (pe_lc (own := [("k", 2)]) (g := gT _ (.n 2)) (by rfl) sc_law_equal.nd (i_rg1 (pi_range1 (by rfl) B.range (a_cons (s_blt (pe_callB call_lenA (by rfl) B.len (by decide +kernel) (a_cons (s_var (pv 1)) a_nil)) on_len) a_nil))) (blkOk_by (own := [("k", 2)]) (N := ["told", "due", "k"]) (sc := defScope s_law_equal) (by decide +kernel)) (fun _ _ _ _ _ => (pg_name (i := 2) sc_law_equal.nd rfl (by first | exact Or.inl rfl | exact Or.inr rfl))) (fun _ _ _ _ _ => pts_one (t_not (t_truth (s_own ih (by omega) hr rfl (by rfl) (a_cons (s_ix ix_seq o2_ix (s_var (pv 0)) (s_var (pv 2)) (fun _ _ => rfl)) (a_cons (s_ix ix_seq o2_ix (s_var (pv 1)) (s_var (pv 2)) (fun _ _ => rfl)) a_nil)))))) (fun _ _ _ _ _ => (s_var (pv 2)))) (by decide)) (s_lst a_nil) (nomark _)))))) ss_nil))
    (ss_cons (c_if (ps_if (t_cmp op_isA o2_is (s_var (pv 1)) s_non (nomark _)) (ss_one (c_ret (ps_ret (s_cmp op_isA o2_is (s_var (pv 0)) s_non (nomark _))))) ss_nil))
    (ss_cons (c_if (ps_if (t_truth (s_blt (pe_callB call_isi (by rfl) B.isinstance (by decide +kernel) (a_cons (s_var (pv 1)) (a_cons (s_ty (by rfl) B.str (by decide +kernel)) a_nil))) on_isi)) (ss_one (c_ret (ps_ret (s_and (s_blt (pe_callB call_isi (by rfl) B.isinstance (by decide +kernel) (a_cons (s_var (pv 0)) (a_cons (s_ty (by rfl) B.str (by decide +kernel)) a_nil))) on_isi) (s_one (s_cmp (op_eqA hr.units) o2_eq (s_var (pv 0)) (s_var (pv 1)) (nomark _))))))) ss_nil))
    (ss_one (c_ret (ps_ret (s_and (s_blt (pe_callB call_isi (by rfl) B.isinstance (by decide +kernel) (a_cons (s_var (pv 0)) (a_cons (s_ty (by rfl) B.int (by decide +kernel)) a_nil))) on_isi) (s_and (s_cmp (op_eqA hr.units) o2_eq (s_blt (pe_callB call_isi (by rfl) B.isinstance (by decide +kernel) (a_cons (s_var (pv 0)) (a_cons (s_ty (by rfl) B.bool (by decide +kernel)) a_nil))) on_isi) (s_blt (pe_callB call_isi (by rfl) B.isinstance (by decide +kernel) (a_cons (s_var (pv 1)) (a_cons (s_ty (by rfl) B.bool (by decide +kernel)) a_nil))) on_isi) (nomark _)) (s_one (s_cmp (op_eqA hr.units) o2_eq (s_var (pv 0)) (s_var (pv 1)) (nomark _)))))))))))
abbrev s_law : Stmt := topS 35
theorem sc_law : FnScope ["script", "d", "turn", "program", "due"] ["script"] (defScope s_law) := ⟨rfl, rfl, rfl, by decide +kernel, rfl, by decide +kernel, by decide +kernel⟩
noncomputable def g_law_b1 : ST :=
  (sSeq (sSet 3 (eCall 2 F_law_with_jumps (aC (vr 1) (aC (eCall 3 F_law_program (aC (vr 1) (aC (cn (.int 9)) (aC (cn (.int 5)) aN)))) aN))))
    (sSeq (sSet 4 (eCall 1 F_law_jumps (aC (vr 3) aN)))
    (sIf (tAn (tB1 (e2 isNotD (vr 4) (cn .non))) (tNo (tTl (eCall 2 (F_law_equal 12) (aC (eCall 1 F_jumps (aC (vr 3) aN)) (aC (vr 4) aN)))))) (sRet (cn (.bl false))) sSkip)))
noncomputable def g_law : ST :=
  (sSeq (sSet 1 (eCall 1 F_law_start (aC (vr 0) aN)))
    (sSeq (sFor (.n 2) (iRg1 (cn (.int 3))) g_law_b1)
    (sRet (cn (.bl true)))))
noncomputable def F_law : FN := fnB 5 1 g_law
theorem ok_law (B : Blt K w mg) {f : Addr} {fd : FuncData} (h : DefAt K mg "law" s_law ["script"] f fd) {f0 : Addr} {fd0 : FuncData} (h_law_start : Keeps P w K mg base 2 "_law_start" ["script"] F_law_start f0 fd0) {f1 : Addr} {fd1 : FuncData} (h_law_with_jumps : Keeps P w K mg base 2 "_law_with_jumps" ["d", "program"] F_law_with_jumps f1 fd1) {f2 : Addr} {fd2 : FuncData} (h_law_program : Keeps P w K mg base 4 "_law_program" ["d", "most", "regs"] F_law_program f2 fd2) {f3 : Addr} {fd3 : FuncData} (h_law_jumps : Keeps P w K mg base 4 "_law_jumps" ["program"] F_law_jumps f3 fd3) {f4 : Addr} {fd4 : FuncData} (h_law_equal : Keeps P w K mg base 12 "_law_equal" ["told", "due"] (F_law_equal 12) f4 fd4) {f5 : Addr} {fd5 : FuncData} (h_jumps : Keeps P w K mg base 4 "jumps" ["program"] F_jumps f5 fd5) : Keeps P w K mg base 13 "law" ["script"] F_law f fd :=
  keeps_of h sc_law fun cdv A outer s H E hr =>
    (ss_cons (c_set (ps_set (i := 1) sc_law.nd rfl (by first | exact Or.inl rfl | exact Or.inr rfl) (s_own h_law_start (by decide) hr rfl (by rfl) (a_cons (s_var (pv 0)) a_nil))))
    (ss_cons (c_for (t := (.n 2)) (ps_for PassesOwn.never rfl (i_rg1 (pi_range1 (by rfl) B.range (a_cons s_int a_nil))) (pg_name (i := 2) sc_law.nd rfl (by first | exact Or.inl rfl | exact Or.inr rfl)) (ss_cons (c_set (ps_set (i := 3) sc_law.nd rfl (by first | exact Or.inl rfl | exact Or.inr rfl) (s_own h_law_with_jumps (by decide) hr rfl (by rfl) (a_cons (s_var (pv 1)) (a_cons (s_own h_law_program (by decide) hr rfl (by rfl) (a_cons (s_var (pv 1)) (a_cons s_int (a_cons s_int a_nil)))) a_nil)))))
    (ss_cons (c_set (ps_set (i := 4) sc_law.nd rfl (by first | exact Or.inl rfl | exact Or.inr rfl) (s_own h_law_jumps (by decide) hr rfl (by rfl) (a_cons (s_var (pv 3)) a_nil))))
    (ss_one (c_if (ps_if (PW.pt (t_and (t_cmp op_isNotA o2_isNot (s_var (pv 4)) s_non (nomark _)) (t_and1 (t_not (t_truth (s_own h_law_equal (by decide) hr rfl (by rfl) (a_cons (s_own h_jumps (by decide) hr rfl (by rfl) (a_cons (s_var (pv 3)) a_nil)) (a_cons (s_var (pv 4)) a_nil)))))))) (ss_one (c_ret (ps_ret s_bl))) ss_nil)))))))
    (ss_one (c_ret (ps_ret s_bl)))))
end
end My

set_option Elab.async false
set_option linter.all false
set_option maxRecDepth 100000
set_option maxHeartbeats 4000000
namespace My
open PySem PySem.Spec PyProof.Rows L2 Mi
local macro_rules | `(tactic| walk_at "mi") => `(tactic| try simp only [↓w_vr, ↓w_cn, ↓w_e2, ↓w_tup, ↓w_lst, ↓w_aN, ↓w_aC, ↓w_call, ↓w_B, ↓w_M, ↓w_oN, ↓w_oS, ↓w_sl, ↓w_B1, ↓w_Tl, ↓w_An, ↓w_Or, ↓w_No, ↓w_eAn, ↓w_eO, ↓w_eNo, ↓w_eNeg, ↓w_eIf, ↓w_ch, ↓w_Dn, ↓w_lRg1, ↓w_trg1, ↓w_yes, ↓ws_forS, ↓ws_forG, ↓w_lcS, ↓w_lcG, ↓w_dcS, ↓w_dcG, items_tup, items_rol, ↓ws_seq, ↓ws_skip, ↓ws_set, ↓ws_ex, ↓ws_ret, ↓ws_retN, ↓ws_bk, ↓ws_ct, ↓ws_if, ↓ws_asg, ↓ws_dput, ↓ws_daug, ↓ws_lput, ↓ws_aug, ↓wp_some, ↓wp_none, ↓wp_if, ↓wp_map, ↓wf_ok, ↓asI_int, ↓asBl_bl,
  List.getElem?_cons_zero, List.getElem?_cons_succ, List.set_cons_zero, List.set_cons_succ, opI_int, addD_int, mulD_int, intB_int, intB_bl, absB_int, lenB_rol, lenB_tup, ixD_rol, ixD_tup, atI0, atI1, atI2, atI3, atI4, asgT_n, tyQ, appQ, slQ, slD_tup, wipeE, List.length_cons, List.length_nil, List.length_map, true_and, and_true, decide_true, ↓reduceIte, bl_t, List.map_cons, List.map_nil, List.cons_append, List.nil_append, List.replicate_succ, List.replicate_zero, Nat.reduceAdd, Nat.reduceLeDiff, Int.reduceLT, Int.reduceLE, Int.reduceNeg, Int.reduceSub, eqD_str, eqD_int, neD_int, ofStr_eq, String.reduceEq, decide_false, decide_true, in_tup, flatD_str, flatD_int, List.all_cons, List.all_nil, List.any_cons, List.any_nil, eqF_str, Bool.and_true, Bool.and_self, Bool.or_false, Bool.or_true, Bool.true_or, Bool.false_or, Bool.false_eq_true, Bool.not_true, Bool.not_false, in_top, ixD_top, tupB_top, items_top, lenB_top, tru_bl, asgT_2, asgT_3, ↓w_pN, ↓w_pC, ↓w_Dct, ixD_tup, Int.cast_ofNat_Int, Int.reduceEq, ↓w_DGet2, ↓w_callV, ↓ws_laug])

inductive Row where
  | const (d n : Int) | copy (d a : Int) | op (g : Str) (d a b : Int) | select (d c a b : Int) | load (d i a : Int) | store (i a v : Int)
  | out (a : Int) | jump (t : Int) | branch (a t u : Int) | stop (a : Int)
def Row.enc : Row → D
  | .const d n => .tup [.str "const", .int d, .int n]
  | .copy d a => .tup [.str "copy", .int d, .int a]
  | .op g d a b => .tup [.str "op", .str g, .int d, .int a, .int b]
  | .select d c a b => .tup [.str "select", .int d, .int c, .int a, .int b]
  | .load d i a => .tup [.str "load", .int d, .int i, .int a]
  | .store i a v => .tup [.str "store", .int i, .int a, .int v]
  | .out a => .tup [.str "out", .int a]
  | .jump t => .tup [.str "jump", .int t]
  | .branch a t u => .tup [.str "branch", .int a, .int t, .int u]
  | .stop a => .tup [.str "stop", .int a]
/-- a block: its rows, its last row -/
abbrev Bk := List Row × Row
def encK (b : Bk) : D := .tup (b.1.map Row.enc ++ [b.2.enc])
def Row.isLast : Row → Bool
  | .jump _ => true
  | .branch _ _ _ => true
  | .stop _ => true
  | _ => false
def Row.ways : Row → List Int
  | .jump t => [t]
  | .branch _ t u => [t, u]
  | _ => []
/-- blocks that lead to blocks -/
structure BsOk (bs : List Bk) : Prop where
  ne : 0 < bs.length
  le : bs.length ≤ 100
  la : ∀ b ∈ bs, b.2.isLast = true
  inn : ∀ b ∈ bs, ∀ r ∈ b.1, r.isLast = false
  to : ∀ b ∈ bs, ∀ t ∈ b.2.ways, 0 ≤ t ∧ t < bs.length
  sz : ∀ b ∈ bs, b.1.length ≤ 10000
theorem last_ix {b : Bk} {s : S} : ixD (encK b) (.int (-1)) s = some (b.2.enc, s) := by
  unfold encK
  rw [ixD_tup, atI_last (l := b.2.enc) (by rw [List.getLast?_concat])]; rfl
theorem ways_ok {b : Bk} {s : S} {Q : D → S → Prop} (hl : b.2.isLast = true) : WF (F_ways [encK b] s) Q ↔ Q (.tup (b.2.ways.map D.int)) s := by
  unfold F_ways
  refine (wf_fn (by rfl)).trans ?_
  unfold g_ways
  walk_at "mi"
  rw [last_ix]
  walk_at "mi"
  obtain ⟨rs, r⟩ := b
  cases r <;> first | (cases hl; done) | skip
  all_goals
    unfold Row.enc
    walk_at "mi"
    rfl
def alone (b : Bk) : Bool := b.1.isEmpty && (match b.2 with | .jump _ => true | _ => false)
theorem alone_ok {b : Bk} {s : S} {Q : D → S → Prop} (hl : b.2.isLast = true) (hi : ∀ r ∈ b.1, r.isLast = false) : WF (F_is_alone [encK b] s) Q ↔ Q (.bl (alone b)) s := by
  unfold F_is_alone
  refine (wf_fn (by rfl)).trans ?_
  unfold g_is_alone
  obtain ⟨rs, r⟩ := b
  unfold encK alone
  cases rs with
  | nil =>
    walk_at "mi"
    cases r <;> first | (cases hl; done) | skip
    all_goals
      unfold Row.enc
      walk_at "mi"
      rfl
  | cons r0 rs =>
    have e : ¬ ((((rs.map Row.enc ++ [r.enc]).length + 1 : Nat) : Int) = 1) := by
      rw [List.length_append, List.length_map, List.length_singleton]; omega
    walk_at "mi"
    rw [if_neg e]
    rfl
/-- bs with another last row at i -/
def setLast (bs : List Bk) (i : Nat) (r : Row) : List Bk := match bs[i]? with
  | some b => bs.set i (b.1, r)
  | none => bs
theorem setLast_enc {bs : List Bk} {i : Nat} {b : Bk} {r : Row} (h : bs[i]? = some b) : (setLast bs i r).map encK = (bs.map encK).take i ++ (encK (b.1, r) :: (bs.map encK).drop (i + 1)) := by
  unfold setLast
  rw [h]
  dsimp only
  have hi := (List.getElem?_eq_some_iff.mp h).1
  rw [List.map_set, List.set_eq_take_append_cons_drop, if_pos (by rw [List.length_map]; exact hi)]
theorem with_last_ok {bs : List Bk} {i : Nat} {b : Bk} {r : Row} {s : S} {Q : D → S → Prop} (h : bs[i]? = some b) (hlen : bs.length ≤ 100) (hb : b.1.length ≤ 10000) : WF (F_with_last [.tup (bs.map encK), .int (i : Int), r.enc] s) Q ↔ Q (.tup ((setLast bs i r).map encK)) s := by
  unfold F_with_last
  refine (wf_fn (by rfl)).trans ?_
  unfold g_with_last
  have hi := (List.getElem?_eq_some_iff.mp h).1
  have hix : atI (bs.map encK) (i : Int) = some (encK b) := atI_nat' (by rw [List.getElem?_map, h]; rfl)
  walk_at "mi"
  rw [cutD_take, hix]
  walk_at "mi"
  have hsl : slD (encK b) none (some (-1)) s = some (.tup (b.1.map Row.enc), s) := by
    unfold encK
    rw [slD_tup, cutD_init, List.dropLast_concat]
  rw [hsl]
  walk_at "mi"
  rw [addD_tup, if_pos (by rw [List.length_map, List.length_singleton]; omega)]
  walk_at "mi"
  rw [addD_tup, if_pos (by rw [List.length_take, List.length_map, List.length_singleton]; omega)]
  walk_at "mi"
  rw [show (i : Int) + 1 = ((i + 1 : Nat) : Int) by omega, cutD_drop, addD_tup, if_pos (by rw [List.length_append, List.length_take, List.length_drop, List.length_map, List.length_singleton]; omega)]
  walk_at "mi"
  rw [setLast_enc h, List.append_assoc]
  rfl
/-! ### the first place that gives something -/
theorem first_some {α : Type} {f : Nat → Option α} {x : α} : ∀ {n i : Nat}, i < n → (∀ j, j < i → f j = none) → f i = some x → (List.range n).findSome? f = some x := by
  intro n i hi h hx
  induction n with
  | zero => omega
  | succ n ih =>
    rw [List.range_succ, List.findSome?_append]
    by_cases c : i < n
    · rw [ih c]; rfl
    · have : i = n := by omega
      subst this
      have : (List.range i).findSome? f = none := List.findSome?_eq_none_iff.mpr fun j hj => h j (List.mem_range.mp hj)
      rw [this, List.findSome?_cons, hx]; rfl
theorem first_none {α : Type} {f : Nat → Option α} {n : Nat} (h : ∀ j, j < n → f j = none) : (List.range n).findSome? f = none := List.findSome?_eq_none_iff.mpr fun j hj => h j (List.mem_range.mp hj)
def oneAt (bs : List Bk) (i : Nat) : Option (List Bk) := match bs[i]? with
  | some (_, .branch _ t u) => if t = u then some (setLast bs i (.jump t)) else none
  | _ => none
def oneWay (bs : List Bk) : Option (List Bk) := (List.range bs.length).findSome? (oneAt bs)
def optE : Option (List Bk) → D
  | none => .non
  | some bs => .tup (bs.map encK)
theorem one_way_ok {bs : List Bk} {s : S} {Q : D → S → Prop} (hb : BsOk bs) (k : Q (optE (oneWay bs)) s) : WF (F_one_way [.tup (bs.map encK)] s) Q := by
  unfold F_one_way
  refine (wf_fn (by rfl)).mpr ?_
  unfold g_one_way
  have hle := hb.le
  walk_at "mi"
  refine ⟨by omega, ?_⟩
  rw [Int.toNat_natCast]
  refine fs_rng (fun i env st => st = s ∧ (∃ x1 x2, env = [some (.tup (bs.map encK)), x1, x2]) ∧ ∀ j, j < i → oneAt bs j = none) ⟨rfl, ⟨_, _, rfl⟩, fun j h => by omega⟩ ?_ ?_
  · rintro i env st hi ⟨rfl, ⟨x1, x2, rfl⟩, hn⟩
    obtain ⟨b, hbi⟩ : ∃ b, bs[i]? = some b := ⟨_, List.getElem?_eq_getElem hi⟩
    have hix : atI (bs.map encK) (i : Int) = some (encK b) := atI_nat' (by rw [List.getElem?_map, hbi]; rfl)
    have hm := List.mem_of_getElem? hbi
    have hlb := hb.la b hm
    unfold g_one_way_b1
    walk_at "mi"
    rw [hix]
    walk_at "mi"
    rw [last_ix]
    walk_at "mi"
    have nx : oneAt bs i = none → ∀ j, j < i + 1 → oneAt bs j = none := fun z j hj => by
      by_cases c : j = i
      · rw [c]; exact z
      · exact hn j (by omega)
    obtain ⟨rs, r⟩ := b
    cases r with
    | branch a t u =>
      unfold Row.enc
      walk_at "mi"
      by_cases c : t = u
      · have e : oneAt bs i = some (setLast bs i (.jump t)) := by unfold oneAt; rw [hbi]; exact if_pos c
        have e2 : oneWay bs = some (setLast bs i (.jump t)) := first_some hi hn e
        rw [e2] at k
        simp only [c, ↓reduceIte]
        subst c
        exact (with_last_ok (r := .jump t) hbi hle (hb.sz _ hm)).mpr k
      · have e : oneAt bs i = none := by unfold oneAt; rw [hbi]; exact if_neg c
        simp only [c, ↓reduceIte]
        exact ⟨⟨_, _, rfl⟩, nx e⟩
    | jump t =>
      have e : oneAt bs i = none := by unfold oneAt; rw [hbi]
      unfold Row.enc
      walk_at "mi"
      exact ⟨⟨_, _, rfl⟩, nx e⟩
    | stop t =>
      have e : oneAt bs i = none := by unfold oneAt; rw [hbi]
      unfold Row.enc
      walk_at "mi"
      exact ⟨⟨_, _, rfl⟩, nx e⟩
    | _ => cases hlb
  · rintro env st ⟨rfl, ⟨x1, x2, rfl⟩, hn⟩
    have e2 : oneWay bs = none := first_none hn
    rw [e2] at k
    walk_at "mi"
    exact k
end My

set_option Elab.async false
set_option linter.all false
set_option maxRecDepth 100000
set_option maxHeartbeats 4000000
namespace My
open PySem PySem.Spec PyProof.Rows L2 Mi
local macro_rules | `(tactic| walk_at "mi") => `(tactic| try simp only [↓w_vr, ↓w_cn, ↓w_e2, ↓w_tup, ↓w_lst, ↓w_aN, ↓w_aC, ↓w_call, ↓w_B, ↓w_M, ↓w_oN, ↓w_oS, ↓w_sl, ↓w_B1, ↓w_Tl, ↓w_An, ↓w_Or, ↓w_No, ↓w_eAn, ↓w_eO, ↓w_eNo, ↓w_eNeg, ↓w_eIf, ↓w_ch, ↓w_Dn, ↓w_lRg1, ↓w_trg1, ↓w_yes, ↓ws_forS, ↓ws_forG, ↓w_lcS, ↓w_lcG, ↓w_dcS, ↓w_dcG, items_tup, items_rol, ↓ws_seq, ↓ws_skip, ↓ws_set, ↓ws_ex, ↓ws_ret, ↓ws_retN, ↓ws_bk, ↓ws_ct, ↓ws_if, ↓ws_asg, ↓ws_dput, ↓ws_daug, ↓ws_lput, ↓ws_aug, ↓wp_some, ↓wp_none, ↓wp_if, ↓wp_map, ↓wf_ok, ↓asI_int, ↓asBl_bl,
  List.getElem?_cons_zero, List.getElem?_cons_succ, List.set_cons_zero, List.set_cons_succ, opI_int, addD_int, mulD_int, intB_int, intB_bl, absB_int, lenB_rol, lenB_tup, ixD_rol, ixD_tup, atI0, atI1, atI2, atI3, atI4, asgT_n, tyQ, appQ, slQ, slD_tup, wipeE, List.length_cons, List.length_nil, List.length_map, true_and, and_true, decide_true, ↓reduceIte, bl_t, List.map_cons, List.map_nil, List.cons_append, List.nil_append, List.replicate_succ, List.replicate_zero, Nat.reduceAdd, Nat.reduceLeDiff, Int.reduceLT, Int.reduceLE, Int.reduceNeg, Int.reduceSub, eqD_str, eqD_int, neD_int, ofStr_eq, String.reduceEq, decide_false, decide_true, in_tup, flatD_str, flatD_int, List.all_cons, List.all_nil, List.any_cons, List.any_nil, eqF_str, Bool.and_true, Bool.and_self, Bool.or_false, Bool.or_true, Bool.true_or, Bool.false_or, Bool.false_eq_true, Bool.not_true, Bool.not_false, in_top, ixD_top, tupB_top, items_top, lenB_top, tru_bl, asgT_2, asgT_3, ↓w_pN, ↓w_pC, ↓w_Dct, ixD_tup, Int.cast_ofNat_Int, Int.reduceEq, ↓w_DGet2, ↓w_callV, ↓ws_laug])

/-! ### where a chain of lone jumps ends -/
def nx (bs : List Bk) (i : Nat) : Option Nat := match bs[i]? with
  | some ([], .jump t) => some t.toNat
  | _ => none
def go (bs : List Bk) : Nat → Nat → Int
  | 0, _ => -1
  | n + 1, i => match nx bs i with
    | none => (i : Int)
    | some j => go bs n j
def endOf (bs : List Bk) (i : Nat) : Int := go bs (bs.length + 1) i
theorem go_ring {bs : List Bk} {V : List Int} (h : ∀ x ∈ V, ∃ y : Nat, nx bs x.toNat = some y ∧ (y : Int) ∈ V) : ∀ (n : Nat) (x : Int), x ∈ V → go bs n x.toNat = -1
  | 0, _, _ => rfl
  | n + 1, x, hx => by
    obtain ⟨y, e, hy⟩ := h x hx
    show (match nx bs x.toNat with | none => (x.toNat : Int) | some j => go bs n j) = -1
    rw [e]
    have := go_ring h n (y : Int) hy
    rwa [Int.toNat_natCast] at this
theorem nx_alone {bs : List Bk} {i : Nat} {b : Bk} (h : bs[i]? = some b) : alone b = (nx bs i).isSome := by
  unfold nx alone
  rw [h]
  obtain ⟨rs, r⟩ := b
  cases rs with
  | nil => cases r <;> rfl
  | cons => rfl
theorem end_ok {bs : List Bk} {i : Nat} {s : S} {Q : D → S → Prop} (hb : BsOk bs) (hi : i < bs.length) (k : ∀ s', Gr s s' → Q (.int (endOf bs i)) s') : WF (F_end_from [.tup (bs.map encK), .int (i : Int)] s) Q := by
  unfold F_end_from
  refine (wf_fn (by rfl)).mpr ?_
  unfold g_end_from
  walk_at "mi"
  refine ws_while (fun m env st => ∃ (V : List Int) (c : Nat), env = [some (.tup (bs.map encK)), some (.int (c : Int)), some (.ref s.length)] ∧ Gr s st ∧ st[s.length]? = some (.dct (keysL V)) ∧ c < bs.length ∧ V.Nodup ∧ (∀ x ∈ V, 0 ≤ x ∧ x < bs.length) ∧ (∀ x ∈ V, ∃ y : Nat, nx bs x.toNat = some y ∧ ((y : Int) ∈ V ∨ y = c)) ∧ (∀ n, go bs (V.length + n) i = go bs n c) ∧ ((i : Int) ∈ V ∨ (V = [] ∧ i = c)) ∧ m = bs.length - V.length) bs.length (by have := hb.le; omega)
    ⟨[], i, rfl, Gr.app _ _, top_get, hi, List.nodup_nil, fun _ h => (by cases h), fun _ h => (by cases h), fun n => by rw [List.length_nil, Nat.zero_add], Or.inr ⟨rfl, rfl⟩, by simp⟩ ?_
  rintro m env st ⟨V, c, rfl, hG, hg, hc, hnd, hr, hcl, hgo, hin, rfl⟩
  obtain ⟨b, hbc⟩ : ∃ b, bs[c]? = some b := ⟨_, List.getElem?_eq_getElem hc⟩
  have hm := List.mem_of_getElem? hbc
  have hix : atI (bs.map encK) (c : Int) = some (encK b) := atI_nat' (by rw [List.getElem?_map, hbc]; rfl)
  have hVl := nodup_le bs.length V hnd hr
  walk_at "mi"
  rw [hix]
  walk_at "mi"
  rw [alone_ok (hb.la b hm) (hb.inn b hm), nx_alone hbc]
  walk_at "mi"
  cases hnx : nx bs c with
  | none =>
    simp only [Option.isSome_none, Bool.false_eq_true, ↓reduceIte]
    have e : endOf bs i = (c : Int) := by
      unfold endOf
      rw [show bs.length + 1 = V.length + ((bs.length - V.length) + 1) by omega, hgo]
      show (match nx bs c with | none => (c : Int) | some j => go bs _ j) = _
      rw [hnx]
    rw [← e]
    exact k _ hG
  | some y =>
    simp only [Option.isSome_some, ↓reduceIte]
    unfold g_end_from_b1
    walk_at "mi"
    rw [din_L hg]
    walk_at "mi"
    have hb2 : b = ([], b.2) ∧ ∃ t, b.2 = .jump t ∧ t.toNat = y := by
      unfold nx at hnx
      rw [hbc] at hnx
      obtain ⟨rs, r⟩ := b
      cases rs with
      | nil => cases r <;> first | exact ⟨rfl, _, rfl, Option.some.inj hnx⟩ | cases hnx
      | cons => cases hnx
    obtain ⟨hb1, t, hbt, hty⟩ := hb2
    by_cases hcV : (c : Int) ∈ V
    · simp only [hcV, decide_true, ↓reduceIte]
      have hiV : (i : Int) ∈ V := hin.elim id fun z => by rw [z.1] at hcV; cases hcV
      have hring : ∀ x ∈ V, ∃ y : Nat, nx bs x.toNat = some y ∧ (y : Int) ∈ V := fun x hx => by
        obtain ⟨y, e, h⟩ := hcl x hx
        exact ⟨y, e, h.elim id fun z => z ▸ hcV⟩
      have e : endOf bs i = -1 := by
        have := go_ring hring (bs.length + 1) (i : Int) hiV
        rwa [Int.toNat_natCast] at this
      rw [← e]
      exact k _ hG
    · simp only [hcV, decide_false, Bool.false_eq_true, ↓reduceIte]
      have hV9 := hb.le
      rw [dput_k hg (by rfl), put_keys, if_pos (by rw [keysL_length]; omega)]
      walk_at "mi"
      rw [hix]
      walk_at "mi"
      have ht := hb.to b hm t (by rw [hbt]; exact List.mem_singleton.mpr rfl)
      have hyl : y < bs.length := by omega
      have ead : addL V (c : Int) = V ++ [(c : Int)] := by unfold addL; rw [if_neg hcV]
      have hVl2 := nodup_le bs.length (V ++ [(c : Int)]) (List.nodup_append.mpr ⟨hnd, (by simp), fun a ha x hx z => hcV (by rw [List.mem_singleton.mp hx] at z; exact z ▸ ha)⟩) (fun x hx => by
        rcases List.mem_append.mp hx with h | h
        · exact hr x h
        · rw [List.mem_singleton.mp h]; omega)
      rw [List.length_append, List.length_singleton] at hVl2
      rw [hb1]
      unfold encK
      rw [hbt]
      unfold Row.enc
      walk_at "mi"
      rw [ead]
      refine ⟨bs.length - (V.length + 1), by omega, V ++ [(c : Int)], y, by rw [show t = (y : Int) by omega], hG.set (Nat.le_refl _), List.getElem?_set_self (List.getElem?_eq_some_iff.mp hg).1, hyl, ?_, ?_, ?_, ?_, ?_, by rw [List.length_append, List.length_singleton]⟩
      · exact List.nodup_append.mpr ⟨hnd, (by simp), fun a ha x hx z => hcV (by rw [List.mem_singleton.mp hx] at z; exact z ▸ ha)⟩
      · intro x hx
        rcases List.mem_append.mp hx with h | h
        · exact hr x h
        · rw [List.mem_singleton.mp h]; omega
      · intro x hx
        rcases List.mem_append.mp hx with h | h
        · obtain ⟨z, e, h⟩ := hcl x h
          refine ⟨z, e, Or.inl (List.mem_append.mpr (h.elim Or.inl fun q => Or.inr (by rw [q]; exact List.mem_singleton.mpr rfl)))⟩
        · rw [List.mem_singleton.mp h]
          exact ⟨y, by rw [Int.toNat_natCast]; exact hnx, Or.inr rfl⟩
      · intro n
        rw [List.length_append, List.length_singleton, show V.length + 1 + n = V.length + (n + 1) by omega, hgo]
        show (match nx bs c with | none => (c : Int) | some j => go bs n j) = _
        rw [hnx]
      · rcases hin with h | ⟨h, h2⟩
        · exact Or.inl (List.mem_append.mpr (Or.inl h))
        · exact Or.inl (List.mem_append.mpr (Or.inr (by rw [h2]; exact List.mem_singleton.mpr rfl)))
end My

set_option Elab.async false
set_option linter.all false
set_option maxRecDepth 100000
set_option maxHeartbeats 4000000
namespace My
open PySem PySem.Spec PyProof.Rows L2 Mi
local macro_rules | `(tactic| walk_at "mi") => `(tactic| try simp only [↓w_vr, ↓w_cn, ↓w_e2, ↓w_tup, ↓w_lst, ↓w_aN, ↓w_aC, ↓w_call, ↓w_B, ↓w_M, ↓w_oN, ↓w_oS, ↓w_sl, ↓w_B1, ↓w_Tl, ↓w_An, ↓w_Or, ↓w_No, ↓w_eAn, ↓w_eO, ↓w_eNo, ↓w_eNeg, ↓w_eIf, ↓w_ch, ↓w_Dn, ↓w_lRg1, ↓w_trg1, ↓w_yes, ↓ws_forS, ↓ws_forG, ↓w_lcS, ↓w_lcG, ↓w_dcS, ↓w_dcG, items_tup, items_rol, ↓ws_seq, ↓ws_skip, ↓ws_set, ↓ws_ex, ↓ws_ret, ↓ws_retN, ↓ws_bk, ↓ws_ct, ↓ws_if, ↓ws_asg, ↓ws_dput, ↓ws_daug, ↓ws_lput, ↓ws_aug, ↓wp_some, ↓wp_none, ↓wp_if, ↓wp_map, ↓wf_ok, ↓asI_int, ↓asBl_bl,
  List.getElem?_cons_zero, List.getElem?_cons_succ, List.set_cons_zero, List.set_cons_succ, opI_int, addD_int, mulD_int, intB_int, intB_bl, absB_int, lenB_rol, lenB_tup, ixD_rol, ixD_tup, atI0, atI1, atI2, atI3, atI4, asgT_n, tyQ, appQ, slQ, slD_tup, wipeE, List.length_cons, List.length_nil, List.length_map, true_and, and_true, decide_true, ↓reduceIte, bl_t, List.map_cons, List.map_nil, List.cons_append, List.nil_append, List.replicate_succ, List.replicate_zero, Nat.reduceAdd, Nat.reduceLeDiff, Int.reduceLT, Int.reduceLE, Int.reduceNeg, Int.reduceSub, eqD_str, eqD_int, neD_int, ofStr_eq, String.reduceEq, decide_false, decide_true, in_tup, flatD_str, flatD_int, List.all_cons, List.all_nil, List.any_cons, List.any_nil, eqF_str, Bool.and_true, Bool.and_self, Bool.or_false, Bool.or_true, Bool.true_or, Bool.false_or, Bool.false_eq_true, Bool.not_true, Bool.not_false, in_top, ixD_top, tupB_top, items_top, lenB_top, tru_bl, asgT_2, asgT_3, ↓w_pN, ↓w_pC, ↓w_Dct, ixD_tup, Int.cast_ofNat_Int, Int.reduceEq, ↓w_DGet2, ↓w_callV, ↓ws_laug])

/-- the places of a row's targets: the target, the row with another there -/
def Row.slots : Row → List (Int × (Int → Row))
  | .jump t => [(t, .jump)]
  | .branch a t u => [(t, fun e => .branch a e u), (u, fun e => .branch a t e)]
  | _ => []
def shortSlot (bs : List Bk) (i : Nat) (x : Int × (Int → Row)) : Option (List Bk) :=
  if (nx bs x.1.toNat).isSome = true ∧ 0 ≤ endOf bs x.1.toNat then some (setLast bs i (x.2 (endOf bs x.1.toNat))) else none
def shortAt (bs : List Bk) (i : Nat) : Option (List Bk) := match bs[i]? with
  | some (_, r) => r.slots.findSome? (shortSlot bs i)
  | none => none
def shortened (bs : List Bk) : Option (List Bk) := (List.range bs.length).findSome? (shortAt bs)
/-- one place of a row -/
theorem slot_ok {bs : List Bk} {i : Nat} {t : Int} {f : Int → Row} {r : Row} {rs : List Row} {pl : Nat} {s : S} {x3 x5 : Option D} {N B C : Mi.Env → S → Prop} {Q : D → S → Prop} (hb : BsOk bs) (hi : bs[i]? = some (rs, r)) (ht : 0 ≤ t ∧ t < bs.length)
    (hpl : ∀ s, ixD r.enc (.int (pl : Int)) s = some (.int t, s)) (hput : ∀ (e : Int) (s : S), ∃ a c, slD r.enc none (some (pl : Int)) s = some (.tup a, s) ∧ slD r.enc (some ((pl : Int) + 1)) none s = some (.tup c, s) ∧ (f e).enc = .tup (a ++ [.int e] ++ c) ∧ a.length ≤ 5 ∧ c.length ≤ 5)
    (kN : ∀ x5 s', Gr s s' → shortSlot bs i (t, f) = none → N [some (.tup (bs.map encK)), some (.int (i : Int)), some r.enc, x3, some (.int (pl : Int)), x5] s')
    (kQ : ∀ bs' s', Gr s s' → shortSlot bs i (t, f) = some bs' → Q (.tup (bs'.map encK)) s') :
    WS g_shortened_b1 [some (.tup (bs.map encK)), some (.int (i : Int)), some r.enc, x3, some (.int (pl : Int)), x5] s N Q B C := by
  unfold g_shortened_b1
  obtain ⟨b, hbt⟩ : ∃ b, bs[t.toNat]? = some b := ⟨_, List.getElem?_eq_getElem (by omega)⟩
  have hm := List.mem_of_getElem? hbt
  have htt : t = (t.toNat : Int) := by omega
  have hix : atI (bs.map encK) t = some (encK b) := by rw [htt]; exact atI_nat' (by rw [List.getElem?_map, hbt]; rfl)
  walk_at "mi"
  rw [hpl]
  walk_at "mi"
  rw [hix]
  walk_at "mi"
  rw [alone_ok (hb.la b hm) (hb.inn b hm), nx_alone hbt]
  walk_at "mi"
  unfold shortSlot at kN kQ
  cases hn : (nx bs t.toNat).isSome with
  | false =>
    rw [hn] at kN
    simp only [Bool.false_eq_true, ↓reduceIte]
    exact kN _ _ (Gr.refl _) (by simp)
  | true =>
    rw [hn] at kN kQ
    simp only [↓reduceIte]
    rw [hpl]
    walk_at "mi"
    rw [htt]
    refine end_ok hb (by omega) fun s1 hG => ?_
    walk_at "mi"
    generalize he : endOf bs t.toNat = e at *
    by_cases h0 : 0 ≤ e
    · simp only [h0, ↓reduceIte]
      obtain ⟨a, c, h1, h2, h3, h4, h5⟩ := hput e s1
      rw [h1]
      walk_at "mi"
      rw [addD_tup, if_pos (by rw [List.length_singleton]; omega)]
      walk_at "mi"
      rw [h2]
      walk_at "mi"
      rw [addD_tup, if_pos (by rw [List.length_append, List.length_singleton]; omega)]
      walk_at "mi"
      rw [← h3, with_last_ok (r := f e) hi hb.le (hb.sz _ (List.mem_of_getElem? hi))]
      exact kQ _ _ hG (by simp [h0])
    · simp only [h0, ↓reduceIte]
      exact kN _ _ hG (by simp [h0])
def plK : List (Key × D) := [(Sum.inr "jump", D.tup [.int 1]), (Sum.inr "branch", D.tup [.int 2, .int 3])]
theorem plK_keyed : keyed [(D.str "jump", D.tup [.int 1]), (D.str "branch", D.tup [.int 2, .int 3])] = some plK := by kernel_rfl
theorem plK_merge : mergeD [] plK = plK := by kernel_rfl
theorem plK_jump : valD plK (.inr "jump") = some (.tup [.int 1]) := by kernel_rfl
theorem plK_branch : valD plK (.inr "branch") = some (.tup [.int 2, .int 3]) := by kernel_rfl
theorem plK_stop : valD plK (.inr "stop") = none := by kernel_rfl
theorem shortened_ok {bs : List Bk} {s : S} {Q : D → S → Prop} (hb : BsOk bs) (k : ∀ s', Gr s s' → Q (optE (shortened bs)) s') : WF (F_shortened [.tup (bs.map encK)] s) Q := by
  unfold F_shortened
  refine (wf_fn (by rfl)).mpr ?_
  unfold g_shortened
  have hle := hb.le
  walk_at "mi"
  refine ⟨by omega, ?_⟩
  rw [Int.toNat_natCast]
  refine fs_rng (fun i env st => Gr s st ∧ (∃ x1 x2 x3 x4 x5, env = [some (.tup (bs.map encK)), x1, x2, x3, x4, x5]) ∧ ∀ j, j < i → shortAt bs j = none) ⟨Gr.refl _, ⟨_, _, _, _, _, rfl⟩, fun j h => by omega⟩ ?_ ?_
  · rintro i env st hi ⟨hG, ⟨x1, x2, x3, x4, x5, rfl⟩, hn⟩
    obtain ⟨b, hbi⟩ : ∃ b, bs[i]? = some b := ⟨_, List.getElem?_eq_getElem hi⟩
    have hix : atI (bs.map encK) (i : Int) = some (encK b) := atI_nat' (by rw [List.getElem?_map, hbi]; rfl)
    have hm := List.mem_of_getElem? hbi
    have hlb := hb.la b hm
    have hto := hb.to b hm
    unfold g_shortened_b2
    walk_at "mi"
    rw [hix]
    walk_at "mi"
    rw [last_ix]
    walk_at "mi"
    rw [plK_keyed, wp_some]
    refine ⟨by decide, ?_⟩
    rw [plK_merge]
    have nxt : shortAt bs i = none → ∀ j, j < i + 1 → shortAt bs j = none := fun z j hj => by
      by_cases c : j = i
      · rw [c]; exact z
      · exact hn j (by omega)
    obtain ⟨rs, r⟩ := b
    have hsl : ∀ bs', r.slots.findSome? (shortSlot bs i) = some bs' → shortened bs = some bs' := fun bs' z => first_some hi hn (by unfold shortAt; rw [hbi]; exact z)
    have hG1 : Gr s (st ++ [O.dct plK]) := hG.trans (Gr.app _ _)
    cases r with
    | stop a =>
      have e : shortAt bs i = none := by unfold shortAt; rw [hbi]; rfl
      walk_at "mi"
      unfold Row.enc
      walk_at "mi"
      rw [dctAt_ref top_get]
      walk_at "mi"
      rw [show keyD (.str "stop") = some (.inr "stop") from rfl, wp_some, plK_stop, Option.getD_none]
      walk_at "mi"
      exact fs_nil ⟨hG1, ⟨_, _, _, _, _, rfl⟩, nxt e⟩ okD_tup
    | jump t =>
      have ht := hto t (List.mem_singleton.mpr rfl)
      walk_at "mi"
      unfold Row.enc
      walk_at "mi"
      rw [dctAt_ref top_get]
      walk_at "mi"
      rw [show keyD (.str "jump") = some (.inr "jump") from rfl, wp_some, plK_jump, Option.getD_some]
      walk_at "mi"
      refine fs_cons okD_tup ?_
      rw [asgT_n, wp_some]
      refine slot_ok (r := .jump t) (f := .jump) (t := t) (pl := 1) hb hbi ht (fun s => rfl) (fun e s => ⟨[.str "jump"], [], by kernel_rfl, by kernel_rfl, rfl, by decide, by decide⟩) ?_ ?_
      · intro x5 s' hG2 hz
        have e : shortAt bs i = none := by
          unfold shortAt; rw [hbi]
          show List.findSome? (shortSlot bs i) [(t, Row.jump)] = none
          rw [List.findSome?_cons, hz]; rfl
        exact fs_nil ⟨hG1.trans hG2, ⟨_, _, _, _, _, rfl⟩, nxt e⟩ okD_tup
      · intro bs' s' hG2 hz
        have e := hsl bs' (by
          show List.findSome? (shortSlot bs i) [(t, Row.jump)] = some bs'
          rw [List.findSome?_cons, hz])
        rw [e] at k
        exact k _ (hG1.trans hG2)
    | branch a t u =>
      have ht := hto t (by simp [Row.ways])
      have hu := hto u (by simp [Row.ways])
      walk_at "mi"
      unfold Row.enc
      walk_at "mi"
      rw [dctAt_ref top_get]
      walk_at "mi"
      rw [show keyD (.str "branch") = some (.inr "branch") from rfl, wp_some, plK_branch, Option.getD_some]
      walk_at "mi"
      refine fs_cons okD_tup ?_
      rw [asgT_n, wp_some]
      refine slot_ok (r := .branch a t u) (f := fun e => .branch a e u) (t := t) (pl := 2) hb hbi ht (fun s => rfl) (fun e s => ⟨[.str "branch", .int a], [.int u], by kernel_rfl, by kernel_rfl, rfl, by simp, by simp⟩) ?_ ?_
      · intro x5 s' hG2 hz
        refine fs_cons okD_tup ?_
        rw [asgT_n, wp_some]
        refine slot_ok (r := .branch a t u) (f := fun e => .branch a t e) (t := u) (pl := 3) hb hbi hu (fun s => rfl) (fun e s => ⟨[.str "branch", .int a, .int t], [], by kernel_rfl, by kernel_rfl, rfl, by simp, by simp⟩) ?_ ?_
        · intro x5 s'' hG3 hz2
          have e : shortAt bs i = none := by
            unfold shortAt; rw [hbi]
            show List.findSome? (shortSlot bs i) [(t, fun e => Row.branch a e u), (u, fun e => Row.branch a t e)] = none
            rw [List.findSome?_cons, hz]
            show List.findSome? (shortSlot bs i) [(u, fun e => Row.branch a t e)] = none
            rw [List.findSome?_cons, hz2]; rfl
          exact fs_nil ⟨(hG1.trans hG2).trans hG3, ⟨_, _, _, _, _, rfl⟩, nxt e⟩ okD_tup
        · intro bs' s'' hG3 hz2
          have e := hsl bs' (by
            show List.findSome? (shortSlot bs i) [(t, fun e => Row.branch a e u), (u, fun e => Row.branch a t e)] = some bs'
            rw [List.findSome?_cons, hz]
            show List.findSome? (shortSlot bs i) [(u, fun e => Row.branch a t e)] = some bs'
            rw [List.findSome?_cons, hz2])
          rw [e] at k
          exact k _ ((hG1.trans hG2).trans hG3)
      · intro bs' s' hG2 hz
        have e := hsl bs' (by
          show List.findSome? (shortSlot bs i) [(t, fun e => Row.branch a e u), (u, fun e => Row.branch a t e)] = some bs'
          rw [List.findSome?_cons, hz])
        rw [e] at k
        exact k _ (hG1.trans hG2)
    | _ => cases hlb
  · rintro env st ⟨hG, ⟨x1, x2, x3, x4, x5, rfl⟩, hn⟩
    have e2 : shortened bs = none := first_none hn
    rw [e2] at k
    walk_at "mi"
    exact k _ hG
end My

set_option Elab.async false
set_option linter.all false
set_option maxRecDepth 100000
set_option maxHeartbeats 4000000
namespace My
open PySem PySem.Spec PyProof.Rows L2 Mi
local macro_rules | `(tactic| walk_at "mi") => `(tactic| try simp only [↓w_vr, ↓w_cn, ↓w_e2, ↓w_tup, ↓w_lst, ↓w_aN, ↓w_aC, ↓w_call, ↓w_B, ↓w_M, ↓w_oN, ↓w_oS, ↓w_sl, ↓w_B1, ↓w_Tl, ↓w_An, ↓w_Or, ↓w_No, ↓w_eAn, ↓w_eO, ↓w_eNo, ↓w_eNeg, ↓w_eIf, ↓w_ch, ↓w_Dn, ↓w_lRg1, ↓w_trg1, ↓w_yes, ↓ws_forS, ↓ws_forG, ↓w_lcS, ↓w_lcG, ↓w_dcS, ↓w_dcG, items_tup, items_rol, ↓ws_seq, ↓ws_skip, ↓ws_set, ↓ws_ex, ↓ws_ret, ↓ws_retN, ↓ws_bk, ↓ws_ct, ↓ws_if, ↓ws_asg, ↓ws_dput, ↓ws_daug, ↓ws_lput, ↓ws_aug, ↓wp_some, ↓wp_none, ↓wp_if, ↓wp_map, ↓wf_ok, ↓asI_int, ↓asBl_bl,
  List.getElem?_cons_zero, List.getElem?_cons_succ, List.set_cons_zero, List.set_cons_succ, opI_int, addD_int, mulD_int, intB_int, intB_bl, absB_int, lenB_rol, lenB_tup, ixD_rol, ixD_tup, atI0, atI1, atI2, atI3, atI4, asgT_n, tyQ, appQ, slQ, slD_tup, wipeE, List.length_cons, List.length_nil, List.length_map, true_and, and_true, decide_true, ↓reduceIte, bl_t, List.map_cons, List.map_nil, List.cons_append, List.nil_append, List.replicate_succ, List.replicate_zero, Nat.reduceAdd, Nat.reduceLeDiff, Int.reduceLT, Int.reduceLE, Int.reduceNeg, Int.reduceSub, eqD_str, eqD_int, neD_int, ofStr_eq, String.reduceEq, decide_false, decide_true, in_tup, flatD_str, flatD_int, List.all_cons, List.all_nil, List.any_cons, List.any_nil, eqF_str, Bool.and_true, Bool.and_self, Bool.or_false, Bool.or_true, Bool.true_or, Bool.false_or, Bool.false_eq_true, Bool.not_true, Bool.not_false, in_top, ixD_top, tupB_top, items_top, lenB_top, tru_bl, asgT_2, asgT_3, ↓w_pN, ↓w_pC, ↓w_Dct, ixD_tup, Int.cast_ofNat_Int, Int.reduceEq, ↓w_DGet2, ↓w_callV, ↓ws_laug])
/-! ### the blocks that can be come to -/
inductive Reach (bs : List Bk) : Nat → Prop
  | zero : Reach bs 0
  | step {i : Nat} {b : Bk} {t : Int} : Reach bs i → bs[i]? = some b → t ∈ b.2.ways → Reach bs t.toNat
def isT (fl : List Bool) (i : Nat) : Prop := fl[i]? = some true
structure Fnd (bs : List Bk) (fl : List Bool) (W : List Nat) (x : Option Nat) : Prop where
  len : fl.length = bs.length
  re : ∀ i, isT fl i → Reach bs i
  wt : ∀ w ∈ W, isT fl w
  cl : ∀ i b, isT fl i → i ∉ W → x ≠ some i → bs[i]? = some b → ∀ t ∈ b.2.ways, isT fl t.toNat
  z : isT fl 0
theorem isT_set {fl : List Bool} {i j : Nat} (hi : i < fl.length) : isT (fl.set i true) j ↔ j = i ∨ isT fl j := by
  unfold isT
  by_cases c : i = j
  · subst c
    rw [List.getElem?_set_self hi]
    exact ⟨fun _ => Or.inl rfl, fun _ => rfl⟩
  · rw [List.getElem?_set_ne c]
    exact ⟨Or.inr, fun h => h.elim (fun z => absurd z.symm c) id⟩
def falses (fl : List Bool) : Nat := fl.countP (fun b => !b)
theorem falses_set {fl : List Bool} {i : Nat} (h : fl[i]? = some false) : falses (fl.set i true) + 1 = falses fl := by
  unfold falses
  induction fl generalizing i with
  | nil => cases h
  | cons b fl ih =>
    cases i with
    | zero =>
      cases h
      rw [List.set_cons_zero, List.countP_cons, List.countP_cons]; simp
    | succ i =>
      rw [List.set_cons_succ, List.countP_cons, List.countP_cons]
      have := ih (i := i) h
      omega
theorem repD_one {d : D} : ∀ n, repD n [d] = List.replicate n d
  | 0 => rfl
  | n + 1 => by
    show [d] ++ repD n [d] = _
    rw [repD_one n]; rfl
theorem mul_rep {p n : Nat} {d : D} {s : S} (h : s[p]? = some (.lst [d])) (hn : n ≤ 1000) : mulD (.ref p) (.int (n : Int)) s = some (.ref s.length, s ++ [.lst (List.replicate n d)]) := by
  have c : (n : Int) < 2 ^ 63 ∧ -(2 ^ 63) ≤ (n : Int) ∧ [d].length * (n : Int).toNat ≤ 16777216 := ⟨by omega, by omega, by rw [List.length_singleton, Int.toNat_natCast]; omega⟩
  simp only [mulD, h]
  rw [if_pos c, Int.toNat_natCast, repD_one]
theorem setL_ref {p i : Nat} {ds : List D} {x : D} {s : S} (h : s[p]? = some (.lst ds)) (hi : i < ds.length) : setLD (.ref p) (.int (i : Int)) x s = some (s.set p (.lst (ds.set i x))) := by
  have e : ixN ds.length (i : Int) = some i := by
    unfold ixN
    rw [if_pos (by omega), if_pos (by omega), Int.toNat_natCast]
  simp only [setLD, h, e]
theorem pop_ref {p : Nat} {ds : List D} {x : D} {s : S} (h : s[p]? = some (.lst (ds ++ [x]))) : popM (.ref p) [] s = some (x, s.set p (.lst ds)) := by
  have e : (ds ++ [x])[(ds ++ [x]).length - 1]? = some x := by
    rw [List.length_append, List.length_singleton, Nat.add_sub_cancel, List.getElem?_append_right (Nat.le_refl _), Nat.sub_self]; rfl
  simp only [popM, h, e, List.dropLast_concat]
theorem atI_of {ds : List D} {t : Int} {d : D} (h0 : 0 ≤ t) (h : ds[t.toNat]? = some d) : atI ds t = some d := by
  have := atI_nat' h
  rwa [Int.toNat_of_nonneg h0] at this
theorem ways_len (r : Row) : r.ways.length ≤ 2 := by cases r <;> simp [Row.ways]
theorem come_ok {bs : List Bk} {s : S} {Q : D → S → Prop} (hb : BsOk bs) (k : ∀ (q : Nat) (s' : S) (fl : List Bool), Gr s s' → s.length ≤ q → s'[q]? = some (.lst (fl.map D.bl)) → fl.length = bs.length → (∀ i, isT fl i ↔ Reach bs i) → Q (.ref q) s') : WF (F_can_be_come_to [.tup (bs.map encK)] s) Q := by
  unfold F_can_be_come_to
  refine (wf_fn (by rfl)).mpr ?_
  unfold g_can_be_come_to
  have hle := hb.le
  have hne := hb.ne
  walk_at "mi"
  rw [mul_rep top_get (by omega)]
  walk_at "mi"
  have hp0 : (s ++ [O.lst [D.bl false]] ++ [O.lst (List.replicate bs.length (D.bl false))])[(s ++ [O.lst [D.bl false]]).length]? = some (.lst (List.replicate bs.length (D.bl false))) := top_get
  generalize hq1 : (s ++ [O.lst [D.bl false]]).length = qf at *
  have hset := setL_ref (i := 0) (x := D.bl true) hp0 (by rw [List.length_replicate]; exact hne)
  rw [show ((0 : Nat) : Int) = 0 from rfl] at hset
  rw [hset]
  walk_at "mi"
  have hqs : s.length ≤ qf := by rw [← hq1, List.length_append]; omega
  generalize hst0 : List.set (s ++ [O.lst [D.bl false]] ++ [O.lst (List.replicate bs.length (D.bl false))]) qf (O.lst ((List.replicate bs.length (D.bl false)).set 0 (D.bl true))) = st0
  have hlen0 : st0.length = qf + 1 := by rw [← hst0, List.length_set, List.length_append, hq1]; rfl
  have hG0 : Gr s st0 := by rw [← hst0]; exact ((Gr.app _ _).trans (Gr.app _ _)).set hqs
  have hf0 : st0[qf]? = some (.lst (((List.replicate bs.length false).set 0 true).map D.bl)) := by
    rw [← hst0, List.getElem?_set_self (List.getElem?_eq_some_iff.mp hp0).1, List.map_set, List.map_replicate]
  clear hset hp0 hst0
  have hw0 : (st0 ++ [O.lst [D.int 0]])[st0.length]? = some (.lst (([0] : List Nat).map fun (w : Nat) => D.int (w : Int))) := top_get
  have hf1 : (st0 ++ [O.lst [D.int 0]])[qf]? = some (.lst (((List.replicate bs.length false).set 0 true).map D.bl)) := old_get hf0
  have hG1 : Gr s (st0 ++ [O.lst [D.int 0]]) := hG0.trans (Gr.app _ _)
  generalize st0 ++ [O.lst [D.int 0]] = st1 at *
  generalize hqw : st0.length = qw at *
  have hne' : qf ≠ qw := by omega
  have hqws : s.length ≤ qw := by omega
  have hfs0 : 2 * falses ((List.replicate bs.length false).set 0 true) + [0].length ≤ 2 * bs.length := by
    have h1 := falses_set (fl := List.replicate bs.length false) (i := 0) (by rw [List.getElem?_replicate, if_pos hne])
    have h2 : falses (List.replicate bs.length false) ≤ bs.length := by
      have := List.countP_le_length (p := fun b => !b) (l := List.replicate bs.length false)
      rwa [List.length_replicate] at this
    rw [List.length_singleton]; omega
  refine ws_while (fun m env st => ∃ (fl : List Bool) (W : List Nat) (x3 : Option D), env = [some (.tup (bs.map encK)), some (.ref qf), some (.ref qw), x3] ∧ Gr s st ∧ st[qf]? = some (.lst (fl.map D.bl)) ∧ st[qw]? = some (.lst (W.map fun (w : Nat) => D.int (w : Int))) ∧ Fnd bs fl W none ∧ (∀ w ∈ W, w < bs.length) ∧ 2 * falses fl + W.length ≤ 2 * bs.length ∧ m = 2 * falses fl + W.length) (2 * falses ((List.replicate bs.length false).set 0 true) + 1) ?_ ⟨(List.replicate bs.length false).set 0 true, [0], _, rfl, hG1, hf1, hw0, ?_, ?_, hfs0, rfl⟩ ?_
  · have : falses ((List.replicate bs.length false).set 0 true) ≤ bs.length := by
      unfold falses
      have := List.countP_le_length (p := fun b => !b) (l := (List.replicate bs.length false).set 0 true)
      rwa [List.length_set, List.length_replicate] at this
    omega
  · have h0 : ∀ i, isT ((List.replicate bs.length false).set 0 true) i → i = 0 := fun i h => by
      rcases (isT_set (by rw [List.length_replicate]; exact hne)).mp h with h | h
      · exact h
      · unfold isT at h
        rw [List.getElem?_replicate] at h
        split at h <;> cases h
    exact ⟨by rw [List.length_set, List.length_replicate], fun i h => by rw [h0 i h]; exact Reach.zero, fun w hw => by rw [List.mem_singleton.mp hw]; exact (isT_set (by rw [List.length_replicate]; exact hne)).mpr (Or.inl rfl), fun i b h hn _ _ _ _ => absurd (List.mem_singleton.mpr (h0 i h)) hn, (isT_set (by rw [List.length_replicate]; exact hne)).mpr (Or.inl rfl)⟩
  · intro w hw
    rw [List.mem_singleton.mp hw]; exact hne
  · rintro m env st ⟨fl, W, x3, rfl, hG, hf, hw, hF, hWl, hW1, rfl⟩
    have htr : truD (.ref qw) st = some (!(W.map fun (w : Nat) => D.int (w : Int)).isEmpty) := by simp only [truD, hw]
    walk_at "mi"
    rw [htr]
    walk_at "mi"
    rcases List.eq_nil_or_concat W with rfl | ⟨W', w, rfl⟩
    · simp only [List.map_nil, List.isEmpty_nil, Bool.not_true, Bool.false_eq_true, ↓reduceIte]
      refine k qf st fl hG hqs hf hF.len fun i => ⟨hF.re i, fun h => ?_⟩
      induction h with
      | zero => exact hF.z
      | step hr hb' ht ih => exact hF.cl _ _ ih (fun z => by cases z) (fun z => by cases z) hb' _ ht
    · rw [List.concat_eq_append] at *
      have hem : ((W' ++ [w]).map fun (w : Nat) => D.int (w : Int)).isEmpty = false := by rw [List.map_append]; simp
      simp only [hem, Bool.not_false, ↓reduceIte]
      unfold g_can_be_come_to_b2
      walk_at "mi"
      have hpop : popM (.ref qw) [] st = some (.int (w : Int), st.set qw (.lst (W'.map fun (w : Nat) => D.int (w : Int)))) := by
        rw [List.map_append] at hw
        exact pop_ref hw
      rw [ty_ref hw, hpop]
      walk_at "mi"
      have hwl : w < bs.length := hWl w (List.mem_append.mpr (Or.inr (List.mem_singleton.mpr rfl)))
      obtain ⟨b, hbw⟩ : ∃ b, bs[w]? = some b := ⟨_, List.getElem?_eq_getElem hwl⟩
      have hm := List.mem_of_getElem? hbw
      rw [show atI (bs.map encK) (w : Int) = some (encK b) from atI_nat' (by rw [List.getElem?_map, hbw]; rfl)]
      walk_at "mi"
      rw [ways_ok (hb.la b hm)]
      walk_at "mi"
      have hlw : qw < st.length := (List.getElem?_eq_some_iff.mp hw).1
      have hlf : qf < st.length := (List.getElem?_eq_some_iff.mp hf).1
      have hG2 : Gr s (st.set qw (.lst (W'.map fun (w : Nat) => D.int (w : Int)))) := hG.set hqws
      have hf2 : (st.set qw (.lst (W'.map fun (w : Nat) => D.int (w : Int))))[qf]? = some (.lst (fl.map D.bl)) := by rw [List.getElem?_set_ne hne'.symm]; exact hf
      have hw2 : (st.set qw (.lst (W'.map fun (w : Nat) => D.int (w : Int))))[qw]? = some (.lst (W'.map fun (w : Nat) => D.int (w : Int))) := List.getElem?_set_self hlw
      have hwf : isT fl w := hF.wt w (List.mem_append.mpr (Or.inr (List.mem_singleton.mpr rfl)))
      have hF2 : Fnd bs fl W' (some w) := ⟨hF.len, hF.re, fun v hv => hF.wt v (List.mem_append.mpr (Or.inl hv)), fun i b hi hn hx => hF.cl i b hi (fun z => (List.mem_append.mp z).elim hn fun z => hx (by rw [List.mem_singleton.mp z])) (fun z => by cases z), hF.z⟩
      have hWl2 : ∀ v ∈ W', v < bs.length := fun v hv => hWl v (List.mem_append.mpr (Or.inl hv))
      rw [List.length_append, List.length_singleton] at hW1 ⊢
      generalize st.set qw (.lst (W'.map fun (w : Nat) => D.int (w : Int))) = st2 at *
      refine fs_tup (fun i env st => ∃ (fl' : List Bool) (W : List Nat) (x3 : Option D), env = [some (.tup (bs.map encK)), some (.ref qf), some (.ref qw), x3] ∧ Gr s st ∧ st[qf]? = some (.lst (fl'.map D.bl)) ∧ st[qw]? = some (.lst (W.map fun (w : Nat) => D.int (w : Int))) ∧ Fnd bs fl' W (some w) ∧ isT fl' w ∧ (∀ w ∈ W, w < bs.length) ∧ W.length ≤ W'.length + i ∧ 2 * falses fl' + W.length ≤ 2 * falses fl + W'.length ∧ ∀ (j : Nat) (t : Int), j < i → b.2.ways[j]? = some t → isT fl' t.toNat) ⟨fl, W', _, rfl, hG2, hf2, hw2, hF2, hwf, hWl2, by omega, by omega, fun j t h => by omega⟩ ?_ ?_
      · rintro i d env st3 hi ⟨fl', W, x3, rfl, hG3, hf3, hw3, hF3, hwf3, hWl3, hW3, hm3, hd3⟩
        rw [List.getElem?_map] at hi
        cases hti : b.2.ways[i]? with
        | none => rw [hti] at hi; cases hi
        | some t =>
          rw [hti] at hi; cases hi
          have htr := hb.to b hm t (List.mem_of_getElem? hti)
          have hil : i < b.2.ways.length := (List.getElem?_eq_some_iff.mp hti).1
          have hwlen := ways_len b.2
          rw [asgT_n, wp_some]
          unfold g_can_be_come_to_b1
          have htt : t = (t.toNat : Int) := by omega
          have htl : t.toNat < fl'.length := by rw [hF3.len]; omega
          have hix : atI (fl'.map D.bl) t = some (.bl fl'[t.toNat]) := atI_of htr.1 (by rw [List.getElem?_map, List.getElem?_eq_getElem htl]; rfl)
          walk_at "mi"
          rw [ixD_ref hf3, hix]
          walk_at "mi"
          cases hft : fl'[t.toNat] with
          | true =>
            have hT : isT fl' t.toNat := by unfold isT; rw [List.getElem?_eq_getElem htl, hft]
            simp only [Bool.not_true, Bool.false_eq_true, ↓reduceIte]
            exact ⟨fl', W, _, rfl, hG3, hf3, hw3, hF3, hwf3, hWl3, by omega, hm3, fun j t' hj hjt => by
              by_cases c : j = i
              · subst c; rw [hti] at hjt; cases hjt; exact hT
              · exact hd3 j t' (by omega) hjt⟩
          | false =>
            have hfa : fl'[t.toNat]? = some false := by rw [List.getElem?_eq_getElem htl, hft]
            have hfs := falses_set hfa
            have hlf3 : qf < st3.length := (List.getElem?_eq_some_iff.mp hf3).1
            have hlw3 : qw < st3.length := (List.getElem?_eq_some_iff.mp hw3).1
            simp only [Bool.not_false, ↓reduceIte]
            have hset : setLD (.ref qf) (.int t) (.bl true) st3 = some (st3.set qf (.lst ((fl'.map D.bl).set t.toNat (.bl true)))) := by
              conv => lhs; rw [htt]
              exact setL_ref hf3 (by rw [List.length_map]; exact htl)
            rw [hset]
            walk_at "mi"
            have hw4 : (st3.set qf (.lst ((fl'.map D.bl).set t.toNat (.bl true))))[qw]? = some (.lst (W.map fun (w : Nat) => D.int (w : Int))) := by rw [List.getElem?_set_ne hne']; exact hw3
            rw [ty_ref hw4, app_ref hw4, if_pos (by rw [List.length_map]; omega)]
            walk_at "mi"
            have isS : ∀ j, isT (fl'.set t.toNat true) j ↔ j = t.toNat ∨ isT fl' j := fun j => isT_set htl
            refine ⟨fl'.set t.toNat true, W ++ [t.toNat], _, rfl, (hG3.set hqs).set hqws, ?_, ?_, ⟨?_, ?_, ?_, ?_, ?_⟩, (isS _).mpr (Or.inr hwf3), ?_, ?_, ?_, ?_⟩
            · rw [List.getElem?_set_ne hne'.symm, List.getElem?_set_self hlf3, List.map_set]
            · rw [List.getElem?_set_self (by rw [List.length_set]; exact hlw3), List.map_append]
              show some (O.lst (_ ++ [D.int t])) = some (O.lst (_ ++ [D.int (t.toNat : Int)]))
              rw [← htt]
            · rw [List.length_set]; exact hF3.len
            · intro j hj
              rcases (isS j).mp hj with rfl | hj
              · exact Reach.step (hF3.re w hwf3) hbw (List.mem_of_getElem? hti)
              · exact hF3.re j hj
            · intro v hv
              rcases List.mem_append.mp hv with hv | hv
              · exact (isS v).mpr (Or.inr (hF3.wt v hv))
              · exact (isS v).mpr (Or.inl (List.mem_singleton.mp hv))
            · intro j b' hj hn hx hbj t' ht'
              rcases (isS j).mp hj with rfl | hj
              · exact absurd (List.mem_append.mpr (Or.inr (List.mem_singleton.mpr rfl))) hn
              · exact (isS _).mpr (Or.inr (hF3.cl j b' hj (fun z => hn (List.mem_append.mpr (Or.inl z))) hx hbj t' ht'))
            · exact (isS 0).mpr (Or.inr hF3.z)
            · intro v hv
              rcases List.mem_append.mp hv with hv | hv
              · exact hWl3 v hv
              · rw [List.mem_singleton.mp hv]; omega
            · rw [List.length_append, List.length_singleton]; omega
            · rw [List.length_append, List.length_singleton]; omega
            · intro j t' hj hjt
              by_cases c : j = i
              · subst c; rw [hti] at hjt; cases hjt; exact (isS _).mpr (Or.inl rfl)
              · exact (isS _).mpr (Or.inr (hd3 j t' (by omega) hjt))
      · rintro env st3 ⟨fl', W, x3, rfl, hG3, hf3, hw3, hF3, hwf3, hWl3, hW3, hm3, hd3⟩
        rw [List.length_map] at hW3 hd3
        have hwlen := ways_len b.2
        have hfle : falses fl' ≤ fl'.length := List.countP_le_length
        have hfle2 : falses fl ≤ fl.length := List.countP_le_length
        refine ⟨2 * falses fl' + W.length, by omega, fl', W, x3, rfl, hG3, hf3, hw3, ⟨hF3.len, hF3.re, hF3.wt, ?_, hF3.z⟩, hWl3, ?_, rfl⟩
        · intro j b' hj hn _ hbj t' ht'
          by_cases c : j = w
          · subst c
            rw [hbw] at hbj; cases hbj
            obtain ⟨i, hi, e⟩ := List.getElem_of_mem ht'
            exact hd3 i t' hi (by rw [List.getElem?_eq_getElem hi, e])
          · exact hF3.cl j b' hj hn (fun z => c (Option.some.inj z).symm) hbj t' ht'
        · omega
end My

set_option Elab.async false
set_option linter.all false
set_option maxRecDepth 100000
set_option maxHeartbeats 4000000
namespace My
open PySem PySem.Spec PyProof.Rows L2 Mi
local macro_rules | `(tactic| walk_at "mi") => `(tactic| try simp only [↓w_vr, ↓w_cn, ↓w_e2, ↓w_tup, ↓w_lst, ↓w_aN, ↓w_aC, ↓w_call, ↓w_B, ↓w_M, ↓w_oN, ↓w_oS, ↓w_sl, ↓w_B1, ↓w_Tl, ↓w_An, ↓w_Or, ↓w_No, ↓w_eAn, ↓w_eO, ↓w_eNo, ↓w_eNeg, ↓w_eIf, ↓w_ch, ↓w_Dn, ↓w_lRg1, ↓w_trg1, ↓w_yes, ↓ws_forS, ↓ws_forG, ↓w_lcS, ↓w_lcG, ↓w_dcS, ↓w_dcG, items_tup, items_rol, ↓ws_seq, ↓ws_skip, ↓ws_set, ↓ws_ex, ↓ws_ret, ↓ws_retN, ↓ws_bk, ↓ws_ct, ↓ws_if, ↓ws_asg, ↓ws_dput, ↓ws_daug, ↓ws_lput, ↓ws_aug, ↓wp_some, ↓wp_none, ↓wp_if, ↓wp_map, ↓wf_ok, ↓asI_int, ↓asBl_bl,
  List.getElem?_cons_zero, List.getElem?_cons_succ, List.set_cons_zero, List.set_cons_succ, opI_int, addD_int, mulD_int, intB_int, intB_bl, absB_int, lenB_rol, lenB_tup, ixD_rol, ixD_tup, atI0, atI1, atI2, atI3, atI4, asgT_n, tyQ, appQ, slQ, slD_tup, wipeE, List.length_cons, List.length_nil, List.length_map, true_and, and_true, decide_true, ↓reduceIte, bl_t, List.map_cons, List.map_nil, List.cons_append, List.nil_append, List.replicate_succ, List.replicate_zero, Nat.reduceAdd, Nat.reduceLeDiff, Int.reduceLT, Int.reduceLE, Int.reduceNeg, Int.reduceSub, eqD_str, eqD_int, neD_int, ofStr_eq, String.reduceEq, decide_false, decide_true, in_tup, flatD_str, flatD_int, List.all_cons, List.all_nil, List.any_cons, List.any_nil, eqF_str, Bool.and_true, Bool.and_self, Bool.or_false, Bool.or_true, Bool.true_or, Bool.false_or, Bool.false_eq_true, Bool.not_true, Bool.not_false, in_top, ixD_top, tupB_top, items_top, lenB_top, tru_bl, asgT_2, asgT_3, ↓w_pN, ↓w_pC, ↓w_Dct, ixD_tup, Int.cast_ofNat_Int, Int.reduceEq, ↓w_DGet2, ↓w_callV, ↓ws_laug])

/-! ### the blocks that cannot be come to are left out -/
open Classical in
noncomputable def rc (bs : List Bk) (i : Nat) : Bool := decide (Reach bs i)
theorem rc_iff {bs : List Bk} {i : Nat} : rc bs i = true ↔ Reach bs i := by unfold rc; exact @decide_eq_true_iff _ (Classical.propDecidable _)
noncomputable def come (bs : List Bk) : List Nat := (List.range bs.length).filter (rc bs)
theorem come_nd (bs : List Bk) : (come bs).Nodup := List.nodup_range.filter _
def ren (L : List Nat) : Row → Row
  | .jump t => .jump (L.idxOf t.toNat)
  | .branch a t u => .branch a (L.idxOf t.toNat) (L.idxOf u.toNat)
  | r => r
noncomputable def numbered (bs : List Bk) : List Bk := (come bs).filterMap fun i => (bs[i]?).map fun b => (b.1, ren (come bs) b.2)
noncomputable def leftOut (bs : List Bk) : Option (List Bk) := if (come bs).length = bs.length then none else some (numbered bs)
/-- a dict from members to their places -/
def numK (n : Nat) : List Nat → List (Key × D)
  | [] => []
  | a :: L => (Sum.inl (a : Int), D.int (n : Int)) :: numK (n + 1) L
theorem numK_len : ∀ (L : List Nat) (n : Nat), (numK n L).length = L.length
  | [], _ => rfl
  | a :: L, n => by
    show (numK (n + 1) L).length + 1 = L.length + 1
    rw [numK_len L]
theorem numK_snoc : ∀ (L : List Nat) (n a : Nat), numK n (L ++ [a]) = numK n L ++ [(Sum.inl (a : Int), D.int ((n + L.length : Nat) : Int))]
  | [], n, a => rfl
  | b :: L, n, a => by
    show _ :: numK (n + 1) (L ++ [a]) = _ :: (numK (n + 1) L ++ _)
    rw [numK_snoc L, List.length_cons, show n + 1 + L.length = n + (L.length + 1) by omega]
theorem numK_val : ∀ (L : List Nat) (n a : Nat), a ∈ L → valD (numK n L) (.inl (a : Int)) = some (.int ((n + L.idxOf a : Nat) : Int))
  | b :: L, n, a, h => by
    unfold valD numK
    rw [List.find?_cons, List.idxOf_cons]
    by_cases c : b = a
    · subst c
      simp
    · have c2 : ¬ ((Sum.inl (b : Int) : Key) = Sum.inl (a : Int)) := fun z => c (by have := Sum.inl.inj z; omega)
      have ih := numK_val L (n + 1) a ((List.mem_cons.mp h).elim (fun z => absurd z.symm c) id)
      unfold valD at ih
      rw [decide_eq_false c2]
      simp only [beq_eq_false_iff_ne.mpr c, cond_false]
      rw [ih, show n + 1 + L.idxOf a = n + (L.idxOf a + 1) by omega]
theorem numK_any : ∀ (L : List Nat) (n a : Nat), a ∉ L → ((numK n L).any fun kv => decide (kv.1 = Sum.inl (a : Int))) = false
  | [], _, _, _ => rfl
  | b :: L, n, a, h => by
    unfold numK
    rw [List.any_cons, numK_any L (n + 1) a fun z => h (List.mem_cons_of_mem _ z), Bool.or_false]
    exact decide_eq_false fun z => h (by have := Sum.inl.inj z; rw [show a = b by omega]; exact List.mem_cons_self)
theorem numK_put (L : List Nat) (a : Nat) (h : a ∉ L) : putD (numK 0 L) (.inl (a : Int)) (.int (L.length : Int)) = numK 0 (L ++ [a]) := by
  unfold putD
  rw [numK_any L 0 a h, if_neg (by decide), numK_snoc, Nat.zero_add]
theorem fl_get {bs : List Bk} {fl : List Bool} (hl : fl.length = bs.length) (hf : ∀ i, isT fl i ↔ Reach bs i) {i : Nat} (hi : i < bs.length) : fl[i]? = some (rc bs i) := by
  have hi' : i < fl.length := by omega
  cases c : rc bs i with
  | true => exact (hf i).mpr (rc_iff.mp c)
  | false =>
    rw [List.getElem?_eq_getElem hi']
    cases e : fl[i] with
    | false => rfl
    | true =>
      have := rc_iff.mpr ((hf i).mp (by unfold isT; rw [List.getElem?_eq_getElem hi', e]))
      rw [c] at this; cases this
theorem fl_all {bs : List Bk} {fl : List Bool} (hl : fl.length = bs.length) (hf : ∀ i, isT fl i ↔ Reach bs i) : fl.all id = decide ((come bs).length = bs.length) := by
  have h1 : (come bs).length = bs.length ↔ ∀ i, i < bs.length → rc bs i = true := by
    unfold come
    have := List.filter_eq_self (l := List.range bs.length) (p := rc bs)
    constructor
    · intro h i hi
      have h2 := List.length_filter_eq_length_iff.mp (by rw [h, List.length_range] : ((List.range bs.length).filter (rc bs)).length = (List.range bs.length).length)
      exact h2 i (List.mem_range.mpr hi)
    · intro h
      rw [this.mpr fun i hi => h i (List.mem_range.mp hi), List.length_range]
  rw [Bool.eq_iff_iff, List.all_eq_true, decide_eq_true_iff, h1]
  constructor
  · intro h i hi
    have := fl_get hl hf hi
    have := h _ (List.mem_of_getElem? this)
    exact this
  · intro h b hb
    obtain ⟨i, hi, e⟩ := List.getElem_of_mem hb
    have := fl_get hl hf (i := i) (by omega)
    rw [List.getElem?_eq_getElem hi, e, h i (by omega)] at this
    exact Option.some.inj this
theorem take_come (bs : List Bk) (i : Nat) : ((List.range (i + 1)).filter (rc bs)) = (List.range i).filter (rc bs) ++ if rc bs i = true then [i] else [] := by
  rw [List.range_succ, List.filter_append]
  congr 1
  cases c : rc bs i <;> simp [c]
theorem mem_come {bs : List Bk} {i : Nat} : i ∈ come bs ↔ i < bs.length ∧ Reach bs i := by
  unfold come
  rw [List.mem_filter, List.mem_range, rc_iff]
theorem dget_num {p : Nat} {L : List Nat} {t : Int} {s : S} (h : s[p]? = some (.dct (numK 0 L))) (h0 : 0 ≤ t) (ht : t.toNat ∈ L) : dgetD (.ref p) (.int t) s = some (.int (L.idxOf t.toNat), s) := by
  rw [dget_k h (k' := .inl t) rfl]
  have := numK_val L 0 t.toNat ht
  rw [Int.toNat_of_nonneg h0, Nat.zero_add] at this
  rw [this]; rfl
theorem left_out_ok {bs : List Bk} {s : S} {Q : D → S → Prop} (hb : BsOk bs) (k : ∀ s', Gr s s' → Q (optE (leftOut bs)) s') : WF (F_left_out [.tup (bs.map encK)] s) Q := by
  unfold F_left_out
  refine (wf_fn (by rfl)).mpr ?_
  unfold g_left_out
  have hle := hb.le
  walk_at "mi"
  refine come_ok hb ?_
  intro q s1 fl hG1 hq1 hf1 hfl hfi
  walk_at "mi"
  rw [all_ref hf1, fl_all hfl hfi]
  walk_at "mi"
  unfold leftOut at k
  by_cases hall : (come bs).length = bs.length
  · simp only [hall, ↓reduceIte] at k ⊢
    exact k _ hG1
  simp only [hall, ↓reduceIte] at k ⊢
  have hqs : s.length ≤ s1.length := hG1.1
  have hql : q < s1.length := (List.getElem?_eq_some_iff.mp hf1).1
  refine ⟨by omega, ?_⟩
  rw [Int.toNat_natCast]
  refine fs_rng (fun i env st => (∃ x3 x4 x5, env = [some (.tup (bs.map encK)), some (.ref q), some (.ref s1.length), x3, x4, x5]) ∧ Gr s1 st ∧ st[s1.length]? = some (.dct (numK 0 ((List.range i).filter (rc bs))))) ⟨⟨_, _, _, rfl⟩, Gr.app _ _, top_get⟩ ?_ ?_
  · rintro i env st hi ⟨⟨x3, x4, x5, rfl⟩, hG, hd⟩
    unfold g_left_out_b1
    have hf2 := hG.get hf1
    have hix : atI (fl.map D.bl) (i : Int) = some (.bl (rc bs i)) := atI_nat' (by rw [List.getElem?_map, fl_get hfl hfi hi]; rfl)
    walk_at "mi"
    rw [ixD_ref hf2, hix]
    walk_at "mi"
    rw [take_come]
    have hnl : ((List.range i).filter (rc bs)).length ≤ i := by
      have := List.length_filter_le (rc bs) (List.range i)
      rwa [List.length_range] at this
    cases c : rc bs i with
    | false =>
      simp only [Bool.false_eq_true, ↓reduceIte, List.append_nil]
      exact ⟨⟨_, _, _, rfl⟩, hG, hd⟩
    | true =>
      simp only [↓reduceIte]
      rw [lenB_dct hd, numK_len]
      walk_at "mi"
      rw [dput_k hd (k' := .inl (i : Int)) rfl, numK_put _ i (fun z => by have := List.mem_range.mp (List.mem_filter.mp z).1; omega), if_pos (by rw [numK_len]; omega), wp_some]
      exact ⟨⟨_, _, _, rfl⟩, hG.set (Nat.le_refl _), List.getElem?_set_self (List.getElem?_eq_some_iff.mp hd).1⟩
  · rintro env st ⟨⟨x3, x4, x5, rfl⟩, hG, hd⟩
    walk_at "mi"
    refine ⟨by omega, ?_⟩
    rw [Int.toNat_natCast]
    have hd : st[s1.length]? = some (.dct (numK 0 (come bs))) := hd
    have hdl : s1.length < st.length := (List.getElem?_eq_some_iff.mp hd).1
    refine fs_rng (fun i env st2 => (∃ x3 x5, env = [some (.tup (bs.map encK)), some (.ref q), some (.ref s1.length), x3, some (.ref st.length), x5]) ∧ Gr st st2 ∧ st2[st.length]? = some (.lst ((((List.range i).filter (rc bs)).filterMap fun i => (bs[i]?).map fun b => (b.1, ren (come bs) b.2)).map encK))) ⟨⟨_, _, rfl⟩, Gr.app _ _, top_get⟩ ?_ ?_
    · rintro i env st2 hi ⟨⟨x3, x5, rfl⟩, hG2, hr⟩
      unfold g_left_out_b2
      obtain ⟨b, hbi⟩ : ∃ b, bs[i]? = some b := ⟨_, List.getElem?_eq_getElem hi⟩
      have hm := List.mem_of_getElem? hbi
      have hf2 := hG2.get (hG.get hf1)
      have hd2 := hG2.get hd
      have hix : atI (fl.map D.bl) (i : Int) = some (.bl (rc bs i)) := atI_nat' (by rw [List.getElem?_map, fl_get hfl hfi hi]; rfl)
      have hib : atI (bs.map encK) (i : Int) = some (encK b) := atI_nat' (by rw [List.getElem?_map, hbi]; rfl)
      walk_at "mi"
      rw [ixD_ref hf2, hix]
      walk_at "mi"
      rw [take_come]
      cases c : rc bs i with
      | false =>
        simp only [Bool.false_eq_true, ↓reduceIte, List.append_nil]
        exact ⟨⟨_, _, rfl⟩, hG2, hr⟩
      | true =>
        simp only [↓reduceIte]
        rw [hib]
        walk_at "mi"
        rw [last_ix]
        walk_at "mi"
        have hlen : (((List.range i).filter (rc bs)).filterMap fun i => (bs[i]?).map fun b => (b.1, ren (come bs) b.2)).length ≤ i := by
          have h1 := List.length_filterMap_le (fun i => (bs[i]?).map fun b => (b.1, ren (come bs) b.2)) ((List.range i).filter (rc bs))
          have h2 := List.length_filter_le (rc bs) (List.range i)
          rw [List.length_range] at h2
          omega
        have hRi : Reach bs i := rc_iff.mp c
        have inC : ∀ t ∈ b.2.ways, 0 ≤ t ∧ t.toNat ∈ come bs := fun t ht => ⟨(hb.to b hm t ht).1, mem_come.mpr ⟨by have := hb.to b hm t ht; omega, Reach.step hRi hbi ht⟩⟩
        have fin : ∀ x : D, x = (ren (come bs) b.2).enc → (tyD "list" (.ref st.length) st2 = true ∧
            WP (slD (encK b) none (some (-1)) st2) fun p => WP (addD p.1 (.tup [x]) p.2) fun p => WP (appM (.ref st.length) [p.1] p.2) fun p =>
              (∃ x3 x5, [some (.tup (bs.map encK)), some (.ref q), some (.ref s1.length), some (.int (i : Int)), some (.ref st.length), some x] = [some (.tup (bs.map encK)), some (.ref q), some (.ref s1.length), x3, some (.ref st.length), x5]) ∧
              Gr st p.2 ∧ p.2[st.length]? = some (.lst ((((List.range i).filter (rc bs) ++ [i]).filterMap fun i => (bs[i]?).map fun b => (b.1, ren (come bs) b.2)).map encK))) := by
          rintro x rfl
          rw [ty_ref hr]
          refine ⟨rfl, ?_⟩
          have hsl : slD (encK b) none (some (-1)) st2 = some (.tup (b.1.map Row.enc), st2) := by
            unfold encK
            rw [slD_tup, cutD_init, List.dropLast_concat]
          rw [hsl]
          walk_at "mi"
          have hsz := hb.sz b hm
          rw [addD_tup, if_pos (by rw [List.length_map, List.length_singleton]; omega)]
          walk_at "mi"
          rw [app_ref hr, if_pos (by rw [List.length_map]; omega)]
          walk_at "mi"
          refine ⟨⟨_, _, rfl⟩, hG2.set (Nat.le_refl _), ?_⟩
          rw [List.getElem?_set_self (List.getElem?_eq_some_iff.mp hr).1, List.filterMap_append, List.map_append]
          congr 3
          simp only [List.filterMap_cons, hbi, Option.map_some, List.filterMap_nil, List.map_cons, List.map_nil]
          rfl
        obtain ⟨rs, r⟩ := b
        have hla := hb.la _ hm
        cases r with
        | jump t =>
          unfold Row.enc
          walk_at "mi"
          have ht := inC t (by simp [Row.ways])
          rw [dget_num hd2 ht.1 ht.2]
          walk_at "mi"
          exact fin _ rfl
        | branch a t u =>
          unfold Row.enc
          walk_at "mi"
          have ht := inC t (by simp [Row.ways])
          have hu := inC u (by simp [Row.ways])
          rw [dget_num hd2 ht.1 ht.2]
          walk_at "mi"
          rw [dget_num hd2 hu.1 hu.2]
          walk_at "mi"
          exact fin _ rfl
        | stop a =>
          unfold Row.enc
          walk_at "mi"
          exact fin _ rfl
        | _ => cases hla
    · rintro env st2 ⟨⟨x3, x5, rfl⟩, hG2, hr⟩
      walk_at "mi"
      rw [tupB_ref hr]
      walk_at "mi"
      exact k _ (hG1.trans (hG.trans hG2))
end My

set_option Elab.async false
set_option linter.all false
set_option maxRecDepth 100000
set_option maxHeartbeats 4000000
namespace My
open PySem PySem.Spec PyProof.Rows L2 Mi
local macro_rules | `(tactic| walk_at "mi") => `(tactic| try simp only [↓w_vr, ↓w_cn, ↓w_e2, ↓w_tup, ↓w_lst, ↓w_aN, ↓w_aC, ↓w_call, ↓w_B, ↓w_M, ↓w_oN, ↓w_oS, ↓w_sl, ↓w_B1, ↓w_Tl, ↓w_An, ↓w_Or, ↓w_No, ↓w_eAn, ↓w_eO, ↓w_eNo, ↓w_eNeg, ↓w_eIf, ↓w_ch, ↓w_Dn, ↓w_lRg1, ↓w_trg1, ↓w_yes, ↓ws_forS, ↓ws_forG, ↓w_lcS, ↓w_lcG, ↓w_dcS, ↓w_dcG, items_tup, items_rol, ↓ws_seq, ↓ws_skip, ↓ws_set, ↓ws_ex, ↓ws_ret, ↓ws_retN, ↓ws_bk, ↓ws_ct, ↓ws_if, ↓ws_asg, ↓ws_dput, ↓ws_daug, ↓ws_lput, ↓ws_aug, ↓wp_some, ↓wp_none, ↓wp_if, ↓wp_map, ↓wf_ok, ↓asI_int, ↓asBl_bl,
  List.getElem?_cons_zero, List.getElem?_cons_succ, List.set_cons_zero, List.set_cons_succ, opI_int, addD_int, mulD_int, intB_int, intB_bl, absB_int, lenB_rol, lenB_tup, ixD_rol, ixD_tup, atI0, atI1, atI2, atI3, atI4, asgT_n, tyQ, appQ, slQ, slD_tup, wipeE, List.length_cons, List.length_nil, List.length_map, true_and, and_true, decide_true, ↓reduceIte, bl_t, List.map_cons, List.map_nil, List.cons_append, List.nil_append, List.replicate_succ, List.replicate_zero, Nat.reduceAdd, Nat.reduceLeDiff, Int.reduceLT, Int.reduceLE, Int.reduceNeg, Int.reduceSub, eqD_str, eqD_int, neD_int, ofStr_eq, String.reduceEq, decide_false, decide_true, in_tup, flatD_str, flatD_int, List.all_cons, List.all_nil, List.any_cons, List.any_nil, eqF_str, Bool.and_true, Bool.and_self, Bool.or_false, Bool.or_true, Bool.true_or, Bool.false_or, Bool.false_eq_true, Bool.not_true, Bool.not_false, in_top, ixD_top, tupB_top, items_top, lenB_top, tru_bl, asgT_2, asgT_3, ↓w_pN, ↓w_pC, ↓w_Dct, ixD_tup, Int.cast_ofNat_Int, Int.reduceEq, ↓w_DGet2, ↓w_callV, ↓ws_laug])

/-! ### a block takes over the rows of the only one behind it -/
def allWays (bs : List Bk) : List Int := bs.flatMap fun b => b.2.ways
def joinAt (bs : List Bk) (i : Nat) : Option (List Bk) := match bs[i]? with
  | some (rs, .jump t) => if t ≠ (i : Int) ∧ t ≠ 0 ∧ (allWays bs).count t = 1 then (bs[t.toNat]?).map fun b => bs.set i (rs ++ b.1, b.2) else none
  | _ => none
def joined (bs : List Bk) : Option (List Bk) := (List.range bs.length).findSome? (joinAt bs)
def cntL (n : Nat) (ws : List Int) : List D := (List.range n).map fun (j : Nat) => D.int ((ws.count (j : Int) : Nat) : Int)
theorem cntL_nil (n : Nat) : cntL n [] = List.replicate n (D.int 0) := by
  unfold cntL
  rw [List.eq_replicate_iff]
  refine ⟨by rw [List.length_map, List.length_range], fun b hb => ?_⟩
  obtain ⟨j, _, e⟩ := List.mem_map.mp hb
  rw [← e]; rfl
theorem cntL_get {n : Nat} {ws : List Int} {t : Int} (h : 0 ≤ t ∧ t < n) : (cntL n ws)[t.toNat]? = some (.int ((ws.count t : Nat) : Int)) := by
  unfold cntL
  rw [List.getElem?_map, List.getElem?_range (by omega), Option.map_some, Int.toNat_of_nonneg h.1]
theorem cntL_set {n : Nat} {ws : List Int} {t : Int} (h : 0 ≤ t ∧ t < n) : (cntL n ws).set t.toNat (.int ((ws.count t : Nat) + 1)) = cntL n (ws ++ [t]) := by
  refine List.ext_getElem? fun i => ?_
  by_cases c : t.toNat = i
  · subst c
    rw [List.getElem?_set_self (by unfold cntL; rw [List.length_map, List.length_range]; omega), cntL_get h, List.count_append]
    simp
  · rw [List.getElem?_set_ne c]
    unfold cntL
    rw [List.getElem?_map, List.getElem?_map]
    by_cases d : i < n
    · rw [List.getElem?_range d, Option.map_some, Option.map_some, List.count_append]
      have : ¬ (t = (i : Int)) := by omega
      simp [this]
    · rw [List.getElem?_eq_none (by rw [List.length_range]; omega)]; rfl
theorem cntL_len (n : Nat) (ws : List Int) : (cntL n ws).length = n := by unfold cntL; rw [List.length_map, List.length_range]
theorem ixL_ref {p : Nat} {ds : List D} {i : Int} {s : S} (h : s[p]? = some (.lst ds)) : ixLD (.ref p) (.int i) s = (atI ds i).map fun x => (x, s) := by
  simp only [ixLD, h]
theorem setL_of {p : Nat} {ds : List D} {t : Int} {x : D} {s : S} (h : s[p]? = some (.lst ds)) (h0 : 0 ≤ t) (ht : t < ds.length) : setLD (.ref p) (.int t) x s = some (s.set p (.lst (ds.set t.toNat x))) := by
  have := setL_ref (i := t.toNat) (x := x) h (by omega)
  rwa [Int.toNat_of_nonneg h0] at this
theorem joined_ok {bs : List Bk} {s : S} {Q : D → S → Prop} (hb : BsOk bs) (k : ∀ s', Gr s s' → Q (optE (joined bs)) s') : WF (F_joined [.tup (bs.map encK)] s) Q := by
  unfold F_joined
  refine (wf_fn (by rfl)).mpr ?_
  unfold g_joined
  have hle := hb.le
  walk_at "mi"
  rw [mul_rep top_get (by omega)]
  walk_at "mi"
  rw [← cntL_nil]
  generalize hq : (s ++ [O.lst [D.int 0]]).length = q
  have hqs : s.length ≤ q := by rw [← hq, List.length_append]; omega
  have h0 : (s ++ [O.lst [D.int 0]] ++ [O.lst (cntL bs.length [])])[q]? = some (.lst (cntL bs.length [])) := by rw [← hq]; exact top_get
  have hG0 : Gr s (s ++ [O.lst [D.int 0]] ++ [O.lst (cntL bs.length [])]) := (Gr.app _ _).trans (Gr.app _ _)
  generalize s ++ [O.lst [D.int 0]] ++ [O.lst (cntL bs.length [])] = s1 at *
  refine fs_tup (fun i env st => (∃ x2 x3 x4 x5, env = [some (.tup (bs.map encK)), some (.ref q), x2, x3, x4, x5]) ∧ Gr s st ∧ st[q]? = some (.lst (cntL bs.length (allWays (bs.take i))))) ⟨⟨_, _, _, _, rfl⟩, hG0, h0⟩ ?_ ?_
  · rintro i d env st hi ⟨⟨x2, x3, x4, x5, rfl⟩, hG, hl⟩
    rw [List.getElem?_map] at hi
    cases hbi : bs[i]? with
    | none => rw [hbi] at hi; cases hi
    | some b =>
      rw [hbi] at hi; cases hi
      have hm := List.mem_of_getElem? hbi
      rw [asgT_n, wp_some]
      unfold g_joined_b2
      walk_at "mi"
      rw [ways_ok (hb.la b hm)]
      walk_at "mi"
      have htk : allWays (bs.take (i + 1)) = allWays (bs.take i) ++ b.2.ways := by
        unfold allWays
        rw [List.take_add_one, hbi, List.flatMap_append]; simp
      refine fs_tup (fun j env st => (∃ x2 x3 x4 x5, env = [some (.tup (bs.map encK)), some (.ref q), x2, x3, x4, x5]) ∧ Gr s st ∧ st[q]? = some (.lst (cntL bs.length (allWays (bs.take i) ++ b.2.ways.take j)))) ⟨⟨_, _, _, _, rfl⟩, hG, by rw [List.take_zero, List.append_nil]; exact hl⟩ ?_ ?_
      · rintro j d env st2 hj ⟨⟨x2, x3, x4, x5, rfl⟩, hG2, hl2⟩
        rw [List.getElem?_map] at hj
        cases htj : b.2.ways[j]? with
        | none => rw [htj] at hj; cases hj
        | some t =>
          rw [htj] at hj; cases hj
          have ht := hb.to b hm t (List.mem_of_getElem? htj)
          rw [asgT_n, wp_some]
          unfold g_joined_b1
          walk_at "mi"
          rw [ixL_ref hl2, atI_of ht.1 (cntL_get ht)]
          walk_at "mi"
          rw [setL_of hl2 ht.1 (by rw [cntL_len]; omega), cntL_set ht]
          walk_at "mi"
          refine ⟨⟨_, _, _, _, rfl⟩, hG2.set hqs, ?_⟩
          rw [List.getElem?_set_self (List.getElem?_eq_some_iff.mp hl2).1, List.take_add_one, htj, Option.toList_some, List.append_assoc]
      · rintro env st2 ⟨⟨x2, x3, x4, x5, rfl⟩, hG2, hl2⟩
        rw [List.length_map, List.take_length] at hl2
        exact ⟨⟨_, _, _, _, rfl⟩, hG2, by rw [htk]; exact hl2⟩
  · rintro env st ⟨⟨x2, x3, x4, x5, rfl⟩, hG, hl⟩
    rw [List.length_map, List.take_length] at hl
    walk_at "mi"
    refine ⟨by omega, ?_⟩
    rw [Int.toNat_natCast]
    refine fs_rng (fun i env st' => st' = st ∧ (∃ x2 x3 x4 x5, env = [some (.tup (bs.map encK)), some (.ref q), x2, x3, x4, x5]) ∧ ∀ j, j < i → joinAt bs j = none) ⟨rfl, ⟨_, _, _, _, rfl⟩, fun j h => by omega⟩ ?_ ?_
    · rintro i env st' hi ⟨rfl, ⟨x2, x3, x4, x5, rfl⟩, hn⟩
      obtain ⟨b, hbi⟩ : ∃ b, bs[i]? = some b := ⟨_, List.getElem?_eq_getElem hi⟩
      have hix : atI (bs.map encK) (i : Int) = some (encK b) := atI_nat' (by rw [List.getElem?_map, hbi]; rfl)
      have hm := List.mem_of_getElem? hbi
      have hlb := hb.la b hm
      unfold g_joined_b3
      walk_at "mi"
      rw [hix]
      walk_at "mi"
      rw [last_ix]
      walk_at "mi"
      have nx : joinAt bs i = none → ∀ j, j < i + 1 → joinAt bs j = none := fun z j hj => by
        by_cases c : j = i
        · rw [c]; exact z
        · exact hn j (by omega)
      obtain ⟨rs, r⟩ := b
      have hto := hb.to _ hm
      have hsz := hb.sz _ hm
      cases r with
      | jump t =>
        have ht := hto t (by simp [Row.ways])
        obtain ⟨b', hbt⟩ : ∃ b', bs[t.toNat]? = some b' := ⟨_, List.getElem?_eq_getElem (by omega)⟩
        have hm' := List.mem_of_getElem? hbt
        have hsz' := hb.sz _ hm'
        unfold Row.enc
        walk_at "mi"
        have e : joinAt bs i = if t ≠ (i : Int) ∧ t ≠ 0 ∧ (allWays bs).count t = 1 then some (bs.set i (rs ++ b'.1, b'.2)) else none := by
          unfold joinAt; rw [hbi]; dsimp only; rw [hbt]; rfl
        by_cases c1 : t = (i : Int)
        · simp only [c1, decide_true, Bool.not_true, Bool.false_eq_true, ↓reduceIte]
          exact ⟨⟨_, _, _, _, rfl⟩, nx (by rw [e, if_neg fun z => z.1 c1])⟩
        simp only [c1, decide_false, Bool.not_false, ↓reduceIte]
        by_cases c2 : t = 0
        · simp only [c2, decide_true, Bool.not_true, Bool.false_eq_true, ↓reduceIte]
          exact ⟨⟨_, _, _, _, rfl⟩, nx (by rw [e, if_neg fun z => z.2.1 c2])⟩
        simp only [c2, decide_false, Bool.not_false, ↓reduceIte]
        rw [ixD_ref hl, atI_of ht.1 (cntL_get ht)]
        walk_at "mi"
        by_cases c3 : (allWays bs).count t = 1
        · have c3' : (((allWays bs).count t : Nat) : Int) = 1 := by rw [c3]; rfl
          simp only [c3', ↓reduceIte]
          rw [if_pos ⟨c1, c2, c3⟩] at e
          have e2 : joined bs = some (bs.set i (rs ++ b'.1, b'.2)) := first_some hi hn e
          rw [e2] at k
          rw [cutD_take]
          have hsl : slD (encK (rs, Row.jump t)) none (some (-1)) st' = some (.tup (rs.map Row.enc), st') := by
            unfold encK
            rw [slD_tup, cutD_init, List.dropLast_concat]
          rw [hsl]
          walk_at "mi"
          rw [atI_of ht.1 (d := encK b') (by rw [List.getElem?_map, hbt]; rfl)]
          walk_at "mi"
          have ead : addD (.tup (rs.map Row.enc)) (encK b') st' = some (encK (rs ++ b'.1, b'.2), st') := by
            unfold encK
            rw [addD_tup, if_pos (by rw [List.length_append, List.length_map, List.length_map, List.length_singleton]; dsimp only at hsz; omega), List.map_append, List.append_assoc]
          rw [ead]
          walk_at "mi"
          rw [addD_tup, if_pos (by rw [List.length_take, List.length_map, List.length_singleton]; omega)]
          walk_at "mi"
          rw [show (i : Int) + 1 = ((i + 1 : Nat) : Int) by omega, cutD_drop, addD_tup, if_pos (by rw [List.length_append, List.length_take, List.length_drop, List.length_map, List.length_singleton]; omega)]
          walk_at "mi"
          have := k _ hG
          unfold optE at this
          dsimp only at this
          rw [List.map_set, List.set_eq_take_append_cons_drop, if_pos (by rw [List.length_map]; exact hi)] at this
          rw [List.append_assoc]
          exact this
        · have c3' : ¬ ((((allWays bs).count t : Nat) : Int) = 1) := by omega
          simp only [c3', ↓reduceIte]
          exact ⟨⟨_, _, _, _, rfl⟩, nx (by rw [e, if_neg fun z => c3 z.2.2])⟩
      | branch a t u =>
        have e : joinAt bs i = none := by unfold joinAt; rw [hbi]
        unfold Row.enc
        walk_at "mi"
        exact ⟨⟨_, _, _, _, rfl⟩, nx e⟩
      | stop t =>
        have e : joinAt bs i = none := by unfold joinAt; rw [hbi]
        unfold Row.enc
        walk_at "mi"
        exact ⟨⟨_, _, _, _, rfl⟩, nx e⟩
      | _ => cases hlb
    · rintro env st' ⟨rfl, ⟨x2, x3, x4, x5, rfl⟩, hn⟩
      have e2 : joined bs = none := first_none hn
      rw [e2] at k
      walk_at "mi"
      exact k _ hG
end My

set_option Elab.async false
set_option linter.all false
set_option maxRecDepth 100000
set_option maxHeartbeats 4000000
namespace My
open PySem PySem.Spec PyProof.Rows L2 Mi
local macro_rules | `(tactic| walk_at "mi") => `(tactic| try simp only [↓w_vr, ↓w_cn, ↓w_e2, ↓w_tup, ↓w_lst, ↓w_aN, ↓w_aC, ↓w_call, ↓w_B, ↓w_M, ↓w_oN, ↓w_oS, ↓w_sl, ↓w_B1, ↓w_Tl, ↓w_An, ↓w_Or, ↓w_No, ↓w_eAn, ↓w_eO, ↓w_eNo, ↓w_eNeg, ↓w_eIf, ↓w_ch, ↓w_Dn, ↓w_lRg1, ↓w_trg1, ↓w_yes, ↓ws_forS, ↓ws_forG, ↓w_lcS, ↓w_lcG, ↓w_dcS, ↓w_dcG, items_tup, items_rol, ↓ws_seq, ↓ws_skip, ↓ws_set, ↓ws_ex, ↓ws_ret, ↓ws_retN, ↓ws_bk, ↓ws_ct, ↓ws_if, ↓ws_asg, ↓ws_dput, ↓ws_daug, ↓ws_lput, ↓ws_aug, ↓wp_some, ↓wp_none, ↓wp_if, ↓wp_map, ↓wf_ok, ↓asI_int, ↓asBl_bl,
  List.getElem?_cons_zero, List.getElem?_cons_succ, List.set_cons_zero, List.set_cons_succ, opI_int, addD_int, mulD_int, intB_int, intB_bl, absB_int, lenB_rol, lenB_tup, ixD_rol, ixD_tup, atI0, atI1, atI2, atI3, atI4, asgT_n, tyQ, appQ, slQ, slD_tup, wipeE, List.length_cons, List.length_nil, List.length_map, true_and, and_true, decide_true, ↓reduceIte, bl_t, List.map_cons, List.map_nil, List.cons_append, List.nil_append, List.replicate_succ, List.replicate_zero, Nat.reduceAdd, Nat.reduceLeDiff, Int.reduceLT, Int.reduceLE, Int.reduceNeg, Int.reduceSub, eqD_str, eqD_int, neD_int, ofStr_eq, String.reduceEq, decide_false, decide_true, in_tup, flatD_str, flatD_int, List.all_cons, List.all_nil, List.any_cons, List.any_nil, eqF_str, Bool.and_true, Bool.and_self, Bool.or_false, Bool.or_true, Bool.true_or, Bool.false_or, Bool.false_eq_true, Bool.not_true, Bool.not_false, in_top, ixD_top, tupB_top, items_top, lenB_top, tru_bl, asgT_2, asgT_3, ↓w_pN, ↓w_pC, ↓w_Dct, ixD_tup, Int.cast_ofNat_Int, Int.reduceEq, ↓w_DGet2, ↓w_callV, ↓ws_laug])

/-! ### the law's own functions, over a list of blocks -/
def wayK (b : Bk) : List (Key × D) := match b.2 with
  | .jump t => [(Sum.inr "jump", .tup [.int t]), (Sum.inr "branch", .tup []), (Sum.inr "stop", .tup [])]
  | .branch a t u => [(Sum.inr "jump", .tup [.int a, .int t, .int u]), (Sum.inr "branch", .tup [.int t, .int u]), (Sum.inr "stop", .tup [])]
  | .stop a => [(Sum.inr "jump", .tup [.int a]), (Sum.inr "branch", .tup []), (Sum.inr "stop", .tup [])]
  | _ => []
theorem law_ways_ok {b : Bk} {s : S} {Q : D → S → Prop} (hl : b.2.isLast = true) (k : ∀ q s', Gr s s' → s.length ≤ q → s'[q]? = some (.lst (b.2.ways.map D.int)) → Q (.ref q) s') : WF (F_law_ways [encK b] s) Q := by
  unfold F_law_ways
  refine (wf_fn (by rfl)).mpr ?_
  unfold g_law_ways
  walk_at "mi"
  rw [last_ix]
  walk_at "mi"
  obtain ⟨rs, r⟩ := b
  cases r <;> first | (cases hl; done) | skip
  case jump t =>
    unfold Row.enc
    walk_at "mi"
    have e : ∀ (a b : D), keyed [(D.str "jump", a), (D.str "branch", b), (D.str "stop", .tup [])] = some ([(Sum.inr "jump", a), (Sum.inr "branch", b), (Sum.inr "stop", .tup [])] : List (Key × D)) := fun a b => by kernel_rfl
    rw [e]
    walk_at "mi"
    rw [dget_k top_get (k' := .inr "jump") rfl]
    have e2 : ∀ (a b : D), valD (mergeD [] [(Sum.inr "jump", a), (Sum.inr "branch", b), (Sum.inr "stop", .tup [])]) (.inr "jump") = some a := fun a b => by kernel_rfl
    rw [e2]
    walk_at "mi"
    rw [lstB_tup]
    walk_at "mi"
    exact k _ _ ((Gr.app _ _).trans (Gr.app _ _)) (by rw [List.length_append]; omega) top_get
  case branch a t u =>
    unfold Row.enc
    walk_at "mi"
    have e : ∀ (a b : D), keyed [(D.str "jump", a), (D.str "branch", b), (D.str "stop", .tup [])] = some ([(Sum.inr "jump", a), (Sum.inr "branch", b), (Sum.inr "stop", .tup [])] : List (Key × D)) := fun a b => by kernel_rfl
    rw [e]
    walk_at "mi"
    rw [dget_k top_get (k' := .inr "branch") rfl]
    have e2 : ∀ (a b : D), valD (mergeD [] [(Sum.inr "jump", a), (Sum.inr "branch", b), (Sum.inr "stop", .tup [])]) (.inr "branch") = some b := fun a b => by kernel_rfl
    rw [e2]
    walk_at "mi"
    rw [lstB_tup]
    walk_at "mi"
    exact k _ _ ((Gr.app _ _).trans (Gr.app _ _)) (by rw [List.length_append]; omega) top_get
  case stop a =>
    unfold Row.enc
    walk_at "mi"
    have e : ∀ (a b : D), keyed [(D.str "jump", a), (D.str "branch", b), (D.str "stop", .tup [])] = some ([(Sum.inr "jump", a), (Sum.inr "branch", b), (Sum.inr "stop", .tup [])] : List (Key × D)) := fun a b => by kernel_rfl
    rw [e]
    walk_at "mi"
    rw [dget_k top_get (k' := .inr "stop") rfl]
    have e2 : ∀ (a b : D), valD (mergeD [] [(Sum.inr "jump", a), (Sum.inr "branch", b), (Sum.inr "stop", .tup [])]) (.inr "stop") = some (.tup []) := fun a b => by kernel_rfl
    rw [e2]
    walk_at "mi"
    rw [lstB_tup]
    walk_at "mi"
    exact k _ _ ((Gr.app _ _).trans (Gr.app _ _)) (by rw [List.length_append]; omega) top_get
theorem law_alone_ok {b : Bk} {s : S} {Q : D → S → Prop} (hl : b.2.isLast = true) (hi : ∀ r ∈ b.1, r.isLast = false) : WF (F_law_alone [encK b] s) Q ↔ Q (.bl (alone b)) s := by
  exact alone_ok hl hi
theorem go_nx {bs : List Bk} {n c : Nat} : go bs (n + 1) c = match nx bs c with | none => (c : Int) | some j => go bs n j := rfl
theorem law_end_ok {bs : List Bk} {i p : Nat} {s : S} {Q : D → S → Prop} (hb : BsOk bs) (hs : s[p]? = some (.lst (bs.map encK))) (hi : i < bs.length) (k : Q (.int (endOf bs i)) s) : WF (F_law_end [.ref p, .int (i : Int)] s) Q := by
  unfold F_law_end
  refine (wf_fn (by rfl)).mpr ?_
  unfold g_law_end
  have hle := hb.le
  walk_at "mi"
  rw [lenB_ref hs, List.length_map]
  walk_at "mi"
  refine ⟨by omega, ?_⟩
  rw [show ((bs.length : Int) + 1).toNat = bs.length + 1 by omega]
  refine fs_rng (fun j env st => st = s ∧ ∃ (c : Nat) (x : Option D), env = [some (.ref p), some (.int (c : Int)), x] ∧ c < bs.length ∧ endOf bs i = go bs (bs.length + 1 - j) c) ⟨rfl, i, _, rfl, hi, rfl⟩ ?_ ?_
  · rintro j env st hj ⟨rfl, c, x, rfl, hc, hgo⟩
    obtain ⟨b, hbc⟩ : ∃ b, bs[c]? = some b := ⟨_, List.getElem?_eq_getElem hc⟩
    have hm := List.mem_of_getElem? hbc
    have hix : atI (bs.map encK) (c : Int) = some (encK b) := atI_nat' (by rw [List.getElem?_map, hbc]; rfl)
    unfold g_law_end_b1
    walk_at "mi"
    rw [ixD_ref hs, hix]
    walk_at "mi"
    rw [law_alone_ok (hb.la b hm) (hb.inn b hm), nx_alone hbc]
    walk_at "mi"
    rw [show bs.length + 1 - j = (bs.length - j) + 1 by omega, go_nx] at hgo
    cases hnx : nx bs c with
    | none =>
      rw [hnx] at hgo
      simp only [Option.isSome_none, Bool.not_false, ↓reduceIte]
      dsimp only at hgo
      rw [← hgo]; exact k
    | some y =>
      rw [hnx] at hgo
      dsimp only at hgo
      simp only [Option.isSome_some, Bool.not_true, Bool.false_eq_true, ↓reduceIte]
      have hb2 : b.1 = [] ∧ ∃ t, b.2 = .jump t ∧ t.toNat = y := by
        unfold nx at hnx
        rw [hbc] at hnx
        obtain ⟨rs, r⟩ := b
        cases rs with
        | nil => cases r <;> first | exact ⟨rfl, _, rfl, Option.some.inj hnx⟩ | cases hnx
        | cons => cases hnx
      obtain ⟨hb1, t, hbt, hty⟩ := hb2
      have ht := hb.to b hm t (by rw [hbt]; simp [Row.ways])
      rw [ixD_ref hs, hix]
      walk_at "mi"
      unfold encK
      rw [hb1, hbt]
      unfold Row.enc
      walk_at "mi"
      exact ⟨y, _, by rw [show t = (y : Int) by omega], by omega, by rw [hgo, show bs.length + 1 - (j + 1) = bs.length - j by omega]⟩
  · rintro env st ⟨rfl, c, x, rfl, hc, hgo⟩
    walk_at "mi"
    rw [show bs.length + 1 - (bs.length + 1) = 0 by omega] at hgo
    have hgo : endOf bs i = -1 := hgo
    rw [← hgo]; exact k
theorem law_with_ok {ds : List D} {i p : Nat} {d : D} {s : S} {Q : D → S → Prop} (hs : s[p]? = some (.lst ds)) (hi : i < ds.length) (hle : ds.length ≤ 1000) (k : ∀ q s', Gr s s' → s.length ≤ q → s'[q]? = some (.lst (ds.set i d)) → Q (.ref q) s') : WF (F_law_with [.ref p, .int (i : Int), d] s) Q := by
  unfold F_law_with
  refine (wf_fn (by rfl)).mpr ?_
  unfold g_law_with
  walk_at "mi"
  rw [slD_ref hs, cutD_take]
  walk_at "mi"
  have e1 : addD (.ref s.length) (.ref (s ++ [O.lst (ds.take i)]).length) ((s ++ [O.lst (ds.take i)]) ++ [O.lst [d]]) = some (.ref ((s ++ [O.lst (ds.take i)]) ++ [O.lst [d]]).length, ((s ++ [O.lst (ds.take i)]) ++ [O.lst [d]]) ++ [O.lst (ds.take i ++ [d])]) := by
    rw [add_refs (old_get top_get) top_get, if_pos (by rw [List.length_take, List.length_singleton]; omega)]
  rw [e1]
  walk_at "mi"
  have hs2 : (((s ++ [O.lst (ds.take i)]) ++ [O.lst [d]]) ++ [O.lst (ds.take i ++ [d])])[p]? = some (.lst ds) := old_get (old_get (old_get hs))
  rw [slD_ref hs2, show (i : Int) + 1 = ((i + 1 : Nat) : Int) by omega, cutD_drop]
  walk_at "mi"
  rw [add_refs (old_get top_get) top_get, if_pos (by rw [List.length_append, List.length_take, List.length_drop, List.length_singleton]; omega)]
  walk_at "mi"
  refine k _ _ (((((Gr.app _ _).trans (Gr.app _ _)).trans (Gr.app _ _)).trans (Gr.app _ _)).trans (Gr.app _ _)) (by simp only [List.length_append]; omega) ?_
  rw [top_get, List.set_eq_take_append_cons_drop, if_pos hi, List.append_assoc]
  rfl
end My

set_option Elab.async false
set_option linter.all false
set_option maxRecDepth 100000
set_option maxHeartbeats 4000000
namespace My
open PySem PySem.Spec PyProof.Rows L2 Mi
local macro_rules | `(tactic| walk_at "mi") => `(tactic| try simp only [↓w_vr, ↓w_cn, ↓w_e2, ↓w_tup, ↓w_lst, ↓w_aN, ↓w_aC, ↓w_call, ↓w_B, ↓w_M, ↓w_oN, ↓w_oS, ↓w_sl, ↓w_B1, ↓w_Tl, ↓w_An, ↓w_Or, ↓w_No, ↓w_eAn, ↓w_eO, ↓w_eNo, ↓w_eNeg, ↓w_eIf, ↓w_ch, ↓w_Dn, ↓w_lRg1, ↓w_trg1, ↓w_yes, ↓ws_forS, ↓ws_forG, ↓w_lcS, ↓w_lcG, ↓w_dcS, ↓w_dcG, items_tup, items_rol, ↓ws_seq, ↓ws_skip, ↓ws_set, ↓ws_ex, ↓ws_ret, ↓ws_retN, ↓ws_bk, ↓ws_ct, ↓ws_if, ↓ws_asg, ↓ws_dput, ↓ws_daug, ↓ws_lput, ↓ws_aug, ↓wp_some, ↓wp_none, ↓wp_if, ↓wp_map, ↓wf_ok, ↓asI_int, ↓asBl_bl,
  List.getElem?_cons_zero, List.getElem?_cons_succ, List.set_cons_zero, List.set_cons_succ, opI_int, addD_int, mulD_int, intB_int, intB_bl, absB_int, lenB_rol, lenB_tup, ixD_rol, ixD_tup, atI0, atI1, atI2, atI3, atI4, asgT_n, tyQ, appQ, slQ, slD_tup, wipeE, List.length_cons, List.length_nil, List.length_map, true_and, and_true, decide_true, ↓reduceIte, bl_t, List.map_cons, List.map_nil, List.cons_append, List.nil_append, List.replicate_succ, List.replicate_zero, Nat.reduceAdd, Nat.reduceLeDiff, Int.reduceLT, Int.reduceLE, Int.reduceNeg, Int.reduceSub, eqD_str, eqD_int, neD_int, ofStr_eq, String.reduceEq, decide_false, decide_true, in_tup, flatD_str, flatD_int, List.all_cons, List.all_nil, List.any_cons, List.any_nil, eqF_str, Bool.and_true, Bool.and_self, Bool.or_false, Bool.or_true, Bool.true_or, Bool.false_or, Bool.false_eq_true, Bool.not_true, Bool.not_false, in_top, ixD_top, tupB_top, items_top, lenB_top, tru_bl, asgT_2, asgT_3, ↓w_pN, ↓w_pC, ↓w_Dct, ixD_tup, Int.cast_ofNat_Int, Int.reduceEq, ↓w_DGet2, ↓w_callV, ↓ws_laug])

/-! ### what can be come to, by rounds -/
structure CI (bs : List Bk) (L : List Int) : Prop where
  nd : L.Nodup
  el : ∀ x ∈ L, 0 ≤ x ∧ x < bs.length ∧ Reach bs x.toNat
  z : (0 : Int) ∈ L
def full (bs : List Bk) (L : List Int) : Prop := ∀ i, Reach bs i → (i : Int) ∈ L
theorem reach_lt {bs : List Bk} (hb : BsOk bs) {i : Nat} (h : Reach bs i) : i < bs.length := by
  cases h with
  | zero => exact hb.ne
  | step hr hb' ht => have := hb.to _ (List.mem_of_getElem? hb') _ ht; omega
theorem CI.snoc {bs : List Bk} {L : List Int} {x : Int} (h : CI bs L) (hx : x ∉ L) (h0 : 0 ≤ x ∧ x < bs.length ∧ Reach bs x.toNat) : CI bs (L ++ [x]) := by
  refine ⟨List.nodup_append.mpr ⟨h.nd, (by simp), fun a ha b hb z => hx (by rw [List.mem_singleton.mp hb] at z; exact z ▸ ha)⟩, fun y hy => ?_, List.mem_append.mpr (Or.inl h.z)⟩
  rcases List.mem_append.mp hy with hy | hy
  · exact h.el y hy
  · rw [List.mem_singleton.mp hy]; exact h0
noncomputable def comeI (bs : List Bk) : List Int := (come bs).map fun (i : Nat) => (i : Int)
theorem comeI_eq {bs : List Bk} (hb : BsOk bs) {L : List Int} (h : CI bs L) (hf : full bs L) : sortI L = comeI bs := by
  refine (sort_uniq ?_ ?_).symm
  · refine (List.perm_ext_iff_of_nodup ?_ h.nd).mpr fun x => ?_
    · unfold comeI
      exact List.Pairwise.map _ (fun a b hab z => hab (by omega)) (come_nd bs)
    · unfold comeI
      rw [List.mem_map]
      constructor
      · rintro ⟨i, hi, rfl⟩
        exact hf i (mem_come.mp hi).2
      · intro hx
        have := h.el x hx
        exact ⟨x.toNat, mem_come.mpr ⟨by omega, this.2.2⟩, by omega⟩
  · unfold comeI come
    refine List.Pairwise.map _ (R := fun (a b : Nat) => a < b) (fun a b hab => by omega) ?_
    exact List.Pairwise.filter _ List.pairwise_lt_range
theorem take_succ_mem {α : Type} {l : List α} {i : Nat} {x y : α} (h : l[i]? = some x) (hy : y ∈ l.take (i + 1)) : y ∈ l.take i ∨ y = x := by
  rw [List.take_add_one, h, Option.toList_some] at hy
  exact (List.mem_append.mp hy).imp id List.mem_singleton.mp
theorem law_come_ok {bs : List Bk} {p : Nat} {s : S} {Q : D → S → Prop} (hb : BsOk bs) (hs : s[p]? = some (.lst (bs.map encK))) (k : ∀ q s', Gr s s' → s.length ≤ q → s'[q]? = some (.lst ((comeI bs).map D.int)) → Q (.ref q) s') : WF (F_law_come [.ref p] s) Q := by
  unfold F_law_come
  refine (wf_fn (by rfl)).mpr ?_
  unfold g_law_come
  have hle := hb.le
  walk_at "mi"
  rw [lenB_ref (old_get hs), List.length_map]
  walk_at "mi"
  refine ⟨by omega, ?_⟩
  rw [Int.toNat_natCast]
  refine fs_rng (fun i env st => (∃ x2 x3 x4, env = [some (.ref p), some (.ref s.length), x2, x3, x4]) ∧ Gr s st ∧ s.length < st.length ∧ ∃ L : List Int, CI bs L ∧ st[s.length]? = some (.lst (L.map D.int)) ∧ (full bs L ∨ i + 1 ≤ L.length)) ⟨⟨_, _, _, rfl⟩, Gr.app _ _, by rw [List.length_append, List.length_singleton]; omega, [0], ⟨by simp, fun x hx => by rw [List.mem_singleton.mp hx]; exact ⟨by omega, by have := hb.ne; omega, Reach.zero⟩, List.mem_singleton.mpr rfl⟩, top_get, Or.inr (by simp)⟩ ?_ ?_
  · rintro i env st hi ⟨⟨x2, x3, x4, rfl⟩, hG, hsl, L0, hL0, hl0, hfu⟩
    unfold g_law_come_b3
    walk_at "mi"
    rw [lstB_ref hl0]
    walk_at "mi"
    have hl0' : (st ++ [O.lst (L0.map D.int)])[s.length]? = some (.lst (L0.map D.int)) := old_get hl0
    have hc : (st ++ [O.lst (L0.map D.int)])[st.length]? = some (.lst (L0.map D.int)) := top_get
    have hG1 : Gr s (st ++ [O.lst (L0.map D.int)]) := hG.trans (Gr.app _ _)
    have hLe0 := nodup_le bs.length L0 hL0.nd fun x hx => ⟨(hL0.el x hx).1, (hL0.el x hx).2.1⟩
    refine fs_inv (fun j env st2 => (∃ x2 x3 x4, env = [some (.ref p), some (.ref s.length), x2, x3, x4]) ∧ Gr s st2 ∧ ∃ L : List Int, CI bs L ∧ st2[s.length]? = some (.lst (L.map D.int)) ∧ (∃ T, L = L0 ++ T) ∧ ∀ x ∈ L0.take j, ∀ b, bs[x.toNat]? = some b → ∀ t ∈ b.2.ways, t ∈ L) (okD_ref.mpr hc) ⟨⟨_, _, _, rfl⟩, hG1, L0, hL0, hl0', ⟨[], by simp⟩, fun x hx => by simp at hx⟩ ?_ ?_
    · rintro j d env st2 hj ⟨⟨x2, x3, x4, rfl⟩, hG2, L, hL, hl, ⟨T, rfl⟩, hcl⟩ hok
      rw [List.getElem?_map] at hj
      cases hxj : L0[j]? with
      | none => rw [hxj] at hj; cases hj
      | some x =>
        rw [hxj] at hj; cases hj
        have hx0 := hL0.el x (List.mem_of_getElem? hxj)
        obtain ⟨b, hbx⟩ : ∃ b, bs[x.toNat]? = some b := ⟨_, List.getElem?_eq_getElem (by omega)⟩
        have hm := List.mem_of_getElem? hbx
        rw [asgT_n, wp_some]
        unfold g_law_come_b2
        walk_at "mi"
        rw [ixD_ref (hG2.get hs), atI_of hx0.1 (d := encK b) (by rw [List.getElem?_map, hbx]; rfl)]
        walk_at "mi"
        refine law_ways_ok (hb.la b hm) ?_
        intro qw s3 hG3 hqw hw3
        rw [items_ref hw3]
        walk_at "mi"
        have hok3 : okD (.ref st.length) (L0.map D.int) s3 := hG3.get hok
        have hl3 := hG3.get hl
        have hG23 := hG2.trans hG3
        have hsl2 : s.length < st2.length := (List.getElem?_eq_some_iff.mp hl).1
        have hol2 : st.length < st2.length := (List.getElem?_eq_some_iff.mp (okD_ref.mp hok)).1
        refine fs_inv (fun k env st4 => (∃ x2 x3 x4, env = [some (.ref p), some (.ref s.length), x2, x3, x4]) ∧ Gr s st4 ∧ okD (.ref st.length) (L0.map D.int) st4 ∧ ∃ L : List Int, CI bs L ∧ st4[s.length]? = some (.lst (L.map D.int)) ∧ (∃ T, L = L0 ++ T) ∧ (∀ x ∈ L0.take j, ∀ b, bs[x.toNat]? = some b → ∀ t ∈ b.2.ways, t ∈ L) ∧ ∀ t ∈ b.2.ways.take k, t ∈ L) (okD_ref.mpr hw3) ⟨⟨_, _, _, rfl⟩, hG23, hok3, L0 ++ T, hL, hl3, ⟨T, rfl⟩, hcl, fun t ht => by simp at ht⟩ ?_ ?_
        · rintro m d env st4 hm' ⟨⟨x2, x3, x4, rfl⟩, hG4, hok4, L, hL, hl4, ⟨T, rfl⟩, hcl, hcw⟩ hokw
          rw [List.getElem?_map] at hm'
          cases htm : b.2.ways[m]? with
          | none => rw [htm] at hm'; cases hm'
          | some t =>
            rw [htm] at hm'; cases hm'
            have htw := List.mem_of_getElem? htm
            have ht := hb.to b hm t htw
            rw [asgT_n, wp_some]
            unfold g_law_come_b1
            walk_at "mi"
            rw [in_ints hl4]
            walk_at "mi"
            have hLe := nodup_le bs.length (L0 ++ T) hL.nd fun x hx => ⟨(hL.el x hx).1, (hL.el x hx).2.1⟩
            by_cases c : t ∈ L0 ++ T
            · simp only [c, decide_true, Bool.not_true, Bool.false_eq_true, ↓reduceIte]
              refine ⟨hokw, ⟨_, _, _, rfl⟩, hG4, hok4, L0 ++ T, hL, hl4, ⟨T, rfl⟩, hcl, fun y hy => ?_⟩
              rcases take_succ_mem htm hy with hy | rfl
              · exact hcw y hy
              · exact c
            · simp only [c, decide_false, Bool.not_false, ↓reduceIte]
              rw [ty_ref hl4, app_ref hl4, if_pos (by rw [List.length_map]; omega)]
              walk_at "mi"
              have hl4l : s.length < st4.length := (List.getElem?_eq_some_iff.mp hl4).1
              refine ⟨?_, ⟨_, _, _, rfl⟩, hG4.set (Nat.le_refl _), ?_, L0 ++ T ++ [t], hL.snoc c ⟨ht.1, ht.2, Reach.step hx0.2.2 hbx htw⟩, ?_, ⟨T ++ [t], by rw [List.append_assoc]⟩, fun x hx b hb t ht => List.mem_append.mpr (Or.inl (hcl x hx b hb t ht)), fun y hy => ?_⟩
              · show (st4.set _ _)[qw]? = _
                rw [List.getElem?_set_ne (by omega)]; exact hokw
              · show (st4.set _ _)[st.length]? = _
                rw [List.getElem?_set_ne (by omega)]; exact hok4
              · rw [List.getElem?_set_self hl4l, List.map_append, List.map_append, List.map_append]; rfl
              · rcases take_succ_mem htm hy with hy | rfl
                · exact List.mem_append.mpr (Or.inl (hcw y hy))
                · exact List.mem_append.mpr (Or.inr (List.mem_singleton.mpr rfl))
        · rintro env st4 ⟨⟨x2, x3, x4, rfl⟩, hG4, hok4, L, hL, hl4, ⟨T, rfl⟩, hcl, hcw⟩ hokw
          rw [List.length_map, List.take_length] at hcw
          refine ⟨hok4, ⟨_, _, _, rfl⟩, hG4, L0 ++ T, hL, hl4, ⟨T, rfl⟩, fun y hy b' hb' t ht => ?_⟩
          rcases take_succ_mem hxj hy with hy | rfl
          · exact hcl y hy b' hb' t ht
          · rw [hbx] at hb'; cases hb'
            exact hcw t ht
    · rintro env st2 ⟨⟨x2, x3, x4, rfl⟩, hG2, L, hL, hl, ⟨T, rfl⟩, hcl⟩ hok
      rw [List.length_map, List.take_length] at hcl
      refine ⟨⟨_, _, _, rfl⟩, hG2, (List.getElem?_eq_some_iff.mp hl).1, L0 ++ T, hL, hl, ?_⟩
      rcases hfu with hfu | hfu
      · exact Or.inl fun i hi => List.mem_append.mpr (Or.inl (hfu i hi))
      · cases T with
        | nil =>
          rw [List.append_nil] at *
          refine Or.inl fun i hi => ?_
          induction hi with
          | zero => exact hL0.z
          | step hr hb' ht ih =>
            have := hcl _ ih _ (by rw [Int.toNat_natCast]; exact hb') _ ht
            have h0 := hb.to _ (List.mem_of_getElem? hb') _ ht
            rwa [Int.toNat_of_nonneg h0.1]
        | cons a T => exact Or.inr (by rw [List.length_append, List.length_cons]; omega)
  · rintro env st ⟨⟨x2, x3, x4, rfl⟩, hG, hsl, L, hL, hl, hfu⟩
    have hLe := nodup_le bs.length L hL.nd fun x hx => ⟨(hL.el x hx).1, (hL.el x hx).2.1⟩
    have hfu : full bs L := hfu.elim id fun z => by omega
    walk_at "mi"
    rw [sort_ref hl, comeI_eq hb hL hfu]
    walk_at "mi"
    exact k _ _ (hG.trans (Gr.app _ _)) hG.1 top_get
theorem comeI_len (bs : List Bk) : (comeI bs).length = (come bs).length := by unfold comeI; rw [List.length_map]
theorem comeI_idx (bs : List Bk) {t : Int} (h0 : 0 ≤ t) (ht : t.toNat ∈ come bs) : t ∈ comeI bs ∧ (comeI bs).idxOf t = (come bs).idxOf t.toNat := by
  have key : ∀ (L : List Nat) (a : Nat), a ∈ L → (a : Int) ∈ L.map (fun (i : Nat) => (i : Int)) ∧ (L.map fun (i : Nat) => (i : Int)).idxOf (a : Int) = L.idxOf a := by
    intro L a
    induction L with
    | nil => intro h; cases h
    | cons b L ih =>
      intro h
      by_cases c : b = a
      · subst c; simp
      · have c2 : ¬ ((b : Int) = a) := by omega
        have := ih ((List.mem_cons.mp h).elim (fun z => absurd z.symm c) id)
        refine ⟨List.mem_map_of_mem h, ?_⟩
        rw [List.map_cons, List.idxOf_cons, List.idxOf_cons, beq_eq_false_iff_ne.mpr c, beq_eq_false_iff_ne.mpr c2, this.2]
  have := key (come bs) t.toNat ht
  rw [Int.toNat_of_nonneg h0] at this
  exact this
end My

set_option Elab.async false
set_option linter.all false
set_option maxRecDepth 100000
set_option maxHeartbeats 4000000
namespace My
open PySem PySem.Spec PyProof.Rows L2 Mi
local macro_rules | `(tactic| walk_at "mi") => `(tactic| try simp only [↓w_vr, ↓w_cn, ↓w_e2, ↓w_tup, ↓w_lst, ↓w_aN, ↓w_aC, ↓w_call, ↓w_B, ↓w_M, ↓w_oN, ↓w_oS, ↓w_sl, ↓w_B1, ↓w_Tl, ↓w_An, ↓w_Or, ↓w_No, ↓w_eAn, ↓w_eO, ↓w_eNo, ↓w_eNeg, ↓w_eIf, ↓w_ch, ↓w_Dn, ↓w_lRg1, ↓w_trg1, ↓w_yes, ↓ws_forS, ↓ws_forG, ↓w_lcS, ↓w_lcG, ↓w_dcS, ↓w_dcG, items_tup, items_rol, ↓ws_seq, ↓ws_skip, ↓ws_set, ↓ws_ex, ↓ws_ret, ↓ws_retN, ↓ws_bk, ↓ws_ct, ↓ws_if, ↓ws_asg, ↓ws_dput, ↓ws_daug, ↓ws_lput, ↓ws_aug, ↓wp_some, ↓wp_none, ↓wp_if, ↓wp_map, ↓wf_ok, ↓asI_int, ↓asBl_bl,
  List.getElem?_cons_zero, List.getElem?_cons_succ, List.set_cons_zero, List.set_cons_succ, opI_int, addD_int, mulD_int, intB_int, intB_bl, absB_int, lenB_rol, lenB_tup, ixD_rol, ixD_tup, atI0, atI1, atI2, atI3, atI4, asgT_n, tyQ, appQ, slQ, slD_tup, wipeE, List.length_cons, List.length_nil, List.length_map, true_and, and_true, decide_true, ↓reduceIte, bl_t, List.map_cons, List.map_nil, List.cons_append, List.nil_append, List.replicate_succ, List.replicate_zero, Nat.reduceAdd, Nat.reduceLeDiff, Int.reduceLT, Int.reduceLE, Int.reduceNeg, Int.reduceSub, eqD_str, eqD_int, neD_int, ofStr_eq, String.reduceEq, decide_false, decide_true, in_tup, flatD_str, flatD_int, List.all_cons, List.all_nil, List.any_cons, List.any_nil, eqF_str, Bool.and_true, Bool.and_self, Bool.or_false, Bool.or_true, Bool.true_or, Bool.false_or, Bool.false_eq_true, Bool.not_true, Bool.not_false, in_top, ixD_top, tupB_top, items_top, lenB_top, tru_bl, asgT_2, asgT_3, ↓w_pN, ↓w_pC, ↓w_Dct, ixD_tup, Int.cast_ofNat_Int, Int.reduceEq, ↓w_DGet2, ↓w_callV, ↓ws_laug, neD_str, ↓ws_forG2, lstB_tup, eqD_bl, neD_bl])

theorem init_sl {b : Bk} {s : S} : slD (encK b) none (some (-1)) s = some (.tup (b.1.map Row.enc), s) := by
  unfold encK
  rw [slD_tup, cutD_init, List.dropLast_concat]
theorem encK_set {bs : List Bk} {i : Nat} {b : Bk} {r : Row} (h : bs[i]? = some b) : (setLast bs i r).map encK = (bs.map encK).set i (encK (b.1, r)) := by
  unfold setLast
  rw [h]
  exact List.map_set
/-- what the law's changes give -/
def OptL (s : S) (Q : D → S → Prop) : Option (List Bk) → Prop
  | none => ∀ s', Gr s s' → Q .non s'
  | some bs => ∀ q s', Gr s s' → s.length ≤ q → s'[q]? = some (.lst (bs.map encK)) → Q (.ref q) s'
theorem lslot_ok {bs : List Bk} {i p : Nat} {t : Int} {f : Int → Row} {r : Row} {rs : List Row} {pl : Nat} {s : S} {N B C : Mi.Env → S → Prop} {Q : D → S → Prop} (hb : BsOk bs) (hs : s[p]? = some (.lst (bs.map encK))) (hi : bs[i]? = some (rs, r)) (ht : 0 ≤ t ∧ t < bs.length)
    (h0 : ∃ w : Str, (∀ s, ixD r.enc (.int 0) s = some (.str w, s)) ∧ w ≠ "stop") (hpl : ∀ s, ixD r.enc (.int (pl : Int)) s = some (.int t, s)) (hput : ∀ (e : Int) (s : S), ∃ a c, slD r.enc none (some (pl : Int)) s = some (.tup a, s) ∧ slD r.enc (some ((pl : Int) + 1)) none s = some (.tup c, s) ∧ (f e).enc = .tup (a ++ [.int e] ++ c) ∧ a.length ≤ 5 ∧ c.length ≤ 5)
    (kN : shortSlot bs i (t, f) = none → N [some (.ref p), some (.int (i : Int)), some r.enc, some (.int (pl : Int))] s)
    (kQ : ∀ bs', shortSlot bs i (t, f) = some bs' → OptL s Q (some bs')) :
    WS g_law_first_b2 [some (.ref p), some (.int (i : Int)), some r.enc, some (.int (pl : Int))] s N Q B C := by
  unfold g_law_first_b2
  obtain ⟨w, h0, hw⟩ := h0
  obtain ⟨b, hbt⟩ : ∃ b, bs[t.toNat]? = some b := ⟨_, List.getElem?_eq_getElem (by omega)⟩
  have hm := List.mem_of_getElem? hbt
  have htt : t = (t.toNat : Int) := by omega
  have hix : atI (bs.map encK) t = some (encK b) := atI_of ht.1 (by rw [List.getElem?_map, hbt]; rfl)
  have hile : i < bs.length := (List.getElem?_eq_some_iff.mp hi).1
  have hixi : atI (bs.map encK) (i : Int) = some (encK (rs, r)) := atI_nat' (by rw [List.getElem?_map, hi]; rfl)
  have hle := hb.le
  walk_at "mi"
  rw [h0]
  walk_at "mi"
  simp only [hw, decide_false, Bool.not_false, ↓reduceIte]
  rw [hpl]
  walk_at "mi"
  rw [ixD_ref hs, hix]
  walk_at "mi"
  rw [law_alone_ok (hb.la b hm) (hb.inn b hm), nx_alone hbt]
  walk_at "mi"
  unfold shortSlot at kN kQ
  cases hn : (nx bs t.toNat).isSome with
  | false =>
    rw [hn] at kN
    simp only [Bool.false_eq_true, ↓reduceIte]
    exact kN (by simp)
  | true =>
    rw [hn] at kN kQ
    simp only [↓reduceIte]
    rw [hpl]
    walk_at "mi"
    have hend : ∀ Q : D → S → Prop, Q (.int (endOf bs t.toNat)) s → WF (F_law_end [.ref p, .int t] s) Q := fun Q z => by
      rw [htt]
      exact law_end_ok hb hs (by omega) z
    refine hend _ ?_
    walk_at "mi"
    generalize he : endOf bs t.toNat = e at *
    by_cases h0 : 0 ≤ e
    · simp only [h0, ↓reduceIte]
      obtain ⟨a, c, h1, h2, h3, h4, h5⟩ := hput e s
      rw [h1]
      walk_at "mi"
      rw [hpl]
      walk_at "mi"
      refine hend _ ?_
      walk_at "mi"
      rw [addD_tup, if_pos (by rw [List.length_singleton]; omega)]
      walk_at "mi"
      rw [h2]
      walk_at "mi"
      rw [addD_tup, if_pos (by rw [List.length_append, List.length_singleton]; omega)]
      walk_at "mi"
      rw [← h3, ixD_ref hs, hixi]
      walk_at "mi"
      rw [init_sl]
      walk_at "mi"
      have hsz := hb.sz _ (List.mem_of_getElem? hi)
      dsimp only at hsz
      rw [addD_tup, if_pos (by rw [List.length_map, List.length_singleton]; omega)]
      walk_at "mi"
      refine law_with_ok hs (by rw [List.length_map]; exact hile) (by rw [List.length_map]; omega) ?_
      intro q s' hG hq hq'
      have := kQ (setLast bs i (f e)) (by simp [h0]) q s' hG hq
      rw [encK_set hi] at this
      exact this hq'
    · simp only [h0, ↓reduceIte]
      exact kN (by simp [h0])
theorem oneAt_some {bs bs' : List Bk} {i : Nat} (h : oneAt bs i = some bs') : oneAt bs i = some bs' := h
theorem law_first_ok {bs : List Bk} {p : Nat} {s : S} {Q : D → S → Prop} (hb : BsOk bs) (hs : s[p]? = some (.lst (bs.map encK))) (k : OptL s Q ((oneWay bs).or (shortened bs))) : WF (F_law_first [.ref p] s) Q := by
  unfold F_law_first
  refine (wf_fn (by rfl)).mpr ?_
  unfold g_law_first
  have hle := hb.le
  walk_at "mi"
  rw [lenB_ref hs, List.length_map]
  walk_at "mi"
  refine ⟨by omega, ?_⟩
  rw [Int.toNat_natCast]
  refine fs_rng (fun i env st => st = s ∧ (∃ x1 x2 x3, env = [some (.ref p), x1, x2, x3]) ∧ ∀ j, j < i → oneAt bs j = none) ⟨rfl, ⟨_, _, _, rfl⟩, fun j h => by omega⟩ ?_ ?_
  · rintro i env st hi ⟨rfl, ⟨x1, x2, x3, rfl⟩, hn⟩
    obtain ⟨b, hbi⟩ : ∃ b, bs[i]? = some b := ⟨_, List.getElem?_eq_getElem hi⟩
    have hix : atI (bs.map encK) (i : Int) = some (encK b) := atI_nat' (by rw [List.getElem?_map, hbi]; rfl)
    have hm := List.mem_of_getElem? hbi
    have hlb := hb.la b hm
    unfold g_law_first_b1
    walk_at "mi"
    rw [ixD_ref hs, hix]
    walk_at "mi"
    rw [last_ix]
    walk_at "mi"
    have nx : oneAt bs i = none → ∀ j, j < i + 1 → oneAt bs j = none := fun z j hj => by
      by_cases c : j = i
      · rw [c]; exact z
      · exact hn j (by omega)
    obtain ⟨rs, r⟩ := b
    have hsz := hb.sz _ hm
    cases r with
    | branch a t u =>
      unfold Row.enc
      walk_at "mi"
      by_cases c : t = u
      · have e : oneAt bs i = some (setLast bs i (.jump t)) := by unfold oneAt; rw [hbi]; exact if_pos c
        have e2 : oneWay bs = some (setLast bs i (.jump t)) := first_some hi hn e
        rw [e2] at k
        simp only [c, decide_true, ↓reduceIte]
        subst c
        rw [ixD_ref hs, hix]
        walk_at "mi"
        rw [init_sl]
        walk_at "mi"
        rw [addD_tup, if_pos (by rw [List.length_map, List.length_singleton]; dsimp only at hsz ⊢; omega)]
        walk_at "mi"
        refine law_with_ok hs (by rw [List.length_map]; exact hi) (by rw [List.length_map]; omega) ?_
        intro q s' hG hq hq'
        have := k q s' hG hq
        rw [encK_set hbi] at this
        exact this hq'
      · have e : oneAt bs i = none := by unfold oneAt; rw [hbi]; exact if_neg c
        simp only [c, decide_false, Bool.false_eq_true, ↓reduceIte]
        exact ⟨⟨_, _, _, rfl⟩, nx e⟩
    | jump t =>
      have e : oneAt bs i = none := by unfold oneAt; rw [hbi]
      unfold Row.enc
      walk_at "mi"
      exact ⟨⟨_, _, _, rfl⟩, nx e⟩
    | stop t =>
      have e : oneAt bs i = none := by unfold oneAt; rw [hbi]
      unfold Row.enc
      walk_at "mi"
      exact ⟨⟨_, _, _, rfl⟩, nx e⟩
    | _ => cases hlb
  · rintro env st ⟨rfl, ⟨x1, x2, x3, rfl⟩, hn⟩
    have e2 : oneWay bs = none := first_none hn
    rw [e2, Option.none_or] at k
    clear hn
    walk_at "mi"
    rw [lenB_ref hs, List.length_map]
    walk_at "mi"
    refine ⟨by omega, ?_⟩
    rw [Int.toNat_natCast]
    refine fs_rng (fun i env st' => st' = st ∧ (∃ x1 x2 x3, env = [some (.ref p), x1, x2, x3]) ∧ ∀ j, j < i → shortAt bs j = none) ⟨rfl, ⟨_, _, _, rfl⟩, fun j h => by omega⟩ ?_ ?_
    · rintro i env st' hi ⟨rfl, ⟨x1, x2, x3, rfl⟩, hn⟩
      obtain ⟨b, hbi⟩ : ∃ b, bs[i]? = some b := ⟨_, List.getElem?_eq_getElem hi⟩
      have hix : atI (bs.map encK) (i : Int) = some (encK b) := atI_nat' (by rw [List.getElem?_map, hbi]; rfl)
      have hm := List.mem_of_getElem? hbi
      have hlb := hb.la b hm
      have hto := hb.to b hm
      have nxt : shortAt bs i = none → ∀ j, j < i + 1 → shortAt bs j = none := fun z j hj => by
        by_cases c : j = i
        · rw [c]; exact z
        · exact hn j (by omega)
      unfold g_law_first_b3
      walk_at "mi"
      rw [ixD_ref hs, hix]
      walk_at "mi"
      rw [last_ix]
      walk_at "mi"
      obtain ⟨rs, r⟩ := b
      have hsl : ∀ bs', r.slots.findSome? (shortSlot bs i) = some bs' → shortened bs = some bs' := fun bs' z => first_some hi hn (by unfold shortAt; rw [hbi]; exact z)
      cases r with
      | stop a =>
        have e : shortAt bs i = none := by unfold shortAt; rw [hbi]; rfl
        unfold Row.enc
        walk_at "mi"
        refine ⟨by decide, ?_⟩
        show FS _ _ okT [D.int 1] _ _ _ _ _ _
        refine fs_cons True.intro ?_
        unfold g_law_first_b2
        walk_at "mi"
        exact fs_nil ⟨rfl, ⟨_, _, _, rfl⟩, nxt e⟩ True.intro
      | jump t =>
        have ht := hto t (List.mem_singleton.mpr rfl)
        unfold Row.enc
        walk_at "mi"
        refine ⟨by decide, ?_⟩
        show FS _ _ okT [D.int 1] _ _ _ _ _ _
        refine fs_cons True.intro ?_
        rw [asgT_n, wp_some]
        refine lslot_ok (r := .jump t) (f := .jump) (t := t) (pl := 1) hb hs hbi ht ⟨"jump", fun s => rfl, by decide⟩ (fun s => rfl) (fun e s => ⟨[.str "jump"], [], by kernel_rfl, by kernel_rfl, rfl, by decide, by decide⟩) ?_ ?_
        · intro hz
          have e : shortAt bs i = none := by
            unfold shortAt; rw [hbi]
            show List.findSome? (shortSlot bs i) [(t, Row.jump)] = none
            rw [List.findSome?_cons, hz]; rfl
          exact fs_nil ⟨rfl, ⟨_, _, _, rfl⟩, nxt e⟩ True.intro
        · intro bs' hz
          have e := hsl bs' (by
            show List.findSome? (shortSlot bs i) [(t, Row.jump)] = some bs'
            rw [List.findSome?_cons, hz])
          rw [e] at k
          exact k
      | branch a t u =>
        have ht := hto t (by simp [Row.ways])
        have hu := hto u (by simp [Row.ways])
        unfold Row.enc
        walk_at "mi"
        refine ⟨by decide, ?_⟩
        show FS _ _ okT [D.int 2, D.int 3] _ _ _ _ _ _
        refine fs_cons True.intro ?_
        rw [asgT_n, wp_some]
        refine lslot_ok (r := .branch a t u) (f := fun e => .branch a e u) (t := t) (pl := 2) hb hs hbi ht ⟨"branch", fun s => rfl, by decide⟩ (fun s => rfl) (fun e s => ⟨[.str "branch", .int a], [.int u], by kernel_rfl, by kernel_rfl, rfl, by simp, by simp⟩) ?_ ?_
        · intro hz
          refine fs_cons True.intro ?_
          rw [asgT_n, wp_some]
          refine lslot_ok (r := .branch a t u) (f := fun e => .branch a t e) (t := u) (pl := 3) hb hs hbi hu ⟨"branch", fun s => rfl, by decide⟩ (fun s => rfl) (fun e s => ⟨[.str "branch", .int a, .int t], [], by kernel_rfl, by kernel_rfl, rfl, by simp, by simp⟩) ?_ ?_
          · intro hz2
            have e : shortAt bs i = none := by
              unfold shortAt; rw [hbi]
              show List.findSome? (shortSlot bs i) [(t, fun e => Row.branch a e u), (u, fun e => Row.branch a t e)] = none
              rw [List.findSome?_cons, hz]
              show List.findSome? (shortSlot bs i) [(u, fun e => Row.branch a t e)] = none
              rw [List.findSome?_cons, hz2]; rfl
            exact fs_nil ⟨rfl, ⟨_, _, _, rfl⟩, nxt e⟩ True.intro
          · intro bs' hz2
            have e := hsl bs' (by
              show List.findSome? (shortSlot bs i) [(t, fun e => Row.branch a e u), (u, fun e => Row.branch a t e)] = some bs'
              rw [List.findSome?_cons, hz]
              show List.findSome? (shortSlot bs i) [(u, fun e => Row.branch a t e)] = some bs'
              rw [List.findSome?_cons, hz2])
            rw [e] at k
            exact k
        · intro bs' hz
          have e := hsl bs' (by
            show List.findSome? (shortSlot bs i) [(t, fun e => Row.branch a e u), (u, fun e => Row.branch a t e)] = some bs'
            rw [List.findSome?_cons, hz])
          rw [e] at k
          exact k
      | _ => cases hlb
    · rintro env st' ⟨rfl, ⟨x1, x2, x3, rfl⟩, hn⟩
      have e2 : shortened bs = none := first_none hn
      rw [e2] at k
      walk_at "mi"
      exact k _ (Gr.refl _)
end My

set_option Elab.async false
set_option linter.all false
set_option maxRecDepth 100000
set_option maxHeartbeats 4000000
namespace My
open PySem PySem.Spec PyProof.Rows L2 Mi
local macro_rules | `(tactic| walk_at "mi") => `(tactic| try simp only [↓w_vr, ↓w_cn, ↓w_e2, ↓w_tup, ↓w_lst, ↓w_aN, ↓w_aC, ↓w_call, ↓w_B, ↓w_M, ↓w_oN, ↓w_oS, ↓w_sl, ↓w_B1, ↓w_Tl, ↓w_An, ↓w_Or, ↓w_No, ↓w_eAn, ↓w_eO, ↓w_eNo, ↓w_eNeg, ↓w_eIf, ↓w_ch, ↓w_Dn, ↓w_lRg1, ↓w_trg1, ↓w_yes, ↓ws_forS, ↓ws_forG, ↓w_lcS, ↓w_lcG, ↓w_dcS, ↓w_dcG, items_tup, items_rol, ↓ws_seq, ↓ws_skip, ↓ws_set, ↓ws_ex, ↓ws_ret, ↓ws_retN, ↓ws_bk, ↓ws_ct, ↓ws_if, ↓ws_asg, ↓ws_dput, ↓ws_daug, ↓ws_lput, ↓ws_aug, ↓wp_some, ↓wp_none, ↓wp_if, ↓wp_map, ↓wf_ok, ↓asI_int, ↓asBl_bl,
  List.getElem?_cons_zero, List.getElem?_cons_succ, List.set_cons_zero, List.set_cons_succ, opI_int, addD_int, mulD_int, intB_int, intB_bl, absB_int, lenB_rol, lenB_tup, ixD_rol, ixD_tup, atI0, atI1, atI2, atI3, atI4, asgT_n, tyQ, appQ, slQ, slD_tup, wipeE, List.length_cons, List.length_nil, List.length_map, true_and, and_true, decide_true, ↓reduceIte, bl_t, List.map_cons, List.map_nil, List.cons_append, List.nil_append, List.replicate_succ, List.replicate_zero, Nat.reduceAdd, Nat.reduceLeDiff, Int.reduceLT, Int.reduceLE, Int.reduceNeg, Int.reduceSub, eqD_str, eqD_int, neD_int, ofStr_eq, String.reduceEq, decide_false, decide_true, in_tup, flatD_str, flatD_int, List.all_cons, List.all_nil, List.any_cons, List.any_nil, eqF_str, Bool.and_true, Bool.and_self, Bool.or_false, Bool.or_true, Bool.true_or, Bool.false_or, Bool.false_eq_true, Bool.not_true, Bool.not_false, in_top, ixD_top, tupB_top, items_top, lenB_top, tru_bl, asgT_2, asgT_3, ↓w_pN, ↓w_pC, ↓w_Dct, ixD_tup, Int.cast_ofNat_Int, Int.reduceEq, ↓w_DGet2, ↓w_callV, ↓ws_laug, neD_str, ↓ws_forG2, lstB_tup, eqD_bl, neD_bl])

theorem law_numbered_ok {bs : List Bk} {p : Nat} {s : S} {Q : D → S → Prop} (hb : BsOk bs) (hs : s[p]? = some (.lst (bs.map encK))) (k : OptL s Q (some (numbered bs))) : WF (F_law_numbered [.ref p] s) Q := by
  unfold F_law_numbered
  refine (wf_fn (by rfl)).mpr ?_
  unfold g_law_numbered
  have hle := hb.le
  walk_at "mi"
  refine law_come_ok hb hs ?_
  intro q s1 hG1 hq hc1
  walk_at "mi"
  have hc2 : (s1 ++ [O.lst []])[q]? = some (.lst ((comeI bs).map D.int)) := old_get hc1
  rw [items_ref hc2]
  walk_at "mi"
  have hql : q < s1.length := (List.getElem?_eq_some_iff.mp hc1).1
  have hs2 : ∀ st, Gr s1 st → st[p]? = some (.lst (bs.map encK)) := fun st z => z.get (hG1.get hs)
  have hcl : (come bs).length ≤ bs.length := by
    have := List.length_filter_le (rc bs) (List.range bs.length)
    rwa [List.length_range] at this
  refine fs_inv (fun i env st => (∃ x3 x4, env = [some (.ref p), some (.ref q), some (.ref s1.length), x3, x4]) ∧ Gr s1 st ∧ st[s1.length]? = some (.lst ((((come bs).take i).filterMap fun i => (bs[i]?).map fun b => (b.1, ren (come bs) b.2)).map encK))) (okD_ref.mpr hc2) ⟨⟨_, _, rfl⟩, Gr.app _ _, top_get⟩ ?_ ?_
  · rintro i d env st hi ⟨⟨x3, x4, rfl⟩, hG, hr⟩ hok
    unfold comeI at hi
    rw [List.map_map, List.getElem?_map] at hi
    cases hci : (come bs)[i]? with
    | none => rw [hci] at hi; cases hi
    | some a =>
      rw [hci] at hi; cases hi
      have ha := mem_come.mp (List.mem_of_getElem? hci)
      have hil : i < (come bs).length := (List.getElem?_eq_some_iff.mp hci).1
      obtain ⟨b, hba⟩ : ∃ b, bs[a]? = some b := ⟨_, List.getElem?_eq_getElem ha.1⟩
      have hm := List.mem_of_getElem? hba
      have hla := hb.la b hm
      rw [asgT_n, wp_some]
      unfold g_law_numbered_b1
      have hib : atI (bs.map encK) (a : Int) = some (encK b) := atI_nat' (by rw [List.getElem?_map, hba]; rfl)
      have hst := hs2 st hG
      have hcs := hG.get hc1
      walk_at "mi"
      show WP (ixD (.ref p) (.int (a : Int)) st) _
      rw [ixD_ref hst, hib]
      walk_at "mi"
      rw [last_ix]
      walk_at "mi"
      have hlen : (((come bs).take i).filterMap fun i => (bs[i]?).map fun b => (b.1, ren (come bs) b.2)).length ≤ i := by
        have h1 := List.length_filterMap_le (fun i => (bs[i]?).map fun b => (b.1, ren (come bs) b.2)) ((come bs).take i)
        rw [List.length_take] at h1
        omega
      have inC : ∀ t ∈ b.2.ways, 0 ≤ t ∧ t.toNat ∈ come bs := fun t ht => ⟨(hb.to b hm t ht).1, mem_come.mpr ⟨by have := hb.to b hm t ht; omega, Reach.step ha.2 hba ht⟩⟩
      have fin : ∀ (x : D), x = (ren (come bs) b.2).enc → (tyD "list" (.ref s1.length) st = true ∧
          WP (ixD (.ref p) (.int (a : Int)) st) fun p' => WP (slD p'.1 none (some (-1)) p'.2) fun p' => WP (addD p'.1 (.tup [x]) p'.2) fun p' => WP (appM (.ref s1.length) [p'.1] p'.2) fun p' =>
            okD (.ref q) ((comeI bs).map D.int) p'.2 ∧ (∃ x3 x4, [some (.ref p), some (.ref q), some (.ref s1.length), some (.int (a : Int)), some x] = [some (.ref p), some (.ref q), some (.ref s1.length), x3, x4]) ∧
            Gr s1 p'.2 ∧ p'.2[s1.length]? = some (.lst ((((come bs).take (i + 1)).filterMap fun i => (bs[i]?).map fun b => (b.1, ren (come bs) b.2)).map encK))) := by
        rintro x rfl
        refine ⟨ty_ref hr, ?_⟩
        rw [ixD_ref hst, hib]
        walk_at "mi"
        rw [init_sl]
        walk_at "mi"
        have hsz := hb.sz b hm
        rw [addD_tup, if_pos (by rw [List.length_map, List.length_singleton]; omega)]
        walk_at "mi"
        rw [app_ref hr, if_pos (by rw [List.length_map]; omega)]
        walk_at "mi"
        refine ⟨?_, ⟨_, _, rfl⟩, hG.set (Nat.le_refl _), ?_⟩
        · show (st.set _ _)[q]? = _
          rw [List.getElem?_set_ne (by omega)]; exact hok
        · rw [List.getElem?_set_self (List.getElem?_eq_some_iff.mp hr).1, List.take_add_one, hci, Option.toList_some, List.filterMap_append, List.map_append]
          congr 3
          simp only [List.filterMap_cons, hba, Option.map_some, List.filterMap_nil, List.map_cons, List.map_nil]
          rfl
      have idx : ∀ t ∈ b.2.ways, tyD "list" (.ref q) st = true ∧ idxM (.ref q) [.int t] st = some (.int ((come bs).idxOf t.toNat : Int), st) := fun t ht => by
        have h1 := inC t ht
        have h2 := comeI_idx bs h1.1 h1.2
        refine ⟨ty_ref hcs, ?_⟩
        rw [idx_ref hcs h2.1, h2.2]
      obtain ⟨rs, r⟩ := b
      cases r with
      | jump t =>
        have ht := idx t (by simp [Row.ways])
        unfold Row.enc
        walk_at "mi"
        rw [ht.1, ht.2]
        walk_at "mi"
        exact fin _ rfl
      | branch a t u =>
        have ht := idx t (by simp [Row.ways])
        have hu := idx u (by simp [Row.ways])
        unfold Row.enc
        walk_at "mi"
        rw [ht.1, ht.2]
        walk_at "mi"
        rw [hu.2]
        walk_at "mi"
        refine ⟨ty_ref hcs, ?_⟩
        rw [show Mi.cutD [D.str "branch", D.int a, D.int t, D.int u] none (some 2) = [D.str "branch", D.int a] from by kernel_rfl, addD_tup, if_pos (by simp)]
        walk_at "mi"
        exact fin _ rfl
      | stop a =>
        unfold Row.enc
        walk_at "mi"
        exact fin _ rfl
      | _ => cases hla
  · rintro env st ⟨⟨x3, x4, rfl⟩, hG, hr⟩ hok
    rw [List.length_map, comeI_len, List.take_length] at hr
    walk_at "mi"
    exact k _ _ (hG1.trans hG) hG1.1 hr
theorem law_joined_ok {bs : List Bk} {p : Nat} {s : S} {Q : D → S → Prop} (hb : BsOk bs) (hs : s[p]? = some (.lst (bs.map encK))) (k : OptL s Q (joined bs)) : WF (F_law_joined [.ref p] s) Q := by
  unfold F_law_joined
  refine (wf_fn (by rfl)).mpr ?_
  unfold g_law_joined
  have hle := hb.le
  walk_at "mi"
  have hs0 : (s ++ [O.lst []])[p]? = some (.lst (bs.map encK)) := old_get hs
  rw [items_ref hs0]
  walk_at "mi"
  refine fs_inv (fun i env st => (∃ q x2 x3 x4, env = [some (.ref p), some (.ref q), x2, x3, x4] ∧ s.length ≤ q ∧ st[q]? = some (.lst ((allWays (bs.take i)).map D.int))) ∧ Gr s st ∧ (allWays (bs.take i)).length ≤ 2 * i) (okD_ref.mpr hs0) ⟨⟨s.length, _, _, _, rfl, Nat.le_refl _, top_get⟩, Gr.app _ _, by simp [allWays]⟩ ?_ ?_
  · rintro i d env st hi ⟨⟨q, x2, x3, x4, rfl, hq, hl⟩, hG, hlen⟩ hok
    rw [List.getElem?_map] at hi
    cases hbi : bs[i]? with
    | none => rw [hbi] at hi; cases hi
    | some b =>
      rw [hbi] at hi; cases hi
      have hm := List.mem_of_getElem? hbi
      have hil : i < bs.length := (List.getElem?_eq_some_iff.mp hbi).1
      rw [asgT_n, wp_some]
      unfold g_law_joined_b1
      walk_at "mi"
      refine law_ways_ok (hb.la b hm) ?_
      intro qw s3 hG3 hqw hw3
      have htk : allWays (bs.take (i + 1)) = allWays (bs.take i) ++ b.2.ways := by
        unfold allWays
        rw [List.take_add_one, hbi, List.flatMap_append]; simp
      have hwl := ways_len b.2
      rw [add_refs (hG3.get hl) hw3, if_pos (by rw [List.length_map, List.length_map]; omega)]
      walk_at "mi"
      refine ⟨old_get (hG3.get hok), ⟨s3.length, _, _, _, rfl, (hG.trans hG3).1, ?_⟩, (hG.trans hG3).trans (Gr.app _ _), by rw [htk, List.length_append]; omega⟩
      rw [htk, List.map_append]
      exact top_get
  · rintro env st ⟨⟨q, x2, x3, x4, rfl, hq, hl⟩, hG, hlen⟩ hok
    rw [List.length_map, List.take_length] at hl
    have hst : st[p]? = some (.lst (bs.map encK)) := hG.get hs
    walk_at "mi"
    rw [lenB_ref hst, List.length_map]
    walk_at "mi"
    refine ⟨by omega, ?_⟩
    rw [Int.toNat_natCast]
    refine fs_rng (fun i env st' => st' = st ∧ (∃ x2 x3 x4, env = [some (.ref p), some (.ref q), x2, x3, x4]) ∧ ∀ j, j < i → joinAt bs j = none) ⟨rfl, ⟨_, _, _, rfl⟩, fun j h => by omega⟩ ?_ ?_
    · rintro i env st' hi ⟨rfl, ⟨x2, x3, x4, rfl⟩, hn⟩
      obtain ⟨b, hbi⟩ : ∃ b, bs[i]? = some b := ⟨_, List.getElem?_eq_getElem hi⟩
      have hix : atI (bs.map encK) (i : Int) = some (encK b) := atI_nat' (by rw [List.getElem?_map, hbi]; rfl)
      have hm := List.mem_of_getElem? hbi
      have hlb := hb.la b hm
      unfold g_law_joined_b2
      walk_at "mi"
      rw [ixD_ref hst, hix]
      walk_at "mi"
      rw [last_ix]
      walk_at "mi"
      have nx : joinAt bs i = none → ∀ j, j < i + 1 → joinAt bs j = none := fun z j hj => by
        by_cases c : j = i
        · rw [c]; exact z
        · exact hn j (by omega)
      obtain ⟨rs, r⟩ := b
      have hto := hb.to _ hm
      have hsz := hb.sz _ hm
      cases r with
      | jump t =>
        have ht := hto t (by simp [Row.ways])
        obtain ⟨b', hbt⟩ : ∃ b', bs[t.toNat]? = some b' := ⟨_, List.getElem?_eq_getElem (by omega)⟩
        have hm' := List.mem_of_getElem? hbt
        have hsz' := hb.sz _ hm'
        unfold Row.enc
        walk_at "mi"
        have e : joinAt bs i = if t ≠ (i : Int) ∧ t ≠ 0 ∧ (allWays bs).count t = 1 then some (bs.set i (rs ++ b'.1, b'.2)) else none := by
          unfold joinAt; rw [hbi]; dsimp only; rw [hbt]; rfl
        by_cases c1 : t = (i : Int)
        · simp only [c1, decide_true, Bool.not_true, Bool.false_eq_true, ↓reduceIte]
          exact ⟨⟨_, _, _, rfl⟩, nx (by rw [e, if_neg fun z => z.1 c1])⟩
        simp only [c1, decide_false, Bool.not_false, ↓reduceIte]
        by_cases c2 : t = 0
        · simp only [c2, decide_true, Bool.not_true, Bool.false_eq_true, ↓reduceIte]
          exact ⟨⟨_, _, _, rfl⟩, nx (by rw [e, if_neg fun z => z.2.1 c2])⟩
        simp only [c2, decide_false, Bool.not_false, ↓reduceIte]
        rw [ty_ref hl, cnt_ref hl]
        walk_at "mi"
        by_cases c3 : (allWays bs).count t = 1
        · have c3' : (((allWays bs).count t : Nat) : Int) = 1 := by rw [c3]; rfl
          simp only [c3', decide_true, ↓reduceIte]
          rw [if_pos ⟨c1, c2, c3⟩] at e
          have e2 : joined bs = some (bs.set i (rs ++ b'.1, b'.2)) := first_some hi hn e
          rw [e2] at k
          rw [ixD_ref hst, hix]
          walk_at "mi"
          rw [init_sl]
          walk_at "mi"
          rw [ixD_ref hst, atI_of ht.1 (d := encK b') (by rw [List.getElem?_map, hbt]; rfl)]
          walk_at "mi"
          have ead : addD (.tup (rs.map Row.enc)) (encK b') st' = some (encK (rs ++ b'.1, b'.2), st') := by
            unfold encK
            rw [addD_tup, if_pos (by rw [List.length_append, List.length_map, List.length_map, List.length_singleton]; dsimp only at hsz; omega), List.map_append, List.append_assoc]
          rw [ead]
          walk_at "mi"
          refine law_with_ok hst (by rw [List.length_map]; exact hi) (by rw [List.length_map]; omega) ?_
          intro q s' hG2 hq hq'
          have := k q s' (hG.trans hG2) (Nat.le_trans hG.1 hq)
          rw [List.map_set] at this
          exact this hq'
        · have c3' : ¬ ((((allWays bs).count t : Nat) : Int) = 1) := by omega
          simp only [c3', decide_false, Bool.false_eq_true, ↓reduceIte]
          exact ⟨⟨_, _, _, rfl⟩, nx (by rw [e, if_neg fun z => c3 z.2.2])⟩
      | branch a t u =>
        have e : joinAt bs i = none := by unfold joinAt; rw [hbi]
        unfold Row.enc
        walk_at "mi"
        exact ⟨⟨_, _, _, rfl⟩, nx e⟩
      | stop t =>
        have e : joinAt bs i = none := by unfold joinAt; rw [hbi]
        unfold Row.enc
        walk_at "mi"
        exact ⟨⟨_, _, _, rfl⟩, nx e⟩
      | _ => cases hlb
    · rintro env st' ⟨rfl, ⟨x2, x3, x4, rfl⟩, hn⟩
      have e2 : joined bs = none := first_none hn
      rw [e2] at k
      walk_at "mi"
      exact k _ hG
end My

set_option Elab.async false
set_option linter.all false
set_option maxRecDepth 100000
set_option maxHeartbeats 4000000
namespace My
open PySem PySem.Spec PyProof.Rows L2 Mi
local macro_rules | `(tactic| walk_at "mi") => `(tactic| try simp only [↓w_vr, ↓w_cn, ↓w_e2, ↓w_tup, ↓w_lst, ↓w_aN, ↓w_aC, ↓w_call, ↓w_B, ↓w_M, ↓w_oN, ↓w_oS, ↓w_sl, ↓w_B1, ↓w_Tl, ↓w_An, ↓w_Or, ↓w_No, ↓w_eAn, ↓w_eO, ↓w_eNo, ↓w_eNeg, ↓w_eIf, ↓w_ch, ↓w_Dn, ↓w_lRg1, ↓w_trg1, ↓w_yes, ↓ws_forS, ↓ws_forG, ↓w_lcS, ↓w_lcG, ↓w_dcS, ↓w_dcG, items_tup, items_rol, ↓ws_seq, ↓ws_skip, ↓ws_set, ↓ws_ex, ↓ws_ret, ↓ws_retN, ↓ws_bk, ↓ws_ct, ↓ws_if, ↓ws_asg, ↓ws_dput, ↓ws_daug, ↓ws_lput, ↓ws_aug, ↓wp_some, ↓wp_none, ↓wp_if, ↓wp_map, ↓wf_ok, ↓asI_int, ↓asBl_bl,
  List.getElem?_cons_zero, List.getElem?_cons_succ, List.set_cons_zero, List.set_cons_succ, opI_int, addD_int, mulD_int, intB_int, intB_bl, absB_int, lenB_rol, lenB_tup, ixD_rol, ixD_tup, atI0, atI1, atI2, atI3, atI4, asgT_n, tyQ, appQ, slQ, slD_tup, wipeE, List.length_cons, List.length_nil, List.length_map, true_and, and_true, decide_true, ↓reduceIte, bl_t, List.map_cons, List.map_nil, List.cons_append, List.nil_append, List.replicate_succ, List.replicate_zero, Nat.reduceAdd, Nat.reduceLeDiff, Int.reduceLT, Int.reduceLE, Int.reduceNeg, Int.reduceSub, eqD_str, eqD_int, neD_int, ofStr_eq, String.reduceEq, decide_false, decide_true, in_tup, flatD_str, flatD_int, List.all_cons, List.all_nil, List.any_cons, List.any_nil, eqF_str, Bool.and_true, Bool.and_self, Bool.or_false, Bool.or_true, Bool.true_or, Bool.false_or, Bool.false_eq_true, Bool.not_true, Bool.not_false, in_top, ixD_top, tupB_top, items_top, lenB_top, tru_bl, asgT_2, asgT_3, ↓w_pN, ↓w_pC, ↓w_Dct, ixD_tup, Int.cast_ofNat_Int, Int.reduceEq, ↓w_DGet2, ↓w_callV, ↓ws_laug, neD_str, ↓ws_forG2, lstB_tup, eqD_bl, neD_bl])

/-! ### one change after the other -/
noncomputable def stepJ (bs : List Bk) : Option (List Bk) := (((oneWay bs).or (shortened bs)).or (leftOut bs)).or (joined bs)
noncomputable def uu (bs : List Bk) : Nat := if (come bs).length = bs.length then 0 else 1
structure Inv (bs : List Bk) : Prop where
  ok : BsOk bs
  n9 : bs.length ≤ 9
  sz : ∀ b ∈ bs, b.1.length * 2 ^ bs.length ≤ 8 * 2 ^ (9 + uu bs)
theorem come_all {bs : List Bk} : (come bs).length = bs.length ↔ ∀ i, i < bs.length → Reach bs i := by
  unfold come
  constructor
  · intro h i hi
    have h2 := List.length_filter_eq_length_iff.mp (by rw [h, List.length_range] : ((List.range bs.length).filter (rc bs)).length = (List.range bs.length).length)
    exact rc_iff.mp (h2 i (List.mem_range.mpr hi))
  · intro h
    rw [List.filter_eq_self.mpr fun i hi => rc_iff.mpr (h i (List.mem_range.mp hi)), List.length_range]
theorem uu_le (bs : List Bk) : uu bs ≤ 1 := by unfold uu; split <;> omega
theorem small {x n u : Nat} (h : x * 2 ^ n ≤ 8 * 2 ^ (9 + u)) (hu : u ≤ 1) : x ≤ 10000 := by
  have h1 : x * 1 ≤ x * 2 ^ n := Nat.mul_le_mul_left x (Nat.one_le_two_pow)
  have h2 : (2 : Nat) ^ (9 + u) ≤ 2 ^ 10 := Nat.pow_le_pow_right (by omega) (by omega)
  have h3 : (2 : Nat) ^ 10 = 1024 := by decide
  omega
/-- another last row -/
theorem inv_last {bs : List Bk} {i : Nat} {b : Bk} {r : Row} (h : Inv bs) (hi : bs[i]? = some b) (hl : r.isLast = true) (hr : ∀ t ∈ r.ways, (0 ≤ t ∧ t < bs.length) ∧ (Reach bs i → Reach bs t.toNat)) : Inv (setLast bs i r) := by
  have e : setLast bs i r = bs.set i (b.1, r) := by unfold setLast; rw [hi]
  have hil : i < bs.length := (List.getElem?_eq_some_iff.mp hi).1
  have hm := List.mem_of_getElem? hi
  have len : (setLast bs i r).length = bs.length := by rw [e, List.length_set]
  have hre : ∀ j, Reach (setLast bs i r) j → Reach bs j := by
    intro j hj
    induction hj with
    | zero => exact .zero
    | step hr' hb' ht ih =>
      rename_i j b' t
      rw [e] at hb'
      by_cases c : i = j
      · subst c
        rw [List.getElem?_set_self hil] at hb'
        cases hb'
        exact (hr t ht).2 ih
      · rw [List.getElem?_set_ne c] at hb'
        exact .step ih hb' ht
  have hu : uu bs ≤ uu (setLast bs i r) := by
    unfold uu
    by_cases c : (come (setLast bs i r)).length = (setLast bs i r).length
    · have : (come bs).length = bs.length := come_all.mpr fun j hj => hre j (come_all.mp c j (by rw [len]; exact hj))
      rw [if_pos this]; omega
    · rw [if_neg c]; split <;> omega
  have hsz : ∀ b' ∈ setLast bs i r, b'.1.length * 2 ^ (setLast bs i r).length ≤ 8 * 2 ^ (9 + uu (setLast bs i r)) := by
    intro b' hb'
    rw [len]
    have h2 : (2 : Nat) ^ (9 + uu bs) ≤ 2 ^ (9 + uu (setLast bs i r)) := Nat.pow_le_pow_right (by omega) (by omega)
    have h3 : ∃ b0 ∈ bs, b'.1 = b0.1 := by
      rw [e] at hb'
      rcases List.mem_or_eq_of_mem_set hb' with z | z
      · exact ⟨b', z, rfl⟩
      · exact ⟨b, hm, by rw [z]⟩
    obtain ⟨b0, h4, h5⟩ := h3
    rw [h5]
    exact Nat.le_trans (h.sz b0 h4) (Nat.mul_le_mul_left 8 h2)
  refine ⟨⟨by rw [len]; exact h.ok.ne, by rw [len]; exact h.ok.le, ?_, ?_, ?_, fun b' hb' => small (hsz b' hb') (uu_le _)⟩, by rw [len]; exact h.n9, hsz⟩
  · intro b' hb'
    rw [e] at hb'
    rcases List.mem_or_eq_of_mem_set hb' with z | z
    · exact h.ok.la b' z
    · rw [z]; exact hl
  · intro b' hb'
    rw [e] at hb'
    rcases List.mem_or_eq_of_mem_set hb' with z | z
    · exact h.ok.inn b' z
    · rw [z]; exact h.ok.inn b hm
  · intro b' hb' t ht
    rw [len]
    rw [e] at hb'
    rcases List.mem_or_eq_of_mem_set hb' with z | z
    · exact h.ok.to b' z t ht
    · rw [z] at ht; exact (hr t ht).1
theorem first_of {α : Type} {f : Nat → Option α} {n : Nat} {x : α} (h : (List.range n).findSome? f = some x) : ∃ i, i < n ∧ f i = some x := by
  obtain ⟨i, hi, e⟩ := List.exists_of_findSome?_eq_some h
  exact ⟨i, List.mem_range.mp hi, e⟩
theorem inv_one {bs bs' : List Bk} (h : Inv bs) (e : oneWay bs = some bs') : Inv bs' := by
  obtain ⟨i, hi, e⟩ := first_of e
  unfold oneAt at e
  split at e
  · rename_i rs a t u hbi
    split at e
    · cases e
      have hm := List.mem_of_getElem? hbi
      refine inv_last h hbi rfl fun t' ht' => ?_
      have : t' = t := by simpa [Row.ways] using ht'
      subst this
      exact ⟨h.ok.to _ hm t' (by simp [Row.ways]), fun hr => .step hr hbi (by simp [Row.ways])⟩
    · cases e
  · cases e
theorem go_reach {bs : List Bk} (hb : BsOk bs) : ∀ (n i : Nat) (e : Int), i < bs.length → go bs n i = e → 0 ≤ e → e < bs.length ∧ (Reach bs i → Reach bs e.toNat)
  | 0, i, e, _, h, h0 => by
    have h : (-1 : Int) = e := h
    omega
  | n + 1, i, e, hi, h, h0 => by
    rw [go_nx] at h
    cases hn : nx bs i with
    | none =>
      rw [hn] at h
      have h : (i : Int) = e := h
      subst h
      exact ⟨by omega, fun hr => by rw [Int.toNat_natCast]; exact hr⟩
    | some j =>
      rw [hn] at h
      unfold nx at hn
      split at hn
      · rename_i t hbi
        cases hn
        have hm := List.mem_of_getElem? hbi
        have ht := hb.to _ hm t (by simp [Row.ways])
        have := go_reach hb n t.toNat e (by omega) h h0
        exact ⟨this.1, fun hr => this.2 (.step hr hbi (by simp [Row.ways]))⟩
      · cases hn
theorem end_reach {bs : List Bk} (hb : BsOk bs) {i : Nat} (hi : i < bs.length) (h0 : 0 ≤ endOf bs i) : endOf bs i < bs.length ∧ (Reach bs i → Reach bs (endOf bs i).toNat) := go_reach hb _ i _ hi rfl h0
theorem inv_short {bs bs' : List Bk} (h : Inv bs) (e : shortened bs = some bs') : Inv bs' := by
  obtain ⟨i, hi, e⟩ := first_of e
  unfold shortAt at e
  split at e
  · rename_i rs r hbi
    have hm := List.mem_of_getElem? hbi
    have hto := h.ok.to _ hm
    obtain ⟨x, hx, e⟩ := List.exists_of_findSome?_eq_some e
    unfold shortSlot at e
    split at e
    · rename_i hc
      cases e
      have key : ∀ t ∈ r.ways, (0 ≤ t ∧ t < bs.length) ∧ (Reach bs i → Reach bs t.toNat) := fun t ht => ⟨hto t ht, fun hr => .step hr hbi ht⟩
      have key2 : x.1 ∈ r.ways → (0 ≤ endOf bs x.1.toNat ∧ endOf bs x.1.toNat < bs.length) ∧ (Reach bs i → Reach bs (endOf bs x.1.toNat).toNat) := fun hx => by
        have k1 := key x.1 hx
        have := end_reach h.ok (i := x.1.toNat) (by omega) hc.2
        exact ⟨⟨hc.2, this.1⟩, fun hr => this.2 (k1.2 hr)⟩
      cases r with
      | jump t =>
        have hx : x = (t, Row.jump) := by simpa [Row.slots] using hx
        subst hx
        refine inv_last h hbi rfl fun t' ht' => ?_
        have : t' = endOf bs t.toNat := by simpa [Row.ways] using ht'
        rw [this]
        exact key2 (by simp [Row.ways])
      | branch a t u =>
        have hx : x = (t, fun e => Row.branch a e u) ∨ x = (u, fun e => Row.branch a t e) := by simpa [Row.slots] using hx
        rcases hx with rfl | rfl
        · refine inv_last h hbi rfl fun t' ht' => ?_
          have : t' = endOf bs t.toNat ∨ t' = u := by simpa [Row.ways] using ht'
          rcases this with rfl | rfl
          · exact key2 (by simp [Row.ways])
          · exact key t' (by simp [Row.ways])
        · refine inv_last h hbi rfl fun t' ht' => ?_
          have : t' = t ∨ t' = endOf bs u.toNat := by simpa [Row.ways] using ht'
          rcases this with rfl | rfl
          · exact key t' (by simp [Row.ways])
          · exact key2 (by simp [Row.ways])
      | _ => simp [Row.slots] at hx
    · cases e
  · cases e
theorem numbered_len {bs : List Bk} : (numbered bs).length = (come bs).length := by
  have key : ∀ (f : Nat → Option Bk) (L : List Nat), (∀ a ∈ L, (f a).isSome = true) → (L.filterMap f).length = L.length := by
    intro f L
    induction L with
    | nil => intro _; rfl
    | cons a L ih =>
      intro h
      have h1 := h a List.mem_cons_self
      have h2 := ih fun b hb => h b (List.mem_cons_of_mem _ hb)
      cases e : f a with
      | none => rw [e] at h1; cases h1
      | some x => rw [List.filterMap_cons, e, List.length_cons, List.length_cons, h2]
  unfold numbered
  refine key _ _ fun i hi => ?_
  rw [List.getElem?_eq_getElem (mem_come.mp hi).1]; rfl
theorem ren_last {L : List Nat} {r : Row} : (ren L r).isLast = r.isLast := by cases r <;> rfl
theorem inv_left {bs bs' : List Bk} (h : Inv bs) (e : leftOut bs = some bs') : Inv bs' := by
  unfold leftOut at e
  split at e
  · cases e
  rename_i hne
  cases e
  have hcl : (come bs).length ≤ bs.length := by
    have := List.length_filter_le (rc bs) (List.range bs.length)
    rwa [List.length_range] at this
  have mem : ∀ b' ∈ numbered bs, ∃ i b, i ∈ come bs ∧ bs[i]? = some b ∧ b' = (b.1, ren (come bs) b.2) := by
    intro b' hb'
    unfold numbered at hb'
    obtain ⟨i, hi, e⟩ := List.mem_filterMap.mp hb'
    cases hbi : bs[i]? with
    | none => rw [hbi] at e; cases e
    | some b => rw [hbi] at e; cases e; exact ⟨i, b, hi, hbi, rfl⟩
  have hsz : ∀ b' ∈ numbered bs, b'.1.length * 2 ^ (numbered bs).length ≤ 8 * 2 ^ (9 + uu (numbered bs)) := by
    intro b' hb'
    obtain ⟨i, b, hi, hbi, rfl⟩ := mem b' hb'
    have h1 := h.sz b (List.mem_of_getElem? hbi)
    have h2 : (2 : Nat) ^ (9 + uu bs) ≤ 2 ^ 10 := Nat.pow_le_pow_right (by omega) (by have := uu_le bs; omega)
    have h3 : (2 : Nat) ^ 9 ≤ 2 ^ (9 + uu (numbered bs)) := Nat.pow_le_pow_right (by omega) (by omega)
    have h4 : (2 : Nat) ^ ((come bs).length + 1) ≤ 2 ^ bs.length := Nat.pow_le_pow_right (by omega) (by omega)
    rw [Nat.pow_succ] at h4
    have h5 : b.1.length * (2 ^ (come bs).length * 2) ≤ b.1.length * 2 ^ bs.length := Nat.mul_le_mul_left _ h4
    rw [← Nat.mul_assoc] at h5
    rw [numbered_len]
    show b.1.length * 2 ^ (come bs).length ≤ _
    have e10 : (2 : Nat) ^ 10 = 2 * 2 ^ 9 := by decide
    generalize b.1.length * 2 ^ (come bs).length = X at *
    generalize b.1.length * 2 ^ bs.length = Y at *
    generalize (2 : Nat) ^ (9 + uu bs) = Z at *
    generalize (2 : Nat) ^ (9 + uu (numbered bs)) = U at *
    omega
  refine ⟨⟨by rw [numbered_len]; exact List.length_pos_of_mem (mem_come.mpr ⟨h.ok.ne, .zero⟩), by rw [numbered_len]; have := h.ok.le; omega, ?_, ?_, ?_, fun b' hb' => small (hsz b' hb') (uu_le _)⟩, by rw [numbered_len]; have := h.n9; omega, hsz⟩
  · intro b' hb'
    obtain ⟨i, b, hi, hbi, rfl⟩ := mem b' hb'
    exact ren_last.trans (h.ok.la b (List.mem_of_getElem? hbi))
  · intro b' hb'
    obtain ⟨i, b, hi, hbi, rfl⟩ := mem b' hb'
    exact h.ok.inn b (List.mem_of_getElem? hbi)
  · intro b' hb' t ht
    obtain ⟨i, b, hi, hbi, rfl⟩ := mem b' hb'
    have hR := (mem_come.mp hi).2
    have hto := h.ok.to b (List.mem_of_getElem? hbi)
    have key : ∀ x ∈ b.2.ways, (come bs).idxOf x.toNat < (come bs).length := fun x hx => List.idxOf_lt_length_of_mem (mem_come.mpr ⟨by have := hto x hx; omega, .step hR hbi hx⟩)
    rw [numbered_len]
    obtain ⟨rs, r⟩ := b
    cases r with
    | jump x =>
      have : t = ((come bs).idxOf x.toNat : Int) := by simpa [ren, Row.ways] using ht
      have := key x (by simp [Row.ways])
      omega
    | branch a x y =>
      have : t = ((come bs).idxOf x.toNat : Int) ∨ t = ((come bs).idxOf y.toNat : Int) := by simpa [ren, Row.ways] using ht
      have := key x (by simp [Row.ways])
      have := key y (by simp [Row.ways])
      omega
    | _ => simp [ren, Row.ways] at ht
theorem count_one {bs : List Bk} {t : Int} (h : (allWays bs).count t = 1) {i j : Nat} {b c : Bk} (hi : bs[i]? = some b) (hj : bs[j]? = some c) (hb : t ∈ b.2.ways) (hc : t ∈ c.2.ways) : i = j := by
  have key : ∀ (bs : List Bk) (i j : Nat) (b c : Bk), i < j → bs[i]? = some b → bs[j]? = some c → t ∈ b.2.ways → t ∈ c.2.ways → 2 ≤ (allWays bs).count t := by
    intro bs
    induction bs with
    | nil => intro i j b c _ hi; simp at hi
    | cons a bs ih =>
      intro i j b c hij hi hj hb hc
      unfold allWays
      rw [List.flatMap_cons, List.count_append]
      cases j with
      | zero => omega
      | succ j =>
        have hj : bs[j]? = some c := by simpa using hj
        cases i with
        | zero =>
          have hi : a = b := by simpa using hi
          subst hi
          have h1 : 0 < a.2.ways.count t := List.count_pos_iff.mpr hb
          have h2 : 0 < (bs.flatMap fun b => b.2.ways).count t := List.count_pos_iff.mpr (List.mem_flatMap.mpr ⟨c, List.mem_of_getElem? hj, hc⟩)
          omega
        | succ i =>
          have := ih i j b c (by omega) (by simpa using hi) hj hb hc
          unfold allWays at this
          omega
  rcases Nat.lt_trichotomy i j with z | z | z
  · have := key bs i j b c z hi hj hb hc; omega
  · exact z
  · have := key bs j i c b z hj hi hc hb; omega
theorem inv_join {bs bs' : List Bk} (h : Inv bs) (hl : leftOut bs = none) (e : joined bs = some bs') : Inv bs' := by
  have hall : (come bs).length = bs.length := by
    unfold leftOut at hl
    split at hl
    · assumption
    · cases hl
  have hu : uu bs = 0 := by unfold uu; rw [if_pos hall]
  obtain ⟨i, hi, e⟩ := first_of e
  unfold joinAt at e
  split at e
  · rename_i rs t hbi
    split at e
    · rename_i hc
      obtain ⟨c1, c2, c3⟩ := hc
      have hm := List.mem_of_getElem? hbi
      have ht := h.ok.to _ hm t (by simp [Row.ways])
      obtain ⟨b, hbt⟩ : ∃ b, bs[t.toNat]? = some b := ⟨_, List.getElem?_eq_getElem (by omega)⟩
      rw [hbt] at e
      cases e
      have hmb := List.mem_of_getElem? hbt
      have nR : ∀ j, Reach (bs.set i (rs ++ b.1, b.2)) j → j ≠ t.toNat := by
        intro j hj
        induction hj with
        | zero => omega
        | step hr hb' hw ih =>
          rename_i j b' w
          intro z
          have hwt : w = t := by
            have : w ∈ b'.2.ways := hw
            have h0 : 0 ≤ w := by
              by_cases c : i = j
              · subst c; rw [List.getElem?_set_self hi] at hb'; cases hb'; exact (h.ok.to b hmb w hw).1
              · rw [List.getElem?_set_ne c] at hb'; exact (h.ok.to b' (List.mem_of_getElem? hb') w hw).1
            omega
          subst hwt
          by_cases c : i = j
          · subst c
            rw [List.getElem?_set_self hi] at hb'; cases hb'
            have := count_one c3 hbi hbt (by simp [Row.ways]) hw
            omega
          · rw [List.getElem?_set_ne c] at hb'
            exact c (count_one c3 hbi hb' (by simp [Row.ways]) hw)
      have hu' : uu (bs.set i (rs ++ b.1, b.2)) = 1 := by
        unfold uu
        rw [if_neg fun z => ?_]
        exact nR t.toNat (come_all.mp z t.toNat (by rw [List.length_set]; omega)) rfl
      have hsz : ∀ b' ∈ bs.set i (rs ++ b.1, b.2), b'.1.length * 2 ^ (bs.set i (rs ++ b.1, b.2)).length ≤ 8 * 2 ^ (9 + uu (bs.set i (rs ++ b.1, b.2))) := by
        intro b' hb'
        rw [hu', List.length_set]
        have e10 : (2 : Nat) ^ (9 + 1) = 2 * 2 ^ 9 := by decide
        rcases List.mem_or_eq_of_mem_set hb' with z | z
        · have := h.sz b' z
          rw [hu] at this
          have e9 : (2 : Nat) ^ (9 + 0) = 2 ^ 9 := by decide
          omega
        · rw [z]
          show (rs ++ b.1).length * _ ≤ _
          have h1 := h.sz _ hm
          have h2 := h.sz _ hmb
          rw [hu] at h1 h2
          rw [List.length_append, Nat.add_mul]
          dsimp only at h1
          have e9 : (2 : Nat) ^ (9 + 0) = 2 ^ 9 := by decide
          omega
      refine ⟨⟨by rw [List.length_set]; exact h.ok.ne, by rw [List.length_set]; exact h.ok.le, ?_, ?_, ?_, fun b' hb' => small (hsz b' hb') (uu_le _)⟩, by rw [List.length_set]; exact h.n9, hsz⟩
      · intro b' hb'
        rcases List.mem_or_eq_of_mem_set hb' with z | z
        · exact h.ok.la b' z
        · rw [z]; exact h.ok.la b hmb
      · intro b' hb' r hr
        rcases List.mem_or_eq_of_mem_set hb' with z | z
        · exact h.ok.inn b' z r hr
        · rw [z] at hr
          rcases List.mem_append.mp hr with hr | hr
          · exact h.ok.inn _ hm r hr
          · exact h.ok.inn b hmb r hr
      · intro b' hb' w hw
        rw [List.length_set]
        rcases List.mem_or_eq_of_mem_set hb' with z | z
        · exact h.ok.to b' z w hw
        · rw [z] at hw; exact h.ok.to b hmb w hw
    · cases e
  · cases e
theorem inv_step {bs bs' : List Bk} (h : Inv bs) (e : stepJ bs = some bs') : Inv bs' := by
  unfold stepJ at e
  cases h1 : oneWay bs with
  | some b1 => rw [h1] at e; cases e; exact inv_one h h1
  | none =>
    cases h2 : shortened bs with
    | some b2 => rw [h1, h2] at e; cases e; exact inv_short h h2
    | none =>
      cases h3 : leftOut bs with
      | some b3 => rw [h1, h2, h3] at e; cases e; exact inv_left h h3
      | none =>
        rw [h1, h2, h3] at e
        exact inv_join h h3 e
noncomputable def run : Nat → List Bk → Option (List Bk)
  | 0, _ => none
  | n + 1, bs => match stepJ bs with
    | none => some bs
    | some bs' => run n bs'
end My

set_option Elab.async false
set_option linter.all false
set_option maxRecDepth 100000
set_option maxHeartbeats 4000000
namespace My
open PySem PySem.Spec PyProof.Rows L2 Mi
local macro_rules | `(tactic| walk_at "mi") => `(tactic| try simp only [↓w_vr, ↓w_cn, ↓w_e2, ↓w_tup, ↓w_lst, ↓w_aN, ↓w_aC, ↓w_call, ↓w_B, ↓w_M, ↓w_oN, ↓w_oS, ↓w_sl, ↓w_B1, ↓w_Tl, ↓w_An, ↓w_Or, ↓w_No, ↓w_eAn, ↓w_eO, ↓w_eNo, ↓w_eNeg, ↓w_eIf, ↓w_ch, ↓w_Dn, ↓w_lRg1, ↓w_trg1, ↓w_yes, ↓ws_forS, ↓ws_forG, ↓w_lcS, ↓w_lcG, ↓w_dcS, ↓w_dcG, items_tup, items_rol, ↓ws_seq, ↓ws_skip, ↓ws_set, ↓ws_ex, ↓ws_ret, ↓ws_retN, ↓ws_bk, ↓ws_ct, ↓ws_if, ↓ws_asg, ↓ws_dput, ↓ws_daug, ↓ws_lput, ↓ws_aug, ↓wp_some, ↓wp_none, ↓wp_if, ↓wp_map, ↓wf_ok, ↓asI_int, ↓asBl_bl,
  List.getElem?_cons_zero, List.getElem?_cons_succ, List.set_cons_zero, List.set_cons_succ, opI_int, addD_int, mulD_int, intB_int, intB_bl, absB_int, lenB_rol, lenB_tup, ixD_rol, ixD_tup, atI0, atI1, atI2, atI3, atI4, asgT_n, tyQ, appQ, slQ, slD_tup, wipeE, List.length_cons, List.length_nil, List.length_map, true_and, and_true, decide_true, ↓reduceIte, bl_t, List.map_cons, List.map_nil, List.cons_append, List.nil_append, List.replicate_succ, List.replicate_zero, Nat.reduceAdd, Nat.reduceLeDiff, Int.reduceLT, Int.reduceLE, Int.reduceNeg, Int.reduceSub, eqD_str, eqD_int, neD_int, ofStr_eq, String.reduceEq, decide_false, decide_true, in_tup, flatD_str, flatD_int, List.all_cons, List.all_nil, List.any_cons, List.any_nil, eqF_str, Bool.and_true, Bool.and_self, Bool.or_false, Bool.or_true, Bool.true_or, Bool.false_or, Bool.false_eq_true, Bool.not_true, Bool.not_false, in_top, ixD_top, tupB_top, items_top, lenB_top, tru_bl, asgT_2, asgT_3, ↓w_pN, ↓w_pC, ↓w_Dct, ixD_tup, Int.cast_ofNat_Int, Int.reduceEq, ↓w_DGet2, ↓w_callV, ↓ws_laug, neD_str, ↓ws_forG2, lstB_tup, eqD_bl, neD_bl])

theorem isD_non {s : S} : isD .non .non s = some (.bl true, s) := rfl
theorem isD_ref {q : Nat} {s : S} : isD (.ref q) .non s = some (.bl false, s) := rfl
theorem isD_tup {ds : List D} {s : S} : isD (.tup ds) .non s = some (.bl false, s) := rfl
theorem isNotD_non {s : S} : isNotD .non .non s = some (.bl false, s) := rfl
theorem isNotD_tup {ds : List D} {s : S} : isNotD (.tup ds) .non s = some (.bl true, s) := rfl
def prog (a p : D) (bs : List Bk) : D := .tup [a, p, .tup (bs.map encK)]
def optP (a p : D) : Option (List Bk) → D
  | none => .non
  | some bs => prog a p bs
theorem left_len {bs : List Bk} : (come bs).length ≤ bs.length := by
  have := List.length_filter_le (rc bs) (List.range bs.length)
  rwa [List.length_range] at this
theorem law_jumps_ok {bs : List Bk} {a p : D} {s : S} {Q : D → S → Prop} (hb : Inv bs) (k : ∀ s', Gr s s' → Q (optP a p (run 400 bs)) s') : WF (F_law_jumps [prog a p bs] s) Q := by
  unfold F_law_jumps
  refine (wf_fn (by rfl)).mpr ?_
  unfold g_law_jumps prog
  walk_at "mi"
  refine fs_rng (fun i env st => Gr s st ∧ (∃ q x2 x3 bi, env = [some (.tup [a, p, .tup (bs.map encK)]), some (.ref q), x2, x3] ∧ st[q]? = some (.lst (bi.map encK)) ∧ Inv bi ∧ run 400 bs = run (400 - i) bi)) ⟨Gr.app _ _, s.length, _, _, bs, rfl, top_get, hb, rfl⟩ ?_ ?_
  · rintro i env st hi ⟨hG, q, x2, x3, bi, rfl, hq, hI, hrun⟩
    rw [show 400 - i = (400 - (i + 1)) + 1 by omega] at hrun
    have hrun : run 400 bs = match stepJ bi with | none => some bi | some b' => run (400 - (i + 1)) b' := hrun
    unfold g_law_jumps_b1
    walk_at "mi"
    -- behind a change: the new list is the state
    have nxt : ∀ (q' : Nat) (st' : S) (b' : List Bk) (x2 x3 : Option D), stepJ bi = some b' → Gr st st' → st'[q']? = some (.lst (b'.map encK)) →
        Gr s st' ∧ (∃ q x2' x3' bi, [some (D.tup [a, p, .tup (bs.map encK)]), some (.ref q'), x2, x3] = [some (.tup [a, p, .tup (bs.map encK)]), some (.ref q), x2', x3'] ∧ st'[q]? = some (.lst (bi.map encK)) ∧ Inv bi ∧ run 400 bs = run (400 - (i + 1)) bi) := by
      intro q' st' b' x2 x3 e hG' hq'
      rw [e] at hrun
      exact ⟨hG.trans hG', q', _, _, b', rfl, hq', inv_step hI e, hrun⟩
    refine law_first_ok hI.ok hq ?_
    have hsj : stepJ bi = (((oneWay bi).or (shortened bi)).or (leftOut bi)).or (joined bi) := rfl
    cases h1 : (oneWay bi).or (shortened bi) with
    | some b' =>
      rw [h1] at hsj
      intro q' st' hG' hq' hl'
      walk_at "mi"
      rw [isD_ref]
      walk_at "mi"
      rw [isD_ref]
      walk_at "mi"
      rw [isD_ref]
      walk_at "mi"
      exact nxt q' st' b' _ _ hsj hG' hl'
    | none =>
      rw [h1] at hsj
      intro st' hG'
      have hq1 := hG'.get hq
      walk_at "mi"
      rw [isD_non]
      walk_at "mi"
      refine law_come_ok hI.ok hq1 ?_
      intro qc st2 hG2 hqc hlc
      have hq2 := hG2.get hq1
      walk_at "mi"
      rw [lenB_ref hlc]
      walk_at "mi"
      rw [lenB_ref hq2]
      walk_at "mi"
      rw [comeI_len]
      have hle := left_len (bs := bi)
      by_cases hall : (come bi).length = bi.length
      · have hL : leftOut bi = none := by unfold leftOut; rw [if_pos hall]
        have c : ¬ (((come bi).length : Int) < (bi.length : Int)) := by omega
        simp only [c, decide_false, Bool.false_eq_true, ↓reduceIte]
        rw [isD_non]
        walk_at "mi"
        refine law_joined_ok hI.ok hq2 ?_
        rw [hL] at hsj
        cases h3 : joined bi with
        | some b' =>
          rw [h3] at hsj
          intro q' st3 hG3 hq' hl'
          walk_at "mi"
          rw [isD_ref]
          walk_at "mi"
          exact nxt q' st3 b' _ _ hsj (hG'.trans (hG2.trans hG3)) hl'
        | none =>
          rw [h3] at hsj
          have hsj : stepJ bi = none := hsj
          rw [hsj] at hrun
          intro st3 hG3
          walk_at "mi"
          rw [isD_non]
          walk_at "mi"
          rw [tupB_ref (hG3.get hq2)]
          walk_at "mi"
          have := k st3 (hG.trans (hG'.trans (hG2.trans hG3)))
          rw [hrun] at this
          exact this
      · have hL : leftOut bi = some (numbered bi) := by unfold leftOut; rw [if_neg hall]
        have c : ((come bi).length : Int) < (bi.length : Int) := by omega
        simp only [c, decide_true, ↓reduceIte]
        rw [hL] at hsj
        refine law_numbered_ok hI.ok hq2 ?_
        intro q' st3 hG3 hq' hl'
        walk_at "mi"
        rw [isD_ref]
        walk_at "mi"
        rw [isD_ref]
        walk_at "mi"
        exact nxt q' st3 _ _ _ hsj (hG'.trans (hG2.trans hG3)) hl'
  · rintro env st ⟨hG, q, x2, x3, bi, rfl, hq, hI, hrun⟩
    have hrun : run 400 bs = none := hrun
    rw [hrun] at k
    walk_at "mi"
    exact k _ hG
theorem jb_skip {P A p x3 : D} {ds : List D} {x : Str} {s : S} {N B C : Mi.Env → S → Prop} {Q : D → S → Prop} (k : N [some P, some A, some p, some x3, some (.tup ds), some (.glo x)] s) : WS g_jumps_b1 [some P, some A, some p, some x3, some (.tup ds), some (.glo x)] s N Q B C := by
  unfold g_jumps_b1
  walk_at "mi"
  rw [isD_tup]
  walk_at "mi"
  exact k
/-- a change that is tried -/
theorem jb_try {P A p : D} {bs : List Bk} {x : Str} {F : FN} {r : Option (List Bk)} {s : S} {N B C : Mi.Env → S → Prop} {Q : D → S → Prop}
    (hF : List.lookup x [("one_way", F_one_way), ("shortened", F_shortened), ("left_out", F_left_out), ("joined", F_joined)] = some F) (hc : ∀ Q : D → S → Prop, (∀ s', Gr s s' → Q (optE r) s') → WF (F [.tup (bs.map encK)] s) Q)
    (k : ∀ s', Gr s s' → N [some P, some A, some p, some (.tup (bs.map encK)), some (optE r), some (.glo x)] s') : WS g_jumps_b1 [some P, some A, some p, some (.tup (bs.map encK)), some .non, some (.glo x)] s N Q B C := by
  unfold g_jumps_b1
  walk_at "mi"
  rw [isD_non]
  walk_at "mi"
  refine ⟨x, rfl, ?_⟩
  rw [hF]
  walk_at "mi"
  exact hc _ fun s' hG => k s' hG
theorem jumps_ok {bs r : List Bk} {a p : D} {s : S} {Q : D → S → Prop} (hb : Inv bs) (hr : run 400 bs = some r) (k : ∀ s', Gr s s' → Q (prog a p r) s') : WF (F_jumps [prog a p bs] s) Q := by
  unfold F_jumps
  refine (wf_fn (by rfl)).mpr ?_
  unfold g_jumps prog
  walk_at "mi"
  refine ws_while (fun m env st => Gr s st ∧ ((∃ x3 x5 bi, env = [some (.tup [a, p, .tup (bs.map encK)]), some a, some p, some x3, some (.tup (bi.map encK)), x5] ∧ Inv bi ∧ ∃ n, m = n + 1 ∧ run n bi = some r) ∨ (∃ x5, env = [some (.tup [a, p, .tup (bs.map encK)]), some a, some p, some (.tup (r.map encK)), some .non, x5] ∧ m = 0))) 401 (by omega) ⟨Gr.refl _, Or.inl ⟨_, _, bs, rfl, hb, 400, rfl, hr⟩⟩ ?_
  rintro m env st ⟨hG, ⟨x3, x5, bi, rfl, hI, n, rfl, hrun⟩ | ⟨x5, rfl, rfl⟩⟩
  · walk_at "mi"
    rw [isNotD_tup]
    walk_at "mi"
    unfold g_jumps_b2
    walk_at "mi"
    cases n with
    | zero => cases hrun
    | succ n =>
      have hrun : (match stepJ bi with | none => some bi | some b' => run n b') = some r := hrun
      have hsj : stepJ bi = (((oneWay bi).or (shortened bi)).or (leftOut bi)).or (joined bi) := rfl
      have fin : ∀ (st' : S) (b' : List Bk) (x3 : D) (x5 : Option D), stepJ bi = some b' → Gr st st' → ∃ m', m' < n + 1 + 1 ∧ Gr s st' ∧ ((∃ x3' x5' bi, [some (D.tup [a, p, .tup (bs.map encK)]), some a, some p, some x3, some (.tup (b'.map encK)), x5] = [some (.tup [a, p, .tup (bs.map encK)]), some a, some p, some x3', some (.tup (bi.map encK)), x5'] ∧ Inv bi ∧ ∃ n, m' = n + 1 ∧ run n bi = some r) ∨ (∃ x5', [some (D.tup [a, p, .tup (bs.map encK)]), some a, some p, some x3, some (.tup (b'.map encK)), x5] = [some (.tup [a, p, .tup (bs.map encK)]), some a, some p, some (.tup (r.map encK)), some .non, x5'] ∧ m' = 0)) := by
        intro st' b' x3 x5 e hG'
        rw [e] at hrun
        exact ⟨n + 1, by omega, hG.trans hG', Or.inl ⟨_, _, b', rfl, inv_step hI e, n, rfl, hrun⟩⟩
      refine fs_cons okD_tup ?_
      rw [asgT_n, wp_some]
      refine jb_try (r := oneWay bi) rfl (fun Q z => one_way_ok hI.ok (z _ (Gr.refl _))) ?_
      intro s1 hG1
      cases h1 : oneWay bi with
      | some b' =>
        rw [h1] at hsj
        refine fs_cons okD_tup ?_
        rw [asgT_n, wp_some]
        refine jb_skip ?_
        refine fs_cons okD_tup ?_
        rw [asgT_n, wp_some]
        refine jb_skip ?_
        refine fs_cons okD_tup ?_
        rw [asgT_n, wp_some]
        refine jb_skip ?_
        exact fs_nil (fin _ b' _ _ hsj hG1) okD_tup
      | none =>
        rw [h1] at hsj
        refine fs_cons okD_tup ?_
        rw [asgT_n, wp_some]
        refine jb_try (r := shortened bi) rfl (fun Q z => shortened_ok hI.ok z) ?_
        intro s2 hG2
        cases h2 : shortened bi with
        | some b' =>
          rw [h2] at hsj
          refine fs_cons okD_tup ?_
          rw [asgT_n, wp_some]
          refine jb_skip ?_
          refine fs_cons okD_tup ?_
          rw [asgT_n, wp_some]
          refine jb_skip ?_
          exact fs_nil (fin _ b' _ _ hsj (hG1.trans hG2)) okD_tup
        | none =>
          rw [h2] at hsj
          refine fs_cons okD_tup ?_
          rw [asgT_n, wp_some]
          refine jb_try (r := leftOut bi) rfl (fun Q z => left_out_ok hI.ok z) ?_
          intro s3 hG3
          cases h3 : leftOut bi with
          | some b' =>
            rw [h3] at hsj
            refine fs_cons okD_tup ?_
            rw [asgT_n, wp_some]
            refine jb_skip ?_
            exact fs_nil (fin _ b' _ _ hsj (hG1.trans (hG2.trans hG3))) okD_tup
          | none =>
            rw [h3] at hsj
            refine fs_cons okD_tup ?_
            rw [asgT_n, wp_some]
            refine jb_try (r := joined bi) rfl (fun Q z => joined_ok hI.ok z) ?_
            intro s4 hG4
            have hG' := hG1.trans (hG2.trans (hG3.trans hG4))
            cases h4 : joined bi with
            | some b' =>
              rw [h4] at hsj
              exact fs_nil (fin _ b' _ _ hsj hG') okD_tup
            | none =>
              rw [h4] at hsj
              have hsj : stepJ bi = none := hsj
              rw [hsj] at hrun
              cases hrun
              exact fs_nil ⟨0, by omega, hG.trans hG', Or.inr ⟨_, rfl, rfl⟩⟩ okD_tup
  · walk_at "mi"
    rw [isNotD_non]
    walk_at "mi"
    exact k _ hG
end My

set_option Elab.async false
set_option linter.all false
set_option maxRecDepth 100000
set_option maxHeartbeats 4000000
namespace My
open PySem PySem.Spec PyProof.Rows L2 Mi
local macro_rules | `(tactic| walk_at "mi") => `(tactic| try simp only [↓w_vr, ↓w_cn, ↓w_e2, ↓w_tup, ↓w_lst, ↓w_aN, ↓w_aC, ↓w_call, ↓w_B, ↓w_M, ↓w_oN, ↓w_oS, ↓w_sl, ↓w_B1, ↓w_Tl, ↓w_An, ↓w_Or, ↓w_No, ↓w_eAn, ↓w_eO, ↓w_eNo, ↓w_eNeg, ↓w_eIf, ↓w_ch, ↓w_Dn, ↓w_lRg1, ↓w_trg1, ↓w_yes, ↓ws_forS, ↓ws_forG, ↓w_lcS, ↓w_lcG, ↓w_dcS, ↓w_dcG, items_tup, items_rol, ↓ws_seq, ↓ws_skip, ↓ws_set, ↓ws_ex, ↓ws_ret, ↓ws_retN, ↓ws_bk, ↓ws_ct, ↓ws_if, ↓ws_asg, ↓ws_dput, ↓ws_daug, ↓ws_lput, ↓ws_aug, ↓wp_some, ↓wp_none, ↓wp_if, ↓wp_map, ↓wf_ok, ↓asI_int, ↓asBl_bl,
  List.getElem?_cons_zero, List.getElem?_cons_succ, List.set_cons_zero, List.set_cons_succ, opI_int, addD_int, mulD_int, intB_int, intB_bl, absB_int, lenB_rol, lenB_tup, ixD_rol, ixD_tup, atI0, atI1, atI2, atI3, atI4, asgT_n, tyQ, appQ, slQ, slD_tup, wipeE, List.length_cons, List.length_nil, List.length_map, true_and, and_true, decide_true, ↓reduceIte, bl_t, List.map_cons, List.map_nil, List.cons_append, List.nil_append, List.replicate_succ, List.replicate_zero, Nat.reduceAdd, Nat.reduceLeDiff, Int.reduceLT, Int.reduceLE, Int.reduceNeg, Int.reduceSub, eqD_str, eqD_int, neD_int, ofStr_eq, String.reduceEq, decide_false, decide_true, in_tup, flatD_str, flatD_int, List.all_cons, List.all_nil, List.any_cons, List.any_nil, eqF_str, Bool.and_true, Bool.and_self, Bool.or_false, Bool.or_true, Bool.true_or, Bool.false_or, Bool.false_eq_true, Bool.not_true, Bool.not_false, in_top, ixD_top, tupB_top, items_top, lenB_top, tru_bl, asgT_2, asgT_3, ↓w_pN, ↓w_pC, ↓w_Dct, ixD_tup, Int.cast_ofNat_Int, Int.reduceEq, ↓w_DGet2, ↓w_callV, ↓ws_laug, neD_str, ↓ws_forG2, lstB_tup, eqD_bl, neD_bl])

/-! ### equal things are told to be equal -/
inductive Pu : Nat → D → Prop
  | int (n : Nat) (i : Int) : Pu n (.int i)
  | str (n : Nat) (x : Str) : Pu n (.str x)
  | non (n : Nat) : Pu n .non
  | tup {n : Nat} {ds : List D} : ds.length ≤ 16777216 → (∀ d ∈ ds, Pu n d) → Pu (n + 1) (.tup ds)
theorem isiT_tup {ds : List D} {s : S} : isiTB [.tup ds, .tup [.ty "tuple", .ty "list"]] s = some (.bl true, s) := by kernel_rfl
theorem isiT_int {i : Int} {s : S} : isiTB [.int i, .tup [.ty "tuple", .ty "list"]] s = some (.bl false, s) := by kernel_rfl
theorem isiT_str {i : Str} {s : S} : isiTB [.str i, .tup [.ty "tuple", .ty "list"]] s = some (.bl false, s) := by kernel_rfl
theorem isiT_non {s : S} : isiTB [.non, .tup [.ty "tuple", .ty "list"]] s = some (.bl false, s) := by kernel_rfl
theorem isi_tup {ds : List D} {s : S} : isiB [.tup ds, .ty "tuple"] s = some (.bl true, s) := by kernel_rfl
theorem isi_str {x : Str} {s : S} : isiB [.str x, .ty "str"] s = some (.bl true, s) := by kernel_rfl
theorem isi_int {i : Int} {s : S} : isiB [.int i, .ty "str"] s = some (.bl false, s) := by kernel_rfl
theorem isi_int2 {i : Int} {s : S} : isiB [.int i, .ty "int"] s = some (.bl true, s) := by kernel_rfl
theorem isi_int3 {i : Int} {s : S} : isiB [.int i, .ty "bool"] s = some (.bl false, s) := by kernel_rfl
theorem isD_int {i : Int} {s : S} : isD (.int i) .non s = some (.bl false, s) := rfl
theorem isD_str {i : Str} {s : S} : isD (.str i) .non s = some (.bl false, s) := rfl
theorem eqD_nils {p q : Nat} {s : S} (h : s[p]? = some (.lst [])) (h' : s[q]? = some (.lst [])) : eqD (.ref p) (.ref q) s = some (.bl true, s) := by
  have := eqB_ints (as := []) (bs := []) h h'
  unfold eqD
  rw [this]; rfl
local macro_rules | `(tactic| walk_at "mi") => `(tactic| try simp only [↓w_vr, ↓w_cn, ↓w_e2, ↓w_tup, ↓w_lst, ↓w_aN, ↓w_aC, ↓w_call, ↓w_B, ↓w_M, ↓w_oN, ↓w_oS, ↓w_sl, ↓w_B1, ↓w_Tl, ↓w_An, ↓w_Or, ↓w_No, ↓w_eAn, ↓w_eO, ↓w_eNo, ↓w_eNeg, ↓w_eIf, ↓w_ch, ↓w_Dn, ↓w_lRg1, ↓w_trg1, ↓w_yes, ↓ws_forS, ↓ws_forG, ↓w_lcS, ↓w_lcG, ↓w_dcS, ↓w_dcG, items_tup, items_rol, ↓ws_seq, ↓ws_skip, ↓ws_set, ↓ws_ex, ↓ws_ret, ↓ws_retN, ↓ws_bk, ↓ws_ct, ↓ws_if, ↓ws_asg, ↓ws_dput, ↓ws_daug, ↓ws_lput, ↓ws_aug, ↓wp_some, ↓wp_none, ↓wp_if, ↓wp_map, ↓wf_ok, ↓asI_int, ↓asBl_bl,
  List.getElem?_cons_zero, List.getElem?_cons_succ, List.set_cons_zero, List.set_cons_succ, opI_int, addD_int, mulD_int, intB_int, intB_bl, absB_int, lenB_rol, lenB_tup, ixD_rol, ixD_tup, atI0, atI1, atI2, atI3, atI4, asgT_n, tyQ, appQ, slQ, slD_tup, wipeE, List.length_cons, List.length_nil, List.length_map, true_and, and_true, decide_true, ↓reduceIte, bl_t, List.map_cons, List.map_nil, List.cons_append, List.nil_append, List.replicate_succ, List.replicate_zero, Nat.reduceAdd, Nat.reduceLeDiff, Int.reduceLT, Int.reduceLE, Int.reduceNeg, Int.reduceSub, eqD_str, eqD_int, neD_int, ofStr_eq, String.reduceEq, decide_false, decide_true, in_tup, flatD_str, flatD_int, List.all_cons, List.all_nil, List.any_cons, List.any_nil, eqF_str, Bool.and_true, Bool.and_self, Bool.or_false, Bool.or_true, Bool.true_or, Bool.false_or, Bool.false_eq_true, Bool.not_true, Bool.not_false, in_top, ixD_top, tupB_top, items_top, lenB_top, tru_bl, asgT_2, asgT_3, ↓w_pN, ↓w_pC, ↓w_Dct, ixD_tup, Int.cast_ofNat_Int, Int.reduceEq, ↓w_DGet2, ↓w_callV, ↓ws_laug, neD_str, ↓ws_forG2, lstB_tup, eqD_bl, neD_bl, isD_non, isD_ref, isD_tup, isD_int, isD_str, isNotD_non, isNotD_tup, isiT_tup, isiT_int, isiT_str, isiT_non, isi_tup, isi_str, isi_int, isi_int2, isi_int3])
theorem equal_ok : ∀ (r : Nat) (d : D), Pu r d → ∀ (s : S) (Q : D → S → Prop), (∀ s', Gr s s' → Q (.bl true) s') → WF (F_law_equal (r + 1) [d, d] s) Q := by
  intro r
  induction r with
  | zero =>
    intro d hd s Q k
    show WF (fnB 3 2 (g_law_equal (F_law_equal 0)) [d, d] s) Q
    refine (wf_fn (by rfl)).mpr ?_
    unfold g_law_equal
    cases hd with
    | int n i =>
      walk_at "mi"
      exact k s (Gr.refl _)
    | str n i =>
      walk_at "mi"
      exact k s (Gr.refl _)
    | non n =>
      walk_at "mi"
      exact k s (Gr.refl _)
  | succ r ih =>
    intro d hd s Q k
    show WF (fnB 3 2 (g_law_equal (F_law_equal (r + 1))) [d, d] s) Q
    refine (wf_fn (by rfl)).mpr ?_
    unfold g_law_equal
    cases hd with
    | int n i =>
      walk_at "mi"
      exact k s (Gr.refl _)
    | str n i =>
      walk_at "mi"
      exact k s (Gr.refl _)
    | non n =>
      walk_at "mi"
      exact k s (Gr.refl _)
    | @tup _ ds hl hds =>
      walk_at "mi"
      refine ⟨by omega, ?_⟩
      rw [Int.toNat_natCast]
      refine cs_rng (fun i ys st => ys = [] ∧ Gr s st) hl ⟨rfl, Gr.refl _⟩ ?_ ?_
      · rintro i ys st hi ⟨rfl, hG⟩
        have hix : atI ds (i : Int) = some ds[i] := atI_nat' (List.getElem?_eq_getElem hi)
        walk_at "mi"
        rw [hix]
        walk_at "mi"
        refine ih _ (hds _ (List.getElem_mem hi)) st _ ?_
        intro s' hG'
        walk_at "mi"
        exact hG.trans hG'
      · rintro ys st ⟨rfl, hG⟩
        walk_at "mi"
        rw [eqD_nils (old_get top_get) top_get]
        walk_at "mi"
        exact k _ ((hG.trans (Gr.app _ _)).trans (Gr.app _ _))
end My

set_option Elab.async false
set_option linter.all false
set_option maxRecDepth 100000
set_option maxHeartbeats 4000000
namespace My
open PySem PySem.Spec PyProof.Rows L2 Mi
local macro_rules | `(tactic| walk_at "mi") => `(tactic| try simp only [↓w_vr, ↓w_cn, ↓w_e2, ↓w_tup, ↓w_lst, ↓w_aN, ↓w_aC, ↓w_call, ↓w_B, ↓w_M, ↓w_oN, ↓w_oS, ↓w_sl, ↓w_B1, ↓w_Tl, ↓w_An, ↓w_Or, ↓w_No, ↓w_eAn, ↓w_eO, ↓w_eNo, ↓w_eNeg, ↓w_eIf, ↓w_ch, ↓w_Dn, ↓w_lRg1, ↓w_trg1, ↓w_yes, ↓ws_seq, ↓ws_skip, ↓ws_set, ↓ws_ex, ↓ws_ret, ↓ws_retN, ↓ws_bk, ↓ws_ct, ↓ws_if, ↓ws_asg, ↓ws_dput, ↓ws_daug, ↓ws_lput, ↓ws_aug, ↓wp_some, ↓wp_none, ↓wp_if, ↓wp_map, ↓wf_ok, ↓asI_int, ↓asBl_bl,
  List.getElem?_cons_zero, List.getElem?_cons_succ, List.set_cons_zero, List.set_cons_succ, opI_int, addD_int, mulD_int, intB_int, intB_bl, absB_int, lenB_rol, lenB_tup, ixD_rol, ixD_tup, atI0, atI1, atI2, atI3, atI4, asgT_n, tyQ, appQ, slQ, slD_tup, wipeE, List.length_cons, List.length_nil, List.length_map, true_and, and_true, decide_true, ↓reduceIte, bl_t, List.map_cons, List.map_nil, List.cons_append, List.nil_append, List.replicate_succ, List.replicate_zero, Nat.reduceAdd, Nat.reduceLeDiff, Int.reduceLT, Int.reduceLE, Int.reduceNeg, Int.reduceSub])

/-- the draws: ints from 0 to 996 -/
def Dr (ns : List Int) : Prop := ∀ n ∈ ns, 0 ≤ n ∧ n < 997
theorem Dr.snoc {ns : List Int} {n : Int} (h : Dr ns) (h0 : 0 ≤ n) (h1 : n < 997) : Dr (ns ++ [n]) := fun m hm => by
  rcases List.mem_append.mp hm with z | z
  · exact h m z
  · rw [List.mem_singleton.mp z]; exact ⟨h0, h1⟩
theorem mapI_snoc (ns : List Int) (n : Int) : ns.map D.int ++ [D.int n] = (ns ++ [n]).map D.int := by rw [List.map_append]; rfl
theorem cut_ints (ns : List Int) (lo hi : Option Int) : ∃ ms : List Int, Mi.cutD (ns.map D.int) lo hi = ms.map D.int ∧ (∀ m ∈ ms, m ∈ ns) ∧ ms.length ≤ ns.length := by
  unfold Mi.cutD
  rw [← List.map_drop, ← List.map_take]
  exact ⟨_, rfl, fun m hm => List.mem_of_mem_drop (i := HT.sIx (ns.map D.int).length 0 lo) (List.mem_of_mem_take hm), by rw [List.length_take, List.length_drop]; omega⟩
theorem draws_ok (ns : List Int) (hl : ns.length ≤ 63) (many : Int) (hm : 0 ≤ many ∧ many ≤ 100000) (s : S) : WF (F_law_draws [.rol (ns.map D.int), .int many] s) fun d s' => ∃ ms a, Dr ms ∧ ms.length = many.toNat ∧ d = .ref (s ++ [O.lst a]).length ∧ s' = (s ++ [O.lst a]) ++ [O.lst (ms.map D.int)] := by
  unfold F_law_draws
  refine (wf_fn (by rfl)).mpr ?_
  unfold g_law_draws
  walk_at "mi"
  refine ws_forR (fun i env s1 => ∃ (mixed : Int) (x4 x5 x6 x7 : Option D) (ms : List Int), env = [some (.rol (ns.map D.int)), some (.int many), some (.ref s.length), some (.int mixed), x4, x5, x6, x7] ∧ 0 ≤ mixed ∧ mixed < 65537 ∧ s1 = s ++ [.lst (ms.map D.int)] ∧ Dr ms ∧ ms.length ≤ 62 * i) ns.length ?_ ?_ ?_
  · walk_at "mi"
    exact ⟨_, rfl, by omega, by omega, by omega, 7, none, none, none, none, [], rfl, by decide, by decide, rfl, fun _ h => (by cases h), Nat.zero_le _⟩
  · rintro i env s1 hi ⟨mixed, x4, x5, x6, x7, ms, rfl, h1, h2, rfl, hd, hlen⟩
    have hg : atI (ns.map D.int) (i : Int) = some (.int ns[i]) := atI_nat' (by rw [List.getElem?_map, List.getElem?_eq_getElem hi]; rfl)
    generalize ns[i] = cell0 at hg
    unfold g_law_draws_b2
    walk_at "mi"
    simp only [hg]
    walk_at "mi"
    generalize (if cell0 < 0 then -cell0 else cell0) = cell
    refine ⟨.inr (by decide), ?_⟩
    generalize hmx : (mixed * 48271 + cell % 1000003 + (i : Int)) % 65537 = mx
    have b1 : 0 ≤ mx := by rw [← hmx]; exact Int.emod_nonneg _ (by decide)
    have b2 : mx < 65537 := by rw [← hmx]; exact Int.emod_lt_of_pos _ (by decide)
    have hen : ms.length < 16777216 := by omega
    refine ⟨by decide, ?_⟩
    have inner : ∀ (B C : Mi.Env → S → Prop) (ms' : List Int) (rest : Int) (x7 : Option D), Dr ms' → ms'.length ≤ 62 * i + 2 →
        WS (sFor (T.n 7) (iRg1 (cn (D.int 60))) g_law_draws_b1) [some (.rol (ns.map D.int)), some (.int many), some (.ref s.length), some (.int mx), some (.int (i : Int)), some (.int cell), some (.int rest), x7] (s ++ [.lst (ms'.map D.int)])
          (fun env s1 => ∃ (mixed : Int) (x4 x5 x6 x7 : Option D) (ms : List Int), env = [some (.rol (ns.map D.int)), some (.int many), some (.ref s.length), some (.int mixed), x4, x5, x6, x7] ∧ 0 ≤ mixed ∧ mixed < 65537 ∧ s1 = s ++ [.lst (ms.map D.int)] ∧ Dr ms ∧ ms.length ≤ 62 * (i + 1))
          (fun d s' => ∃ ms a, Dr ms ∧ ms.length = many.toNat ∧ d = .ref (s ++ [O.lst a]).length ∧ s' = (s ++ [O.lst a]) ++ [O.lst (ms.map D.int)]) B C := by
      intro B C ms' rest x7 hd' hlen'
      refine ws_forR (fun j env s1 => ∃ (rest : Int) (x7 : Option D) (ms : List Int), env = [some (.rol (ns.map D.int)), some (.int many), some (.ref s.length), some (.int mx), some (.int (i : Int)), some (.int cell), some (.int rest), x7] ∧ s1 = s ++ [.lst (ms.map D.int)] ∧ Dr ms ∧ ms.length ≤ 62 * i + 2 + j) 60 ?_ ?_ ?_
      · walk_at "mi"
        exact ⟨_, rfl, by decide, by decide, rfl, rest, x7, ms', rfl, rfl, hd', hlen'⟩
      · rintro j env s1 hj ⟨rest, x7, ms, rfl, rfl, hd, hlen⟩
        unfold g_law_draws_b1
        walk_at "mi"
        split
        · rename_i hr
          have hen : ms.length < 16777216 := by omega
          refine ⟨hen, rest / 997, _, ms ++ [rest % 997], rfl, by rw [mapI_snoc], hd.snoc (Int.emod_nonneg _ (by decide)) (Int.emod_lt_of_pos _ (by decide)), ?_⟩
          rw [List.length_append, List.length_singleton]; omega
        · exact ⟨rest, _, ms, rfl, rfl, hd, by omega⟩
      · rintro env s1 ⟨rest, x7, ms, rfl, rfl, hd, hlen⟩
        exact ⟨mx, _, _, _, _, ms, rfl, b1, b2, rfl, hd, by omega⟩
    split
    · exact inner _ _ ms cell x7 hd (by omega)
    · refine ⟨hen, .inr (by decide), ?_⟩
      refine ⟨by rw [List.length_append, List.length_map, List.length_singleton]; omega, ?_⟩
      rw [mapI_snoc, mapI_snoc]
      exact inner _ _ _ 0 x7 ((hd.snoc (Int.emod_nonneg _ (by decide)) (Int.emod_lt_of_pos _ (by decide))).snoc (Int.emod_nonneg _ (by decide)) (Int.emod_lt_of_pos _ (by decide))) (by rw [List.length_append, List.length_append, List.length_singleton, List.length_singleton]; omega)
  · rintro env s1 ⟨mixed, x4, x5, x6, x7, ms, rfl, h1, h2, rfl, hd, hlen⟩
    refine ws_forR (fun j env s1 => ∃ (mixed : Int) (x4 : Option D) (ms : List Int), env = [some (.rol (ns.map D.int)), some (.int many), some (.ref s.length), some (.int mixed), x4, x5, x6, x7] ∧ s1 = s ++ [.lst (ms.map D.int)] ∧ Dr ms ∧ ms.length ≤ 62 * ns.length + j ∧ j ≤ ms.length) many.toNat ?_ ?_ ?_
    · walk_at "mi"
      exact ⟨_, rfl, hm.1, by omega, rfl, mixed, x4, ms, rfl, rfl, hd, hlen, Nat.zero_le _⟩
    · rintro j env s1 hj ⟨mixed, x4, ms, rfl, rfl, hd, hlen, hge⟩
      unfold g_law_draws_b3
      walk_at "mi"
      refine ⟨.inr (by decide), by omega, _, _, ms ++ [_], rfl, by rw [mapI_snoc], hd.snoc (Int.emod_nonneg _ (by decide)) (Int.emod_lt_of_pos _ (by decide)), ?_⟩
      rw [List.length_append, List.length_singleton]; omega
    · rintro env s1 ⟨mixed, x4, ms, rfl, rfl, hd, hlen, hge⟩
      walk_at "mi"
      obtain ⟨k, hk⟩ := Int.eq_ofNat_of_zero_le hm.1
      subst hk
      rw [Int.toNat_natCast] at hge
      rw [cutD_take, ← List.map_take]
      exact ⟨ms.take k, _, fun m hm => hd m (List.mem_of_mem_take hm), by rw [List.length_take, Int.toNat_natCast]; omega, rfl, rfl⟩
local macro_rules | `(tactic| walk_at "mi") => `(tactic| try simp only [↓w_vr, ↓w_cn, ↓w_e2, ↓w_tup, ↓w_lst, ↓w_aN, ↓w_aC, ↓w_call, ↓w_B, ↓w_M, ↓w_oN, ↓w_oS, ↓w_sl, ↓w_B1, ↓w_Tl, ↓w_An, ↓w_Or, ↓w_No, ↓w_eAn, ↓w_eO, ↓w_eNo, ↓w_eNeg, ↓w_eIf, ↓w_ch, ↓w_Dn, ↓w_lRg1, ↓w_trg1, ↓w_yes, ↓ws_forS, ↓ws_forG, ↓w_lcS, ↓w_lcG, ↓w_dcS, ↓w_dcG, items_tup, items_rol, ↓ws_seq, ↓ws_skip, ↓ws_set, ↓ws_ex, ↓ws_ret, ↓ws_retN, ↓ws_bk, ↓ws_ct, ↓ws_if, ↓ws_asg, ↓ws_dput, ↓ws_daug, ↓ws_lput, ↓ws_aug, ↓wp_some, ↓wp_none, ↓wp_if, ↓wp_map, ↓wf_ok, ↓asI_int, ↓asBl_bl,
  List.getElem?_cons_zero, List.getElem?_cons_succ, List.set_cons_zero, List.set_cons_succ, opI_int, addD_int, mulD_int, intB_int, intB_bl, absB_int, lenB_rol, lenB_tup, ixD_rol, ixD_tup, atI0, atI1, atI2, atI3, atI4, asgT_n, tyQ, appQ, slQ, slD_tup, wipeE, List.length_cons, List.length_nil, List.length_map, true_and, and_true, decide_true, ↓reduceIte, bl_t, List.map_cons, List.map_nil, List.cons_append, List.nil_append, List.replicate_succ, List.replicate_zero, Nat.reduceAdd, Nat.reduceLeDiff, Int.reduceLT, Int.reduceLE, Int.reduceNeg, Int.reduceSub, eqD_str, eqD_int, neD_int, ofStr_eq, String.reduceEq, decide_false, decide_true, in_tup, flatD_str, flatD_int, List.all_cons, List.all_nil, List.any_cons, List.any_nil, eqF_str, Bool.and_true, Bool.and_self, Bool.or_false, Bool.or_true, Bool.true_or, Bool.false_or, Bool.false_eq_true, Bool.not_true, Bool.not_false, in_top, ixD_top, tupB_top, items_top, lenB_top, tru_bl, asgT_2, asgT_3, ↓w_pN, ↓w_pC, ↓w_Dct, ixD_tup, Int.cast_ofNat_Int, Int.reduceEq, ↓w_DGet2, ↓w_callV, ↓ws_laug, neD_str, ↓ws_forG2, lstB_tup, eqD_bl, neD_bl, isD_non, isD_ref, isD_tup, isD_int, isD_str, isNotD_non, isNotD_tup, isiT_tup, isiT_int, isiT_str, isiT_non, isi_tup, isi_str, isi_int, isi_int2, isi_int3])
def rK (pr : Nat) (a : Int) : List (Key × D) := [(Sum.inr ("row" : Str), D.ref pr), (Sum.inr ("at" : Str), D.int a)]
theorem rk_at (pr : Nat) (a : Int) : valD (rK pr a) (.inr "at") = some (.int a) := by kernel_rfl
theorem rk_row (pr : Nat) (a : Int) : valD (rK pr a) (.inr "row") = some (.ref pr) := by kernel_rfl
theorem rk_put (pr : Nat) (a b : Int) : putD (rK pr a) (.inr "at") (.int b) = rK pr b := by kernel_rfl
/-- the draws' state at pw, pd -/
def Wd (pw pd : Nat) (s : S) : Prop := ∃ (a : Int) (ms : List Int), 0 ≤ a ∧ s[pw]? = some (.dct (rK pd a)) ∧ s[pd]? = some (.lst (ms.map D.int)) ∧ Dr ms ∧ ms.length = 400 ∧ pw ≠ pd
theorem Wd.app {pw pd : Nat} {s : S} (h : Wd pw pd s) (t : S) : Wd pw pd (s ++ t) := by
  obtain ⟨a, ms, h0, h1, h2, h3, h4, h5⟩ := h
  exact ⟨a, ms, h0, old_get h1, old_get h2, h3, h4, h5⟩
theorem Wd.gr {pw pd : Nat} {s s' : S} (h : Wd pw pd s) (hG : Gr s s') : Wd pw pd s' := by
  obtain ⟨a, ms, h0, h1, h2, h3, h4, h5⟩ := h
  exact ⟨a, ms, h0, hG.get h1, hG.get h2, h3, h4, h5⟩
theorem Wd.lt {pw pd : Nat} {s : S} (h : Wd pw pd s) : pw < s.length ∧ pd < s.length := by
  obtain ⟨a, ms, h0, h1, h2, h3, h4, h5⟩ := h
  exact ⟨(List.getElem?_eq_some_iff.mp h1).1, (List.getElem?_eq_some_iff.mp h2).1⟩
theorem Wd.set {pw pd : Nat} {s : S} (h : Wd pw pd s) {q : Nat} {o : O} (h1 : q ≠ pw) (h2 : q ≠ pd) : Wd pw pd (s.set q o) := by
  obtain ⟨a, ms, h0, e1, e2, h3, h4, h5⟩ := h
  exact ⟨a, ms, h0, by rw [List.getElem?_set_ne h1]; exact e1, by rw [List.getElem?_set_ne h2]; exact e2, h3, h4, h5⟩
theorem take_ok {pw pd : Nat} {s : S} {Q : D → S → Prop} (h : Wd pw pd s) (k : ∀ (i : Int) (s' : S), 0 ≤ i → Wd pw pd s' → Fr pw s s' → Q (.int i) s') : WF (F_law_take [.ref pw] s) Q := by
  obtain ⟨a, ms, h0, h1, h2, h3, h4, h5⟩ := h
  have l1 : pw < s.length := (List.getElem?_eq_some_iff.mp h1).1
  unfold F_law_take
  refine (wf_fn (by rfl)).mpr ?_
  unfold g_law_take
  walk_at "mi"
  rw [dget_k h1 (by rfl), rk_at]
  walk_at "mi"
  rw [dput_k h1 (by rfl), rk_put]
  have g1 : (s.set pw (.dct (rK pd (a + 1))))[pw]? = some (.dct (rK pd (a + 1))) := List.getElem?_set_self l1
  have g2 : (s.set pw (.dct (rK pd (a + 1))))[pd]? = some (.lst (ms.map D.int)) := by rw [List.getElem?_set_ne h5]; exact h2
  generalize hs : s.set pw (.dct (rK pd (a + 1))) = s1 at g1 g2
  have w1 : Wd pw pd s1 := ⟨a + 1, ms, by omega, g1, g2, h3, h4, h5⟩
  have f1 : Fr pw s s1 := by
    rw [← hs]
    exact ⟨by rw [List.length_set]; exact Nat.le_refl _, fun p _ np => List.getElem?_set_ne (fun z => np z.symm)⟩
  walk_at "mi"
  refine ⟨(by show (2 : Nat) < 16777216; omega), ?_⟩
  rw [dget_k g1 (by rfl), rk_row]
  walk_at "mi"
  have m0 : 0 ≤ a % 400 := Int.emod_nonneg _ (by decide)
  have m1 : a % 400 < 400 := Int.emod_lt_of_pos _ (by decide)
  have hlt : (a % 400).toNat < ms.length := by omega
  rw [ixD_ref g2, atI_of m0 (d := .int ms[(a % 400).toNat]) (by rw [List.getElem?_map, List.getElem?_eq_getElem hlt]; rfl)]
  walk_at "mi"
  have := h3 _ (List.getElem_mem hlt)
  exact k _ s1 (by omega) w1 f1
theorem start_ok {ns : List Int} {s : S} {Q : D → S → Prop} (hl : ns.length ≤ 63) (k : ∀ (pw pd : Nat) (s' : S), Wd pw pd s' → Q (.ref pw) s') : WF (F_law_start [.rol (ns.map D.int)] s) Q := by
  unfold F_law_start
  refine (wf_fn (by rfl)).mpr ?_
  unfold g_law_start
  walk_at "mi"
  refine WF.mono (draws_ok ns hl 400 (by omega) s) fun d s' ⟨ms, a, h1, h2, h3, h4⟩ => ?_
  subst h3 h4
  walk_at "mi"
  have e : ∀ (a b : D), keyed [(D.str "row", a), (D.str "at", b)] = some ([(Sum.inr "row", a), (Sum.inr "at", b)] : List (Key × D)) := fun a b => by kernel_rfl
  rw [e]
  walk_at "mi"
  have e2 : ∀ (p : Nat) (a : Int), mergeD [] ([(Sum.inr "row", .ref p), (Sum.inr "at", .int a)] : List (Key × D)) = rK p a := fun a b => by kernel_rfl
  rw [e2]
  refine k _ (s ++ [O.lst a]).length _ ⟨0, ms, by omega, top_get, old_get top_get, h1, by rw [h2]; rfl, ?_⟩
  simp only [List.length_append, List.length_singleton]; omega
def Wrds : List Int := [0, 1, 2, 3, 5, 7, 31, 32, 4294967295, 2147483648, 4, 8]
def Sgns : List Str := ["+", "-", "*", "&", "|", "^", "<<", ">>", "==", "<", "<=", "div", "mod"]
theorem word_ok {pw pd : Nat} {s : S} {Q : D → S → Prop} (hW : Wd pw pd s) (k : ∀ (i : Int) (s' : S), i ∈ Wrds → Wd pw pd s' → Fr pw s s' → Q (.int i) s') : WF (F_law_word [.ref pw] s) Q := by
  unfold F_law_word
  refine (wf_fn (by rfl)).mpr ?_
  unfold g_law_word
  walk_at "mi"
  refine take_ok (hW.app _) ?_
  intro i s' h0 hW' hF'
  walk_at "mi"
  have m0 : 0 ≤ i % 12 := Int.emod_nonneg _ (by decide)
  have m1 : i % 12 < 12 := Int.emod_lt_of_pos _ (by decide)
  rw [ixD_ref (hF'.get top_get (Nat.ne_of_gt hW.lt.1))]
  have hl : (i % 12).toNat < Wrds.length := by show _ < 12; omega
  rw [atI_of m0 (d := .int Wrds[(i % 12).toNat]) (by
    show (Wrds.map D.int)[(i % 12).toNat]? = _
    rw [List.getElem?_map, List.getElem?_eq_getElem hl]; rfl)]
  walk_at "mi"
  exact k _ _ (List.getElem_mem hl) hW' ((Fr.app _ _ _).trans hF')
theorem sign_ok {pw pd : Nat} {s : S} {Q : D → S → Prop} (hW : Wd pw pd s) (k : ∀ (i : Str) (s' : S), i ∈ Sgns → Wd pw pd s' → Fr pw s s' → Q (.str i) s') : WF (F_law_sign [.ref pw] s) Q := by
  unfold F_law_sign
  refine (wf_fn (by rfl)).mpr ?_
  unfold g_law_sign
  walk_at "mi"
  refine take_ok (hW.app _) ?_
  intro i s' h0 hW' hF'
  walk_at "mi"
  have m0 : 0 ≤ i % 13 := Int.emod_nonneg _ (by decide)
  have m1 : i % 13 < 13 := Int.emod_lt_of_pos _ (by decide)
  rw [ixD_ref (hF'.get top_get (Nat.ne_of_gt hW.lt.1))]
  have hl : (i % 13).toNat < Sgns.length := by show _ < 13; omega
  rw [atI_of m0 (d := .str Sgns[(i % 13).toNat]) (by
    show (Sgns.map D.str)[(i % 13).toNat]? = _
    rw [List.getElem?_map, List.getElem?_eq_getElem hl]; rfl)]
  walk_at "mi"
  exact k _ _ (List.getElem_mem hl) hW' ((Fr.app _ _ _).trans hF')
end My

set_option Elab.async false
set_option linter.all false
set_option maxRecDepth 100000
set_option maxHeartbeats 4000000
namespace My
open PySem PySem.Spec PyProof.Rows L2 Mi
local macro_rules | `(tactic| walk_at "mi") => `(tactic| try simp only [↓w_vr, ↓w_cn, ↓w_e2, ↓w_tup, ↓w_lst, ↓w_aN, ↓w_aC, ↓w_call, ↓w_B, ↓w_M, ↓w_oN, ↓w_oS, ↓w_sl, ↓w_B1, ↓w_Tl, ↓w_An, ↓w_Or, ↓w_No, ↓w_eAn, ↓w_eO, ↓w_eNo, ↓w_eNeg, ↓w_eIf, ↓w_ch, ↓w_Dn, ↓w_lRg1, ↓w_trg1, ↓w_yes, ↓ws_forS, ↓ws_forG, ↓w_lcS, ↓w_lcG, ↓w_dcS, ↓w_dcG, items_tup, items_rol, ↓ws_seq, ↓ws_skip, ↓ws_set, ↓ws_ex, ↓ws_ret, ↓ws_retN, ↓ws_bk, ↓ws_ct, ↓ws_if, ↓ws_asg, ↓ws_dput, ↓ws_daug, ↓ws_lput, ↓ws_aug, ↓wp_some, ↓wp_none, ↓wp_if, ↓wp_map, ↓wf_ok, ↓asI_int, ↓asBl_bl,
  List.getElem?_cons_zero, List.getElem?_cons_succ, List.set_cons_zero, List.set_cons_succ, opI_int, addD_int, mulD_int, intB_int, intB_bl, absB_int, lenB_rol, lenB_tup, ixD_rol, ixD_tup, atI0, atI1, atI2, atI3, atI4, asgT_n, tyQ, appQ, slQ, slD_tup, wipeE, List.length_cons, List.length_nil, List.length_map, true_and, and_true, decide_true, ↓reduceIte, bl_t, List.map_cons, List.map_nil, List.cons_append, List.nil_append, List.replicate_succ, List.replicate_zero, Nat.reduceAdd, Nat.reduceLeDiff, Int.reduceLT, Int.reduceLE, Int.reduceNeg, Int.reduceSub, eqD_str, eqD_int, neD_int, ofStr_eq, String.reduceEq, decide_false, decide_true, in_tup, flatD_str, flatD_int, List.all_cons, List.all_nil, List.any_cons, List.any_nil, eqF_str, Bool.and_true, Bool.and_self, Bool.or_false, Bool.or_true, Bool.true_or, Bool.false_or, Bool.false_eq_true, Bool.not_true, Bool.not_false, in_top, ixD_top, tupB_top, items_top, lenB_top, tru_bl, asgT_2, asgT_3, ↓w_pN, ↓w_pC, ↓w_Dct, ixD_tup, Int.cast_ofNat_Int, Int.reduceEq, ↓w_DGet2, ↓w_callV, ↓ws_laug, neD_str, ↓ws_forG2, lstB_tup, eqD_bl, neD_bl, isD_non, isD_ref, isD_tup, isD_int, isD_str, isNotD_non, isNotD_tup, isiT_tup, isiT_int, isiT_str, isiT_non, isi_tup, isi_str, isi_int, isi_int2, isi_int3])

theorem four {α : Type} {L : List α} (h : L.length = 4) : ∃ a b c e, L = [a, b, c, e] := by
  match L, h with
  | [a, b, c, e], _ => exact ⟨a, b, c, e, rfl⟩
theorem row_ok {pw pd : Nat} {s : S} {arrs : List D} {b : Bool} {many : Int} {Q : D → S → Prop} (hW : Wd pw pd s) (hm : 0 < many) (ha : ∀ s, eqD (.tup arrs) (.tup []) s = some (.bl b, s)) (hb : b = false → 0 < arrs.length)
    (k : ∀ (r : Row) (s' : S), r.isLast = false → Wd pw pd s' → Fr pw s s' → Q r.enc s') : WF (F_law_row [.ref pw, .tup arrs, .int many] s) Q := by
  unfold F_law_row
  refine (wf_fn (by rfl)).mpr ?_
  unfold g_law_row
  walk_at "mi"
  refine take_ok hW ?_
  intro t s1 t0 hW1 hF1
  walk_at "mi"
  refine cs_rng (fun i ys st => Wd pw pd st ∧ Fr pw s1 st ∧ ∃ L : List Int, ys = L.map D.int ∧ L.length = i) (by decide) ⟨hW1, Fr.refl _ _, [], rfl, rfl⟩ ?_ ?_
  · rintro i ys st hi ⟨hWt, hFt, L, rfl, hL⟩
    walk_at "mi"
    refine take_ok hWt ?_
    intro v s2 v0 hW2 hF2
    walk_at "mi"
    exact ⟨hm, hW2, hFt.trans hF2, L ++ [v % many], by rw [List.map_append]; rfl, by rw [List.length_append, hL]; rfl⟩
  · rintro ys st ⟨hWt, hFt, L, rfl, hL⟩
    obtain ⟨a, c, d, e, rfl⟩ := four hL
    have m0 : 0 ≤ t % 12 := Int.emod_nonneg _ (by decide)
    generalize t % 12 = tn at *
    have hW3 : Wd pw pd (st ++ [O.lst ([a, c, d, e].map D.int)]) := hWt.app _
    have hF3 : Fr pw s (st ++ [O.lst ([a, c, d, e].map D.int)]) := hF1.trans (hFt.trans (Fr.app _ _ _))
    have h3 : (st ++ [O.lst ([a, c, d, e].map D.int)])[st.length]? = some (O.lst ([a, c, d, e].map D.int)) := top_get
    have hne : st.length ≠ pw := Nat.ne_of_gt hWt.lt.1
    generalize st ++ [O.lst ([a, c, d, e].map D.int)] = s3 at *
    generalize st.length = q at *
    have ix : ∀ {s'}, Fr pw s3 s' → ∀ i : Int, ixD (.ref q) (.int i) s' = (atI ([a, c, d, e].map D.int) i).map fun x => (x, s') := fun z i => ixD_ref (z.get h3 hne)
    have ix3 := fun i => ix (Fr.refl pw s3) i
    walk_at "mi"
    by_cases c1 : tn < 2
    · simp only [c1, ↓reduceIte, ix3, List.map_cons, List.map_nil]
      walk_at "mi"
      refine word_ok hW3 ?_
      intro i s' hi hW' hF'
      walk_at "mi"
      exact k (.const a i) s' rfl hW' (hF3.trans hF')
    simp only [c1, ↓reduceIte]
    by_cases c2 : tn < 4
    · simp only [c2, ↓reduceIte, ix3, List.map_cons, List.map_nil]
      walk_at "mi"
      rw [ix3]
      walk_at "mi"
      exact k (.copy a c) s3 rfl hW3 hF3
    simp only [c2, ↓reduceIte, ha]
    walk_at "mi"
    have op : WF (F_law_sign [.ref pw] s3) fun x s1 => WP (ixD (.ref q) (.int 0) s1) fun p => WP (ixD (.ref q) (.int 1) p.2) fun p1 => WP (ixD (.ref q) (.int 2) p1.2) fun p2 => Q (.tup [.str "op", x, p.1, p1.1, p2.1]) p2.2 := by
      refine sign_ok hW3 ?_
      intro i s' hi hW' hF'
      simp only [ix hF', List.map_cons, List.map_nil]
      walk_at "mi"
      rw [ix hF']
      walk_at "mi"
      rw [ix hF']
      walk_at "mi"
      exact k (.op i a c d) s' rfl hW' (hF3.trans hF')
    by_cases c3 : tn < 8
    · simp only [c3, ↓reduceIte]
      exact op
    simp only [c3, ↓reduceIte]
    have rest : (b = true ∧ 8 < tn) ∨ (b = false ∨ ¬ (8 < tn)) := by
      cases b <;> by_cases c : 8 < tn <;> simp [c]
    rcases rest with ⟨h1, h2⟩ | hr
    · simp only [h1, h2, ↓reduceIte]
      exact op
    have nr : ∀ (A B : Prop), B → (if b = true then (if 8 < tn then A else B) else B) := by
      intro A B z
      rcases hr with h | h
      · rw [h]; exact z
      · by_cases hb : b = true
        · rw [if_pos hb, if_neg h]; exact z
        · rw [if_neg hb]; exact z
    refine nr _ _ ?_
    by_cases c4 : tn = 8
    · simp only [c4, ↓reduceIte, ix3, List.map_cons, List.map_nil]
      walk_at "mi"
      rw [ix3]
      walk_at "mi"
      rw [ix3]
      walk_at "mi"
      rw [ix3]
      walk_at "mi"
      exact k (.select a c d e) s3 rfl hW3 hF3
    simp only [c4, ↓reduceIte]
    have hb' : 0 < arrs.length := hb (hr.elim id fun z => by omega)
    by_cases c5 : tn = 9
    · simp only [c5, ↓reduceIte, ix3, List.map_cons, List.map_nil]
      walk_at "mi"
      refine take_ok hW3 ?_
      intro v s' v0 hW' hF'
      walk_at "mi"
      refine ⟨by omega, ?_⟩
      rw [ix hF']
      walk_at "mi"
      exact k (.load a _ c) s' rfl hW' (hF3.trans hF')
    simp only [c5, ↓reduceIte]
    by_cases c6 : tn = 10
    · simp only [c6, ↓reduceIte]
      refine take_ok hW3 ?_
      intro v s' v0 hW' hF'
      walk_at "mi"
      refine ⟨by omega, ?_⟩
      rw [ix hF']
      walk_at "mi"
      rw [ix hF']
      walk_at "mi"
      exact k (.store _ c d) s' rfl hW' (hF3.trans hF')
    simp only [c6, ↓reduceIte, ix3, List.map_cons, List.map_nil]
    walk_at "mi"
    exact k (.out a) s3 rfl hW3 hF3
theorem way_ok {pw pd : Nat} {s : S} {at' many regs : Int} {Q : D → S → Prop} (hW : Wd pw pd s) (h0 : 0 ≤ at' ∧ at' < many) (hr : 0 < regs) (k : ∀ (r : Row) (s' : S), r.isLast = true → (∀ t ∈ r.ways, 0 ≤ t ∧ t < many) → Wd pw pd s' → Fr pw s s' → Q r.enc s') : WF (F_law_way [.ref pw, .int at', .int many, .int regs] s) Q := by
  unfold F_law_way
  refine (wf_fn (by rfl)).mpr ?_
  unfold g_law_way
  walk_at "mi"
  refine take_ok hW ?_
  intro t s1 t0 hW1 hF1
  walk_at "mi"
  refine fs_rng (fun i env st => (∃ x6 x7, env = [some (.ref pw), some (.int at'), some (.int many), some (.int regs), some (.int (t % 8)), some (.ref s1.length), x6, x7]) ∧ Wd pw pd st ∧ Fr pw s st ∧ s1.length < st.length ∧ ∃ L : List Int, st[s1.length]? = some (.lst (L.map D.int)) ∧ L.length = i ∧ ∀ t ∈ L, 0 ≤ t ∧ t < many) ⟨⟨_, _, rfl⟩, hW1.app _, hF1.trans (Fr.app _ _ _), by rw [List.length_append, List.length_singleton]; omega, [], top_get, rfl, fun _ h => by cases h⟩ ?_ ?_
  · rintro i env st hi ⟨⟨x6, x7, rfl⟩, hWt, hFt, hlt, L, hL, hLi, hLb⟩
    unfold g_law_way_b1
    walk_at "mi"
    have hq1 : s1.length ≠ pw := Nat.ne_of_gt hW1.lt.1
    have hq2 : s1.length ≠ pd := Nat.ne_of_gt hW1.lt.2
    have push : ∀ (v : Int) (s2 : S) (x6 x7 : Option D), Wd pw pd s2 → Fr pw st s2 → 0 ≤ v ∧ v < many → WP (appM (.ref s1.length) [.int v] s2) fun p => (∃ x6' x7', [some (D.ref pw), some (.int at'), some (.int many), some (.int regs), some (.int (t % 8)), some (.ref s1.length), x6, x7] = [some (.ref pw), some (.int at'), some (.int many), some (.int regs), some (.int (t % 8)), some (.ref s1.length), x6', x7']) ∧ Wd pw pd p.2 ∧ Fr pw s p.2 ∧ s1.length < p.2.length ∧ ∃ L : List Int, p.2[s1.length]? = some (.lst (L.map D.int)) ∧ L.length = i + 1 ∧ ∀ t ∈ L, 0 ≤ t ∧ t < many := by
      intro v s2 x6 x7 hW2 hF2 hv
      have hL2 := hF2.get hL hq1
      have hl2 := (List.getElem?_eq_some_iff.mp hL2).1
      rw [app_ref hL2, if_pos (by rw [List.length_map]; omega)]
      walk_at "mi"
      refine ⟨⟨_, _, rfl⟩, hW2.set hq1 hq2, (hFt.trans hF2).set (Or.inr hF1.len), by rw [List.length_set]; exact hl2, L ++ [v], ?_, by rw [List.length_append, hLi]; rfl, fun y hy => ?_⟩
      · rw [List.getElem?_set_self hl2, List.map_append]; rfl
      · rcases List.mem_append.mp hy with hy | hy
        · exact hLb y hy
        · rw [List.mem_singleton.mp hy]; exact hv
    by_cases c1 : many - at' - 1 = 0
    · simp only [c1, ↓reduceIte]
      rw [ty_ref hL]
      walk_at "mi"
      refine take_ok hWt ?_
      intro v s2 v0 hW2 hF2
      walk_at "mi"
      refine ⟨by omega, ?_⟩
      exact push _ _ _ _ hW2 hF2 ⟨Int.emod_nonneg _ (by omega), Int.emod_lt_of_pos _ (by omega)⟩
    · simp only [c1, ↓reduceIte]
      refine take_ok hWt ?_
      intro u s2 u0 hW2 hF2
      walk_at "mi"
      by_cases c2 : u % 5 = 0
      · simp only [c2, ↓reduceIte]
        rw [ty_ref (hF2.get hL hq1)]
        walk_at "mi"
        refine take_ok hW2 ?_
        intro v s3 v0 hW3 hF3
        walk_at "mi"
        refine ⟨by omega, ?_⟩
        exact push _ _ _ _ hW3 (hF2.trans hF3) ⟨Int.emod_nonneg _ (by omega), Int.emod_lt_of_pos _ (by omega)⟩
      · simp only [c2, ↓reduceIte]
        rw [ty_ref (hF2.get hL hq1)]
        walk_at "mi"
        refine take_ok hW2 ?_
        intro v s3 v0 hW3 hF3
        walk_at "mi"
        refine ⟨by omega, ?_⟩
        have a1 : 0 ≤ v % (many - at' - 1) := Int.emod_nonneg _ (by omega)
        have a2 : v % (many - at' - 1) < many - at' - 1 := Int.emod_lt_of_pos _ (by omega)
        exact push _ _ _ _ hW3 (hF2.trans hF3) ⟨by omega, by omega⟩
  · rintro env st ⟨⟨x6, x7, rfl⟩, hWt, hFt, hlt, L, hL, hLi, hLb⟩
    have hq1 : s1.length ≠ pw := Nat.ne_of_gt hW1.lt.1
    obtain ⟨a, b, rfl⟩ : ∃ a b, L = [a, b] := by
      match L, hLi with
      | [a, b], _ => exact ⟨a, b, rfl⟩
    have hA := hLb a (by simp)
    have hB := hLb b (by simp)
    have ix : ∀ {s'}, Fr pw st s' → ∀ i : Int, ixD (.ref s1.length) (.int i) s' = (atI ([a, b].map D.int) i).map fun x => (x, s') := fun z i => ixD_ref (z.get hL hq1)
    walk_at "mi"
    have stop : WF (F_law_take [.ref pw] st) fun d s1 => WP (modD d (.int regs) s1) fun p => Q (.tup [.str "stop", p.1]) p.2 := by
      refine take_ok hWt ?_
      intro v s3 v0 hW3 hF3
      walk_at "mi"
      exact ⟨hr, k (.stop _) s3 rfl (fun _ h => by cases h) hW3 (hFt.trans hF3)⟩
    have go : (if t % 8 < 4 then WP (ixD (.ref s1.length) (.int 0) st) fun p => Q (.tup [.str "jump", p.1]) p.2 else WF (F_law_take [.ref pw] st) fun d s2 => WP (modD d (.int regs) s2) fun p => WP (ixD (.ref s1.length) (.int 0) p.2) fun p1 => WP (ixD (.ref s1.length) (.int 1) p1.2) fun p2 => Q (.tup [.str "branch", p.1, p1.1, p2.1]) p2.2) := by
      split
      · rw [ix (Fr.refl _ _)]
        walk_at "mi"
        exact k (.jump a) st rfl (fun y h => by rw [show y = a by simpa [Row.ways] using h]; exact hA) hWt hFt
      · refine take_ok hWt ?_
        intro v s3 v0 hW3 hF3
        walk_at "mi"
        refine ⟨hr, ?_⟩
        rw [ix hF3]
        walk_at "mi"
        rw [ix hF3]
        walk_at "mi"
        exact k (.branch _ a b) s3 rfl (fun y h => by
          have : y = a ∨ y = b := by simpa [Row.ways] using h
          rcases this with rfl | rfl
          · exact hA
          · exact hB) hW3 (hFt.trans hF3)
    by_cases c1 : t % 8 = 0
    · simp only [c1, ↓reduceIte]
      exact stop
    simp only [c1, ↓reduceIte]
    by_cases c2 : at' = many - 1
    · simp only [c2, ↓reduceIte]
      by_cases c3 : t % 8 < 6
      · simp only [c3, ↓reduceIte]
        exact stop
      · simp only [c3, ↓reduceIte]
        exact go
    · simp only [c2, ↓reduceIte]
      exact go
end My

set_option Elab.async false
set_option linter.all false
set_option maxRecDepth 100000
set_option maxHeartbeats 4000000
namespace My
open PySem PySem.Spec PyProof.Rows L2 Mi
local macro_rules | `(tactic| walk_at "mi") => `(tactic| try simp only [↓w_vr, ↓w_cn, ↓w_e2, ↓w_tup, ↓w_lst, ↓w_aN, ↓w_aC, ↓w_call, ↓w_B, ↓w_M, ↓w_oN, ↓w_oS, ↓w_sl, ↓w_B1, ↓w_Tl, ↓w_An, ↓w_Or, ↓w_No, ↓w_eAn, ↓w_eO, ↓w_eNo, ↓w_eNeg, ↓w_eIf, ↓w_ch, ↓w_Dn, ↓w_lRg1, ↓w_trg1, ↓w_yes, ↓ws_forS, ↓ws_forG, ↓w_lcS, ↓w_lcG, ↓w_dcS, ↓w_dcG, items_tup, items_rol, ↓ws_seq, ↓ws_skip, ↓ws_set, ↓ws_ex, ↓ws_ret, ↓ws_retN, ↓ws_bk, ↓ws_ct, ↓ws_if, ↓ws_asg, ↓ws_dput, ↓ws_daug, ↓ws_lput, ↓ws_aug, ↓wp_some, ↓wp_none, ↓wp_if, ↓wp_map, ↓wf_ok, ↓asI_int, ↓asBl_bl,
  List.getElem?_cons_zero, List.getElem?_cons_succ, List.set_cons_zero, List.set_cons_succ, opI_int, addD_int, mulD_int, intB_int, intB_bl, absB_int, lenB_rol, lenB_tup, ixD_rol, ixD_tup, atI0, atI1, atI2, atI3, atI4, asgT_n, tyQ, appQ, slQ, slD_tup, wipeE, List.length_cons, List.length_nil, List.length_map, true_and, and_true, decide_true, ↓reduceIte, bl_t, List.map_cons, List.map_nil, List.cons_append, List.nil_append, List.replicate_succ, List.replicate_zero, Nat.reduceAdd, Nat.reduceLeDiff, Int.reduceLT, Int.reduceLE, Int.reduceNeg, Int.reduceSub, eqD_str, eqD_int, neD_int, ofStr_eq, String.reduceEq, decide_false, decide_true, in_tup, flatD_str, flatD_int, List.all_cons, List.all_nil, List.any_cons, List.any_nil, eqF_str, Bool.and_true, Bool.and_self, Bool.or_false, Bool.or_true, Bool.true_or, Bool.false_or, Bool.false_eq_true, Bool.not_true, Bool.not_false, in_top, ixD_top, tupB_top, items_top, lenB_top, tru_bl, asgT_2, asgT_3, ↓w_pN, ↓w_pC, ↓w_Dct, ixD_tup, Int.cast_ofNat_Int, Int.reduceEq, ↓w_DGet2, ↓w_callV, ↓ws_laug, neD_str, ↓ws_forG2, lstB_tup, eqD_bl, neD_bl, isD_non, isD_ref, isD_tup, isD_int, isD_str, isNotD_non, isNotD_tup, isiT_tup, isiT_int, isiT_str, isiT_non, isi_tup, isi_str, isi_int, isi_int2, isi_int3])

/-- a drawn block -/
structure BlkOk (n : Int) (b : Bk) : Prop where
  la : b.2.isLast = true
  inn : ∀ r ∈ b.1, r.isLast = false
  to : ∀ t ∈ b.2.ways, 0 ≤ t ∧ t < n
  sz : b.1.length ≤ 7
def Ars : List D := [.tup [.str "a", .int 1, .str "public"], .tup [.str "b", .int 3, .str "secret"], .tup [.str "c", .int 8, .str "public"]]
theorem ars_ok (j : Nat) (h : j < 4) : ∃ b, (∀ s, eqD (.tup (Ars.take j)) (.tup []) s = some (.bl b, s)) ∧ (b = false → 0 < (Ars.take j).length) := by
  obtain rfl | rfl | rfl | rfl : j = 0 ∨ j = 1 ∨ j = 2 ∨ j = 3 := by omega
  · exact ⟨true, fun s => by kernel_rfl, by decide⟩
  · exact ⟨false, fun s => by kernel_rfl, by decide⟩
  · exact ⟨false, fun s => by kernel_rfl, by decide⟩
  · exact ⟨false, fun s => by kernel_rfl, by decide⟩
theorem program_ok {pw pd : Nat} {s : S} {Q : D → S → Prop} (hW : Wd pw pd s) (k : ∀ (j : Nat) (p : Int) (bs : List Bk) (s' : S), j < 4 → 1 ≤ bs.length → bs.length ≤ 9 → (∀ b ∈ bs, BlkOk bs.length b) → Wd pw pd s' → Fr pw s s' → Q (prog (.tup (Ars.take j)) (.int p) bs) s') : WF (F_law_program [.ref pw, .int 9, .int 5] s) Q := by
  unfold F_law_program
  refine (wf_fn (by rfl)).mpr ?_
  unfold g_law_program
  walk_at "mi"
  refine take_ok hW ?_
  intro t1 s1 t10 hW1 hF1
  walk_at "mi"
  have m0 : 0 ≤ t1 % 4 := Int.emod_nonneg _ (by decide)
  have m1 : t1 % 4 < 4 := Int.emod_lt_of_pos _ (by decide)
  obtain ⟨j, hj⟩ := Int.eq_ofNat_of_zero_le m0
  rw [hj] at m1 ⊢
  rw [cutD_take]
  have hj4 : j < 4 := by omega
  show WF _ _
  refine take_ok hW1 ?_
  intro t2 s2 t20 hW2 hF2
  walk_at "mi"
  have n0 : 0 ≤ t2 % 9 := Int.emod_nonneg _ (by decide)
  have n1 : t2 % 9 < 9 := Int.emod_lt_of_pos _ (by decide)
  generalize t2 % 9 = t2m at *
  obtain ⟨b, hb1, hb2⟩ := ars_ok j hj4
  have hfold : (List.take j [D.tup [.str "a", .int 1, .str "public"], .tup [.str "b", .int 3, .str "secret"], .tup [.str "c", .int 8, .str "public"]]) = Ars.take j := rfl
  rw [hfold]
  generalize hA : Ars.take j = A at *
  refine ⟨by omega, ?_⟩
  have hq1 : s2.length ≠ pw := Nat.ne_of_gt hW2.lt.1
  have hq2 : s2.length ≠ pd := Nat.ne_of_gt hW2.lt.2
  have hF02 : Fr pw s s2 := hF1.trans hF2
  refine fs_rng (fun i env st => (∃ x6 x7 x8, env = [some (.ref pw), some (.int 9), some (.int 5), some (.tup A), some (.int (1 + t2m)), some (.ref s2.length), x6, x7, x8]) ∧ Wd pw pd st ∧ Fr pw s st ∧ ∃ bs : List Bk, st[s2.length]? = some (.lst (bs.map encK)) ∧ bs.length = i ∧ ∀ b ∈ bs, BlkOk (1 + t2m) b) ⟨⟨_, _, _, rfl⟩, hW2.app _, hF02.trans (Fr.app _ _ _), [], top_get, rfl, fun _ h => by cases h⟩ ?_ ?_
  · rintro i env st hi ⟨⟨x6, x7, x8, rfl⟩, hWt, hFt, bs, hL, hLi, hLb⟩
    unfold g_law_program_b1
    walk_at "mi"
    refine take_ok (hWt.app _) ?_
    intro t3 s3 t30 hW3 hF3
    walk_at "mi"
    have o0 : 0 ≤ t3 % 5 := Int.emod_nonneg _ (by decide)
    have o1 : t3 % 5 < 5 := Int.emod_lt_of_pos _ (by decide)
    rw [ixD_ref (hF3.get top_get (Nat.ne_of_gt hWt.lt.1))]
    have hn : ∃ n : Int, atI [D.int 0, .int 1, .int 3, .int 5, .int 7] (t3 % 5) = some (.int n) ∧ 0 ≤ n ∧ n ≤ 7 := by
      generalize t3 % 5 = z at *
      obtain rfl | rfl | rfl | rfl | rfl : z = 0 ∨ z = 1 ∨ z = 2 ∨ z = 3 ∨ z = 4 := by omega
      · exact ⟨0, by kernel_rfl, by decide, by decide⟩
      · exact ⟨1, by kernel_rfl, by decide, by decide⟩
      · exact ⟨3, by kernel_rfl, by decide, by decide⟩
      · exact ⟨5, by kernel_rfl, by decide, by decide⟩
      · exact ⟨7, by kernel_rfl, by decide, by decide⟩
    obtain ⟨n, en, n0, n7⟩ := hn
    rw [en]
    walk_at "mi"
    refine ⟨by omega, ?_⟩
    have hF3' : Fr pw st s3 := (Fr.app _ _ _).trans hF3
    refine cs_rng (fun j ys s6 => Wd pw pd s6 ∧ Fr pw s3 s6 ∧ ∃ rs : List Row, ys = rs.map Row.enc ∧ rs.length = j ∧ ∀ r ∈ rs, r.isLast = false) (by omega) ⟨hW3, Fr.refl _ _, [], rfl, rfl, fun _ h => by cases h⟩ ?_ ?_
    · rintro j ys s6 hj ⟨hW6, hF6, rs, rfl, hlr, hr⟩
      walk_at "mi"
      refine row_ok hW6 (by decide) hb1 hb2 ?_
      intro r s7 hl7 hW7 hF7
      exact ⟨hW7, hF6.trans hF7, rs ++ [r], by rw [List.map_append]; rfl, by rw [List.length_append, hlr]; rfl, fun x h => (List.mem_append.mp h).elim (hr x) fun h => by rw [List.mem_singleton.mp h]; exact hl7⟩
    · rintro ys s6 ⟨hW6, hF6, rs, rfl, hlr, hr⟩
      walk_at "mi"
      have hF36 : Fr pw st (s6 ++ [O.lst (rs.map Row.enc)]) := hF3'.trans (hF6.trans (Fr.app _ _ _))
      have hg6 := hF36.get hL hq1
      rw [ty_ref hg6]
      walk_at "mi"
      refine way_ok (hW6.app _) ⟨by omega, by omega⟩ (by decide) ?_
      intro r s7 hl7 hw7 hW7 hF7
      walk_at "mi"
      have n6 : s6.length ≠ pw := Nat.ne_of_gt hW6.lt.1
      have g6 : s7[s6.length]? = some (O.lst (rs.map Row.enc)) := hF7.get top_get n6
      rw [add_refs (old_get g6) top_get, if_pos (by rw [List.length_map, hlr, List.length_singleton]; omega)]
      walk_at "mi"
      have hF8 : Fr pw s7 ((s7 ++ [O.lst [r.enc]]) ++ [O.lst (rs.map Row.enc ++ [r.enc])]) := (Fr.app _ _ _).trans (Fr.app _ _ _)
      have hW8 : Wd pw pd ((s7 ++ [O.lst [r.enc]]) ++ [O.lst (rs.map Row.enc ++ [r.enc])]) := (hW7.app _).app _
      generalize (s7 ++ [O.lst [r.enc]]) ++ [O.lst (rs.map Row.enc ++ [r.enc])] = s8 at *
      have g8 := hF8.get (hF7.get hg6 hq1) hq1
      have l8 := (List.getElem?_eq_some_iff.mp g8).1
      rw [app_ref g8, List.length_map, hLi, if_pos (by omega)]
      walk_at "mi"
      refine ⟨⟨_, _, _, rfl⟩, hW8.set hq1 hq2, ((hFt.trans hF36).trans (hF7.trans hF8)).set (Or.inr hF02.len), bs ++ [(rs, r)], ?_, by rw [List.length_append, hLi]; rfl, fun b hb => ?_⟩
      · rw [List.getElem?_set_self l8, List.map_append]; rfl
      · rcases List.mem_append.mp hb with hb | hb
        · exact hLb b hb
        · rw [List.mem_singleton.mp hb]
          exact ⟨hl7, hr, hw7, by show rs.length ≤ 7; omega⟩
  · rintro env st ⟨⟨x6, x7, x8, rfl⟩, hWt, hFt, bs, hL, hLi, hLb⟩
    walk_at "mi"
    refine take_ok hWt ?_
    intro t3 s3 t30 hW3 hF3
    walk_at "mi"
    rw [tupB_ref (hF3.get hL hq1)]
    walk_at "mi"
    have e1 : (1 + t2m : Int) = (bs.length : Int) := by omega
    rw [e1] at hLb
    have := k j (t3 % 4) bs s3 hj4 (by omega) (by omega) hLb hW3 (hFt.trans hF3)
    rw [hA] at this
    exact this
theorem with_jumps_ok {pw pd : Nat} {s : S} {a p : D} {bs : List Bk} {Q : D → S → Prop} (hW : Wd pw pd s) (h1 : 1 ≤ bs.length) (h9 : bs.length ≤ 9) (hb : ∀ b ∈ bs, BlkOk bs.length b) (k : ∀ (bs' : List Bk) (s' : S), bs'.length = bs.length → (∀ b ∈ bs', BlkOk bs'.length b) → Wd pw pd s' → Fr pw s s' → Q (prog a p bs') s') : WF (F_law_with_jumps [.ref pw, prog a p bs] s) Q := by
  unfold F_law_with_jumps
  refine (wf_fn (by rfl)).mpr ?_
  unfold g_law_with_jumps prog
  walk_at "mi"
  refine ⟨by omega, ?_⟩
  rw [Int.toNat_natCast]
  have hq1 : s.length ≠ pw := Nat.ne_of_gt hW.lt.1
  have hq2 : s.length ≠ pd := Nat.ne_of_gt hW.lt.2
  refine fs_rng (fun i env st => (∃ x3 x4, env = [some (.ref pw), some (.tup [a, p, .tup (bs.map encK)]), some (.ref s.length), x3, x4]) ∧ Wd pw pd st ∧ Fr pw s st ∧ ∃ cs : List Bk, st[s.length]? = some (.lst (cs.map encK)) ∧ cs.length = i ∧ ∀ b ∈ cs, BlkOk bs.length b) ⟨⟨_, _, rfl⟩, hW.app _, Fr.app _ _ _, [], top_get, rfl, fun _ h => by cases h⟩ ?_ ?_
  · rintro i env st hi ⟨⟨x3, x4, rfl⟩, hWt, hFt, cs, hL, hLi, hLb⟩
    unfold g_law_with_jumps_b1
    obtain ⟨b, hbi⟩ : ∃ b, bs[i]? = some b := ⟨_, List.getElem?_eq_getElem hi⟩
    have hix : atI (bs.map encK) (i : Int) = some (encK b) := atI_nat' (by rw [List.getElem?_map, hbi]; rfl)
    have push : ∀ (b : Bk) (s2 : S) (x3 x4 : Option D), BlkOk bs.length b → Wd pw pd s2 → Fr pw st s2 → WP (appM (.ref s.length) [encK b] s2) fun q => (∃ x3' x4', [some (D.ref pw), some (.tup [a, p, .tup (bs.map encK)]), some (.ref s.length), x3, x4] = [some (.ref pw), some (.tup [a, p, .tup (bs.map encK)]), some (.ref s.length), x3', x4']) ∧ Wd pw pd q.2 ∧ Fr pw s q.2 ∧ ∃ cs : List Bk, q.2[s.length]? = some (.lst (cs.map encK)) ∧ cs.length = i + 1 ∧ ∀ b ∈ cs, BlkOk bs.length b := by
      intro b s2 x3 x4 hb hW2 hF2
      have g := hF2.get hL hq1
      have l := (List.getElem?_eq_some_iff.mp g).1
      rw [app_ref g, List.length_map, hLi, if_pos (by omega)]
      walk_at "mi"
      refine ⟨⟨_, _, rfl⟩, hW2.set hq1 hq2, (hFt.trans hF2).set (Or.inr (Nat.le_refl _)), cs ++ [b], ?_, by rw [List.length_append, hLi]; rfl, fun y hy => ?_⟩
      · rw [List.getElem?_set_self l, List.map_append]; rfl
      · rcases List.mem_append.mp hy with hy | hy
        · exact hLb y hy
        · rw [List.mem_singleton.mp hy]; exact hb
    walk_at "mi"
    rw [hix]
    walk_at "mi"
    refine take_ok hWt ?_
    intro t1 s1 t10 hW1 hF1
    walk_at "mi"
    by_cases c : t1 % 2 = 0
    · simp only [c, ↓reduceIte]
      refine take_ok hW1 ?_
      intro t2 s2 t20 hW2 hF2
      walk_at "mi"
      refine ⟨by omega, ty_ref ((hF1.trans hF2).get hL hq1), ?_⟩
      refine push ([], .jump (t2 % (bs.length : Int))) s2 _ _ ⟨rfl, fun _ h => (by cases h), fun y hy => ?_, Nat.zero_le _⟩ hW2 (hF1.trans hF2)
      rw [show y = t2 % (bs.length : Int) by simpa [Row.ways] using hy]
      exact ⟨Int.emod_nonneg _ (by omega), Int.emod_lt_of_pos _ (by omega)⟩
    · simp only [c, ↓reduceIte]
      refine ⟨ty_ref (hF1.get hL hq1), ?_⟩
      exact push b s1 _ _ (hb b (List.mem_of_getElem? hbi)) hW1 hF1
  · rintro env st ⟨⟨x3, x4, rfl⟩, hWt, hFt, cs, hL, hLi, hLb⟩
    walk_at "mi"
    rw [tupB_ref hL]
    walk_at "mi"
    exact k cs st hLi (by rw [hLi]; exact hLb) hWt hFt
theorem inv_of {bs : List Bk} (h1 : 1 ≤ bs.length) (h9 : bs.length ≤ 9) (hb : ∀ b ∈ bs, BlkOk bs.length b) : Inv bs := by
  refine ⟨⟨h1, by omega, fun b h => (hb b h).la, fun b h => (hb b h).inn, fun b h => (hb b h).to, fun b h => by have := (hb b h).sz; omega⟩, h9, fun b h => ?_⟩
  have h7 := (hb b h).sz
  have e1 : (2 : Nat) ^ bs.length ≤ 2 ^ 9 := Nat.pow_le_pow_right (by omega) h9
  have e2 : (2 : Nat) ^ 9 ≤ 2 ^ (9 + uu bs) := Nat.pow_le_pow_right (by omega) (by omega)
  exact Nat.mul_le_mul (by omega) (by omega)
theorem pu_row (r : Row) (n : Nat) : Pu (n + 1) r.enc := by
  cases r <;> refine .tup (by simp) (List.forall_mem_cons.mpr ⟨.str _ _, ?_⟩) <;> repeat (first | exact List.forall_mem_nil _ | refine List.forall_mem_cons.mpr ⟨by constructor, ?_⟩)
theorem pu_block {b : Bk} (n : Nat) (h : b.1.length ≤ 10000) : Pu (n + 2) (encK b) := by
  refine .tup (by rw [List.length_append, List.length_map, List.length_singleton]; omega) fun d hd => ?_
  rcases List.mem_append.mp hd with hd | hd
  · obtain ⟨r, _, rfl⟩ := List.mem_map.mp hd
    exact pu_row r n
  · rw [List.mem_singleton.mp hd]; exact pu_row _ n
theorem pu_ar (x y : Str) (i : Int) (n : Nat) : Pu (n + 1) (.tup [.str x, .int i, .str y]) :=
  .tup (by simp) (List.forall_mem_cons.mpr ⟨.str _ _, List.forall_mem_cons.mpr ⟨.int _ _, List.forall_mem_cons.mpr ⟨.str _ _, List.forall_mem_nil _⟩⟩⟩)
theorem pu_ars : ∀ d ∈ Ars, Pu 3 d :=
  List.forall_mem_cons.mpr ⟨pu_ar _ _ _ _, List.forall_mem_cons.mpr ⟨pu_ar _ _ _ _, List.forall_mem_cons.mpr ⟨pu_ar _ _ _ _, List.forall_mem_nil _⟩⟩⟩
theorem pu_prog {j : Nat} {p : Int} {bs : List Bk} (h : BsOk bs) : Pu 11 (prog (.tup (Ars.take j)) (.int p) bs) := by
  refine .tup (by simp) (List.forall_mem_cons.mpr ⟨?_, List.forall_mem_cons.mpr ⟨.int _ _, List.forall_mem_cons.mpr ⟨?_, List.forall_mem_nil _⟩⟩⟩)
  · have mono : ∀ d, Pu 3 d → Pu 9 d := by
      have key : ∀ n d, Pu n d → Pu (n + 1) d := by
        intro n d hd
        induction hd with
        | int => exact .int _ _
        | str => exact .str _ _
        | non => exact .non _
        | tup hl _ ih => exact .tup hl ih
      intro d hd
      exact key _ _ (key _ _ (key _ _ (key _ _ (key _ _ (key _ _ hd)))))
    refine .tup (by rw [List.length_take]; show min j 3 ≤ _; omega) fun d hd => mono d (pu_ars d (List.mem_of_mem_take hd))
  · refine .tup (by rw [List.length_map]; have := h.le; omega) fun d hd => ?_
    obtain ⟨b, hb, rfl⟩ := List.mem_map.mp hd
    exact pu_block 7 (h.sz b hb)
theorem run_inv : ∀ (n : Nat) (bs r : List Bk), Inv bs → run n bs = some r → Inv r
  | 0, _, _, _, h => by cases h
  | n + 1, bs, r, hI, h => by
    have h : (match stepJ bs with | none => some bs | some b' => run n b') = some r := h
    cases e : stepJ bs with
    | none => rw [e] at h; cases h; exact hI
    | some b' => rw [e] at h; exact run_inv n b' r (inv_step hI e) h
theorem law_true : ∀ ns : List Int, ns.length ≤ 63 → ∃ s, F_law [.rol (ns.map D.int)] [] = .ok (.bl true) s := by
  intro ns hl
  suffices h : WF (F_law [.rol (ns.map D.int)] []) fun d _ => d = .bl true by
    obtain ⟨d, s, e, rfl⟩ := h
    exact ⟨s, e⟩
  unfold F_law
  refine (wf_fn (by rfl)).mpr ?_
  unfold g_law
  walk_at "mi"
  refine start_ok hl ?_
  intro pw pd s0 hW0
  walk_at "mi"
  refine fs_rng (fun i env st => (∃ x2 x3 x4, env = [some (.rol (ns.map D.int)), some (.ref pw), x2, x3, x4]) ∧ Wd pw pd st) ⟨⟨_, _, _, rfl⟩, hW0⟩ ?_ ?_
  · rintro i env st hi ⟨⟨x2, x3, x4, rfl⟩, hWt⟩
    unfold g_law_b1
    walk_at "mi"
    refine program_ok hWt ?_
    intro j p bs s1 hj h1 h9 hb hW1 hF1
    walk_at "mi"
    refine with_jumps_ok hW1 h1 h9 hb ?_
    intro bs' s2 hlen hb' hW2 hF2
    walk_at "mi"
    have hI := inv_of (by omega) (by omega) hb'
    refine law_jumps_ok hI ?_
    intro s3 hG3
    walk_at "mi"
    cases hr : run 400 bs' with
    | none =>
      unfold optP
      walk_at "mi"
      exact ⟨⟨_, _, _, rfl⟩, hW2.gr hG3⟩
    | some r =>
      have hIr := run_inv _ _ _ hI hr
      have e : isNotD (optP (.tup (Ars.take j)) (.int p) (some r)) .non s3 = some (.bl true, s3) := rfl
      rw [e]
      walk_at "mi"
      refine jumps_ok hI hr ?_
      intro s4 hG4
      walk_at "mi"
      refine equal_ok 11 _ (pu_prog hIr.ok) s4 _ ?_
      intro s5 hG5
      walk_at "mi"
      exact ⟨⟨_, _, _, rfl⟩, hW2.gr (hG3.trans (hG4.trans hG5))⟩
  · rintro env st ⟨⟨x2, x3, x4, rfl⟩, hWt⟩
    walk_at "mi"
end My

set_option Elab.async false
set_option linter.all false
set_option maxRecDepth 100000
namespace My
open PySem PySem.Spec PyProof.Rows L2 Mi
theorem top_mk {l : PySem.W.OpenLaw} {w : World} {K : PySem.W.Frag} {h : Heap} {mg : Str → Option Value} {fa f1 f2 f3 f4 f5 f6 f7 f8 f9 f10 f11 f12 f13 f14 f15 f16 f17 f18 f19 f20 f21 f22 f23 f24 f25 f26 f27 f28 f29 f30 : Addr}
    {od1 an1 : Option Addr} {sl1 : Array (Option Value)} {oc1 kV1 dc1 pm1 cd1 ct1 : Value}
    {od2 an2 : Option Addr} {sl2 : Array (Option Value)} {oc2 kV2 dc2 pm2 cd2 ct2 : Value}
    {od3 an3 : Option Addr} {sl3 : Array (Option Value)} {oc3 kV3 dc3 pm3 cd3 ct3 : Value}
    {od4 an4 : Option Addr} {sl4 : Array (Option Value)} {oc4 kV4 dc4 pm4 cd4 ct4 : Value}
    {od5 an5 : Option Addr} {sl5 : Array (Option Value)} {oc5 kV5 dc5 pm5 cd5 ct5 : Value}
    {od6 an6 : Option Addr} {sl6 : Array (Option Value)} {oc6 kV6 dc6 pm6 cd6 ct6 : Value}
    {od7 an7 : Option Addr} {sl7 : Array (Option Value)} {oc7 kV7 dc7 pm7 cd7 ct7 : Value}
    {od8 an8 : Option Addr} {sl8 : Array (Option Value)} {oc8 kV8 dc8 pm8 cd8 ct8 : Value}
    {od9 an9 : Option Addr} {sl9 : Array (Option Value)} {oc9 kV9 dc9 pm9 cd9 ct9 : Value}
    {od10 an10 : Option Addr} {sl10 : Array (Option Value)} {oc10 kV10 dc10 pm10 cd10 ct10 : Value}
    {od11 an11 : Option Addr} {sl11 : Array (Option Value)} {oc11 kV11 dc11 pm11 cd11 ct11 : Value}
    {od12 an12 : Option Addr} {sl12 : Array (Option Value)} {oc12 kV12 dc12 pm12 cd12 ct12 : Value}
    {od13 an13 : Option Addr} {sl13 : Array (Option Value)} {oc13 kV13 dc13 pm13 cd13 ct13 : Value}
    {od14 an14 : Option Addr} {sl14 : Array (Option Value)} {oc14 kV14 dc14 pm14 cd14 ct14 : Value}
    {od15 an15 : Option Addr} {sl15 : Array (Option Value)} {oc15 kV15 dc15 pm15 cd15 ct15 : Value}
    {od16 an16 : Option Addr} {sl16 : Array (Option Value)} {oc16 kV16 dc16 pm16 cd16 ct16 : Value}
    {od17 an17 : Option Addr} {sl17 : Array (Option Value)} {oc17 kV17 dc17 pm17 cd17 ct17 : Value}
    {od18 an18 : Option Addr} {sl18 : Array (Option Value)} {oc18 kV18 dc18 pm18 cd18 ct18 : Value}
    {od19 an19 : Option Addr} {sl19 : Array (Option Value)} {oc19 kV19 dc19 pm19 cd19 ct19 : Value}
    {od20 an20 : Option Addr} {sl20 : Array (Option Value)} {oc20 kV20 dc20 pm20 cd20 ct20 : Value}
    {od21 an21 : Option Addr} {sl21 : Array (Option Value)} {oc21 kV21 dc21 pm21 cd21 ct21 : Value}
    {od22 an22 : Option Addr} {sl22 : Array (Option Value)} {oc22 kV22 dc22 pm22 cd22 ct22 : Value}
    {od23 an23 : Option Addr} {sl23 : Array (Option Value)} {oc23 kV23 dc23 pm23 cd23 ct23 : Value}
    {od24 an24 : Option Addr} {sl24 : Array (Option Value)} {oc24 kV24 dc24 pm24 cd24 ct24 : Value}
    {od25 an25 : Option Addr} {sl25 : Array (Option Value)} {oc25 kV25 dc25 pm25 cd25 ct25 : Value}
    {od26 an26 : Option Addr} {sl26 : Array (Option Value)} {oc26 kV26 dc26 pm26 cd26 ct26 : Value}
    {od27 an27 : Option Addr} {sl27 : Array (Option Value)} {oc27 kV27 dc27 pm27 cd27 ct27 : Value}
    {od28 an28 : Option Addr} {sl28 : Array (Option Value)} {oc28 kV28 dc28 pm28 cd28 ct28 : Value}
    {od29 an29 : Option Addr} {sl29 : Array (Option Value)} {oc29 kV29 dc29 pm29 cd29 ct29 : Value}
    {od30 an30 : Option Addr} {sl30 : Array (Option Value)} {oc30 kV30 dc30 pm30 cd30 ct30 : Value}
    (X : K.In h) (G : h.Ns mainGlobals mg) (hfa : mg "law" = some (.ref fa))
    (a1 : PySem.W.nsIn K mainGlobals "ways" = some (some (.ref f1)))
    (l1 : K.lookup f1 = some ⟨oc1, od1, .func (PySem.W.fnOf "ways" "ways" (defArgs s_ways) (defBody s_ways) (defScope s_ways) .none kV1 dc1 pm1 an1 cd1 ct1), sl1⟩)
    (c1 : PySem.W.codeIn K cd1 "ways" = true)
    (k1 : PySem.W.keepIn K (.ref f1) = true)
    (a2 : PySem.W.nsIn K mainGlobals "can_be_come_to" = some (some (.ref f2)))
    (l2 : K.lookup f2 = some ⟨oc2, od2, .func (PySem.W.fnOf "can_be_come_to" "can_be_come_to" (defArgs s_can_be_come_to) (defBody s_can_be_come_to) (defScope s_can_be_come_to) .none kV2 dc2 pm2 an2 cd2 ct2), sl2⟩)
    (c2 : PySem.W.codeIn K cd2 "can_be_come_to" = true)
    (k2 : PySem.W.keepIn K (.ref f2) = true)
    (a3 : PySem.W.nsIn K mainGlobals "is_alone" = some (some (.ref f3)))
    (l3 : K.lookup f3 = some ⟨oc3, od3, .func (PySem.W.fnOf "is_alone" "is_alone" (defArgs s_is_alone) (defBody s_is_alone) (defScope s_is_alone) .none kV3 dc3 pm3 an3 cd3 ct3), sl3⟩)
    (c3 : PySem.W.codeIn K cd3 "is_alone" = true)
    (k3 : PySem.W.keepIn K (.ref f3) = true)
    (a4 : PySem.W.nsIn K mainGlobals "end_from" = some (some (.ref f4)))
    (l4 : K.lookup f4 = some ⟨oc4, od4, .func (PySem.W.fnOf "end_from" "end_from" (defArgs s_end_from) (defBody s_end_from) (defScope s_end_from) .none kV4 dc4 pm4 an4 cd4 ct4), sl4⟩)
    (c4 : PySem.W.codeIn K cd4 "end_from" = true)
    (k4 : PySem.W.keepIn K (.ref f4) = true)
    (a5 : PySem.W.nsIn K mainGlobals "with_last" = some (some (.ref f5)))
    (l5 : K.lookup f5 = some ⟨oc5, od5, .func (PySem.W.fnOf "with_last" "with_last" (defArgs s_with_last) (defBody s_with_last) (defScope s_with_last) .none kV5 dc5 pm5 an5 cd5 ct5), sl5⟩)
    (c5 : PySem.W.codeIn K cd5 "with_last" = true)
    (k5 : PySem.W.keepIn K (.ref f5) = true)
    (a6 : PySem.W.nsIn K mainGlobals "one_way" = some (some (.ref f6)))
    (l6 : K.lookup f6 = some ⟨oc6, od6, .func (PySem.W.fnOf "one_way" "one_way" (defArgs s_one_way) (defBody s_one_way) (defScope s_one_way) .none kV6 dc6 pm6 an6 cd6 ct6), sl6⟩)
    (c6 : PySem.W.codeIn K cd6 "one_way" = true)
    (k6 : PySem.W.keepIn K (.ref f6) = true)
    (a7 : PySem.W.nsIn K mainGlobals "shortened" = some (some (.ref f7)))
    (l7 : K.lookup f7 = some ⟨oc7, od7, .func (PySem.W.fnOf "shortened" "shortened" (defArgs s_shortened) (defBody s_shortened) (defScope s_shortened) .none kV7 dc7 pm7 an7 cd7 ct7), sl7⟩)
    (c7 : PySem.W.codeIn K cd7 "shortened" = true)
    (k7 : PySem.W.keepIn K (.ref f7) = true)
    (a8 : PySem.W.nsIn K mainGlobals "left_out" = some (some (.ref f8)))
    (l8 : K.lookup f8 = some ⟨oc8, od8, .func (PySem.W.fnOf "left_out" "left_out" (defArgs s_left_out) (defBody s_left_out) (defScope s_left_out) .none kV8 dc8 pm8 an8 cd8 ct8), sl8⟩)
    (c8 : PySem.W.codeIn K cd8 "left_out" = true)
    (k8 : PySem.W.keepIn K (.ref f8) = true)
    (a9 : PySem.W.nsIn K mainGlobals "joined" = some (some (.ref f9)))
    (l9 : K.lookup f9 = some ⟨oc9, od9, .func (PySem.W.fnOf "joined" "joined" (defArgs s_joined) (defBody s_joined) (defScope s_joined) .none kV9 dc9 pm9 an9 cd9 ct9), sl9⟩)
    (c9 : PySem.W.codeIn K cd9 "joined" = true)
    (k9 : PySem.W.keepIn K (.ref f9) = true)
    (a10 : PySem.W.nsIn K mainGlobals "jumps" = some (some (.ref f10)))
    (l10 : K.lookup f10 = some ⟨oc10, od10, .func (PySem.W.fnOf "jumps" "jumps" (defArgs s_jumps) (defBody s_jumps) (defScope s_jumps) .none kV10 dc10 pm10 an10 cd10 ct10), sl10⟩)
    (c10 : PySem.W.codeIn K cd10 "jumps" = true)
    (k10 : PySem.W.keepIn K (.ref f10) = true)
    (a11 : PySem.W.nsIn K mainGlobals "_law_draws" = some (some (.ref f11)))
    (l11 : K.lookup f11 = some ⟨oc11, od11, .func (PySem.W.fnOf "_law_draws" "_law_draws" (defArgs s_law_draws) (defBody s_law_draws) (defScope s_law_draws) .none kV11 dc11 pm11 an11 cd11 ct11), sl11⟩)
    (c11 : PySem.W.codeIn K cd11 "_law_draws" = true)
    (k11 : PySem.W.keepIn K (.ref f11) = true)
    (a12 : PySem.W.nsIn K mainGlobals "_law_take" = some (some (.ref f12)))
    (l12 : K.lookup f12 = some ⟨oc12, od12, .func (PySem.W.fnOf "_law_take" "_law_take" (defArgs s_law_take) (defBody s_law_take) (defScope s_law_take) .none kV12 dc12 pm12 an12 cd12 ct12), sl12⟩)
    (c12 : PySem.W.codeIn K cd12 "_law_take" = true)
    (k12 : PySem.W.keepIn K (.ref f12) = true)
    (a13 : PySem.W.nsIn K mainGlobals "_law_start" = some (some (.ref f13)))
    (l13 : K.lookup f13 = some ⟨oc13, od13, .func (PySem.W.fnOf "_law_start" "_law_start" (defArgs s_law_start) (defBody s_law_start) (defScope s_law_start) .none kV13 dc13 pm13 an13 cd13 ct13), sl13⟩)
    (c13 : PySem.W.codeIn K cd13 "_law_start" = true)
    (k13 : PySem.W.keepIn K (.ref f13) = true)
    (a14 : PySem.W.nsIn K mainGlobals "_law_word" = some (some (.ref f14)))
    (l14 : K.lookup f14 = some ⟨oc14, od14, .func (PySem.W.fnOf "_law_word" "_law_word" (defArgs s_law_word) (defBody s_law_word) (defScope s_law_word) .none kV14 dc14 pm14 an14 cd14 ct14), sl14⟩)
    (c14 : PySem.W.codeIn K cd14 "_law_word" = true)
    (k14 : PySem.W.keepIn K (.ref f14) = true)
    (a15 : PySem.W.nsIn K mainGlobals "_law_sign" = some (some (.ref f15)))
    (l15 : K.lookup f15 = some ⟨oc15, od15, .func (PySem.W.fnOf "_law_sign" "_law_sign" (defArgs s_law_sign) (defBody s_law_sign) (defScope s_law_sign) .none kV15 dc15 pm15 an15 cd15 ct15), sl15⟩)
    (c15 : PySem.W.codeIn K cd15 "_law_sign" = true)
    (k15 : PySem.W.keepIn K (.ref f15) = true)
    (a16 : PySem.W.nsIn K mainGlobals "_law_row" = some (some (.ref f16)))
    (l16 : K.lookup f16 = some ⟨oc16, od16, .func (PySem.W.fnOf "_law_row" "_law_row" (defArgs s_law_row) (defBody s_law_row) (defScope s_law_row) .none kV16 dc16 pm16 an16 cd16 ct16), sl16⟩)
    (c16 : PySem.W.codeIn K cd16 "_law_row" = true)
    (k16 : PySem.W.keepIn K (.ref f16) = true)
    (a17 : PySem.W.nsIn K mainGlobals "_law_way" = some (some (.ref f17)))
    (l17 : K.lookup f17 = some ⟨oc17, od17, .func (PySem.W.fnOf "_law_way" "_law_way" (defArgs s_law_way) (defBody s_law_way) (defScope s_law_way) .none kV17 dc17 pm17 an17 cd17 ct17), sl17⟩)
    (c17 : PySem.W.codeIn K cd17 "_law_way" = true)
    (k17 : PySem.W.keepIn K (.ref f17) = true)
    (a18 : PySem.W.nsIn K mainGlobals "_law_program" = some (some (.ref f18)))
    (l18 : K.lookup f18 = some ⟨oc18, od18, .func (PySem.W.fnOf "_law_program" "_law_program" (defArgs s_law_program) (defBody s_law_program) (defScope s_law_program) .none kV18 dc18 pm18 an18 cd18 ct18), sl18⟩)
    (c18 : PySem.W.codeIn K cd18 "_law_program" = true)
    (k18 : PySem.W.keepIn K (.ref f18) = true)
    (a19 : PySem.W.nsIn K mainGlobals "_law_ways" = some (some (.ref f19)))
    (l19 : K.lookup f19 = some ⟨oc19, od19, .func (PySem.W.fnOf "_law_ways" "_law_ways" (defArgs s_law_ways) (defBody s_law_ways) (defScope s_law_ways) .none kV19 dc19 pm19 an19 cd19 ct19), sl19⟩)
    (c19 : PySem.W.codeIn K cd19 "_law_ways" = true)
    (k19 : PySem.W.keepIn K (.ref f19) = true)
    (a20 : PySem.W.nsIn K mainGlobals "_law_come" = some (some (.ref f20)))
    (l20 : K.lookup f20 = some ⟨oc20, od20, .func (PySem.W.fnOf "_law_come" "_law_come" (defArgs s_law_come) (defBody s_law_come) (defScope s_law_come) .none kV20 dc20 pm20 an20 cd20 ct20), sl20⟩)
    (c20 : PySem.W.codeIn K cd20 "_law_come" = true)
    (k20 : PySem.W.keepIn K (.ref f20) = true)
    (a21 : PySem.W.nsIn K mainGlobals "_law_alone" = some (some (.ref f21)))
    (l21 : K.lookup f21 = some ⟨oc21, od21, .func (PySem.W.fnOf "_law_alone" "_law_alone" (defArgs s_law_alone) (defBody s_law_alone) (defScope s_law_alone) .none kV21 dc21 pm21 an21 cd21 ct21), sl21⟩)
    (c21 : PySem.W.codeIn K cd21 "_law_alone" = true)
    (k21 : PySem.W.keepIn K (.ref f21) = true)
    (a22 : PySem.W.nsIn K mainGlobals "_law_end" = some (some (.ref f22)))
    (l22 : K.lookup f22 = some ⟨oc22, od22, .func (PySem.W.fnOf "_law_end" "_law_end" (defArgs s_law_end) (defBody s_law_end) (defScope s_law_end) .none kV22 dc22 pm22 an22 cd22 ct22), sl22⟩)
    (c22 : PySem.W.codeIn K cd22 "_law_end" = true)
    (k22 : PySem.W.keepIn K (.ref f22) = true)
    (a23 : PySem.W.nsIn K mainGlobals "_law_with" = some (some (.ref f23)))
    (l23 : K.lookup f23 = some ⟨oc23, od23, .func (PySem.W.fnOf "_law_with" "_law_with" (defArgs s_law_with) (defBody s_law_with) (defScope s_law_with) .none kV23 dc23 pm23 an23 cd23 ct23), sl23⟩)
    (c23 : PySem.W.codeIn K cd23 "_law_with" = true)
    (k23 : PySem.W.keepIn K (.ref f23) = true)
    (a24 : PySem.W.nsIn K mainGlobals "_law_first" = some (some (.ref f24)))
    (l24 : K.lookup f24 = some ⟨oc24, od24, .func (PySem.W.fnOf "_law_first" "_law_first" (defArgs s_law_first) (defBody s_law_first) (defScope s_law_first) .none kV24 dc24 pm24 an24 cd24 ct24), sl24⟩)
    (c24 : PySem.W.codeIn K cd24 "_law_first" = true)
    (k24 : PySem.W.keepIn K (.ref f24) = true)
    (a25 : PySem.W.nsIn K mainGlobals "_law_numbered" = some (some (.ref f25)))
    (l25 : K.lookup f25 = some ⟨oc25, od25, .func (PySem.W.fnOf "_law_numbered" "_law_numbered" (defArgs s_law_numbered) (defBody s_law_numbered) (defScope s_law_numbered) .none kV25 dc25 pm25 an25 cd25 ct25), sl25⟩)
    (c25 : PySem.W.codeIn K cd25 "_law_numbered" = true)
    (k25 : PySem.W.keepIn K (.ref f25) = true)
    (a26 : PySem.W.nsIn K mainGlobals "_law_joined" = some (some (.ref f26)))
    (l26 : K.lookup f26 = some ⟨oc26, od26, .func (PySem.W.fnOf "_law_joined" "_law_joined" (defArgs s_law_joined) (defBody s_law_joined) (defScope s_law_joined) .none kV26 dc26 pm26 an26 cd26 ct26), sl26⟩)
    (c26 : PySem.W.codeIn K cd26 "_law_joined" = true)
    (k26 : PySem.W.keepIn K (.ref f26) = true)
    (a27 : PySem.W.nsIn K mainGlobals "_law_jumps" = some (some (.ref f27)))
    (l27 : K.lookup f27 = some ⟨oc27, od27, .func (PySem.W.fnOf "_law_jumps" "_law_jumps" (defArgs s_law_jumps) (defBody s_law_jumps) (defScope s_law_jumps) .none kV27 dc27 pm27 an27 cd27 ct27), sl27⟩)
    (c27 : PySem.W.codeIn K cd27 "_law_jumps" = true)
    (k27 : PySem.W.keepIn K (.ref f27) = true)
    (a28 : PySem.W.nsIn K mainGlobals "_law_with_jumps" = some (some (.ref f28)))
    (l28 : K.lookup f28 = some ⟨oc28, od28, .func (PySem.W.fnOf "_law_with_jumps" "_law_with_jumps" (defArgs s_law_with_jumps) (defBody s_law_with_jumps) (defScope s_law_with_jumps) .none kV28 dc28 pm28 an28 cd28 ct28), sl28⟩)
    (c28 : PySem.W.codeIn K cd28 "_law_with_jumps" = true)
    (k28 : PySem.W.keepIn K (.ref f28) = true)
    (a29 : PySem.W.nsIn K mainGlobals "_law_equal" = some (some (.ref f29)))
    (l29 : K.lookup f29 = some ⟨oc29, od29, .func (PySem.W.fnOf "_law_equal" "_law_equal" (defArgs s_law_equal) (defBody s_law_equal) (defScope s_law_equal) .none kV29 dc29 pm29 an29 cd29 ct29), sl29⟩)
    (c29 : PySem.W.codeIn K cd29 "_law_equal" = true)
    (k29 : PySem.W.keepIn K (.ref f29) = true)
    (a30 : PySem.W.nsIn K mainGlobals "law" = some (some (.ref f30)))
    (l30 : K.lookup f30 = some ⟨oc30, od30, .func (PySem.W.fnOf "law" "law" (defArgs s_law) (defBody s_law) (defScope s_law) .none kV30 dc30 pm30 an30 cd30 ct30), sl30⟩)
    (c30 : PySem.W.codeIn K cd30 "law" = true)
    (k30 : PySem.W.keepIn K (.ref f30) = true)
    (z_len : PySem.W.nsIn K mainGlobals "len" = some none)
    (z_range : PySem.W.nsIn K mainGlobals "range" = some none)
    (z_all : PySem.W.nsIn K mainGlobals "all" = some none)
    (z_tuple : PySem.W.nsIn K mainGlobals "tuple" = some none)
    (z_abs : PySem.W.nsIn K mainGlobals "abs" = some none)
    (z_int : PySem.W.nsIn K mainGlobals "int" = some none)
    (z_list : PySem.W.nsIn K mainGlobals "list" = some none)
    (z_sorted : PySem.W.nsIn K mainGlobals "sorted" = some none)
    (z_isinstance : PySem.W.nsIn K mainGlobals "isinstance" = some none)
    (z_str : PySem.W.nsIn K mainGlobals "str" = some none)
    (z_bool : PySem.W.nsIn K mainGlobals "bool" = some none) :
    ∃ fd : FuncData, (∀ (s : Shared) (v : Value), BindsTo s fd ⟨[v], []⟩ [("script", v)]) ∧ ∀ base : Heap, K.In base → base.Ns mainGlobals mg → FnOk l.prog w K mg base CX0 13 fa fd ["script"] (spLaw K) := by
  have e := hfa.symm.trans (PySem.W.mg_of X G a30)
  cases e
  have F1 : DefAt K mg "ways" s_ways ["block"] _ _ := ⟨fun_mk (st := s_ways) l1 c1 k1, PySem.W.mg_of X G a1, (fun_mk (st := s_ways) l1 c1 k1).binds fun _ _ _ _ _ _ us hl => match us, hl with | [_], _ => rfl⟩
  have F2 : DefAt K mg "can_be_come_to" s_can_be_come_to ["blocks"] _ _ := ⟨fun_mk (st := s_can_be_come_to) l2 c2 k2, PySem.W.mg_of X G a2, (fun_mk (st := s_can_be_come_to) l2 c2 k2).binds fun _ _ _ _ _ _ us hl => match us, hl with | [_], _ => rfl⟩
  have F3 : DefAt K mg "is_alone" s_is_alone ["block"] _ _ := ⟨fun_mk (st := s_is_alone) l3 c3 k3, PySem.W.mg_of X G a3, (fun_mk (st := s_is_alone) l3 c3 k3).binds fun _ _ _ _ _ _ us hl => match us, hl with | [_], _ => rfl⟩
  have F4 : DefAt K mg "end_from" s_end_from ["blocks", "at"] _ _ := ⟨fun_mk (st := s_end_from) l4 c4 k4, PySem.W.mg_of X G a4, (fun_mk (st := s_end_from) l4 c4 k4).binds fun _ _ _ _ _ _ us hl => match us, hl with | [_, _], _ => rfl⟩
  have F5 : DefAt K mg "with_last" s_with_last ["blocks", "at", "row"] _ _ := ⟨fun_mk (st := s_with_last) l5 c5 k5, PySem.W.mg_of X G a5, (fun_mk (st := s_with_last) l5 c5 k5).binds fun _ _ _ _ _ _ us hl => match us, hl with | [_, _, _], _ => rfl⟩
  have F6 : DefAt K mg "one_way" s_one_way ["blocks"] _ _ := ⟨fun_mk (st := s_one_way) l6 c6 k6, PySem.W.mg_of X G a6, (fun_mk (st := s_one_way) l6 c6 k6).binds fun _ _ _ _ _ _ us hl => match us, hl with | [_], _ => rfl⟩
  have F7 : DefAt K mg "shortened" s_shortened ["blocks"] _ _ := ⟨fun_mk (st := s_shortened) l7 c7 k7, PySem.W.mg_of X G a7, (fun_mk (st := s_shortened) l7 c7 k7).binds fun _ _ _ _ _ _ us hl => match us, hl with | [_], _ => rfl⟩
  have F8 : DefAt K mg "left_out" s_left_out ["blocks"] _ _ := ⟨fun_mk (st := s_left_out) l8 c8 k8, PySem.W.mg_of X G a8, (fun_mk (st := s_left_out) l8 c8 k8).binds fun _ _ _ _ _ _ us hl => match us, hl with | [_], _ => rfl⟩
  have F9 : DefAt K mg "joined" s_joined ["blocks"] _ _ := ⟨fun_mk (st := s_joined) l9 c9 k9, PySem.W.mg_of X G a9, (fun_mk (st := s_joined) l9 c9 k9).binds fun _ _ _ _ _ _ us hl => match us, hl with | [_], _ => rfl⟩
  have F10 : DefAt K mg "jumps" s_jumps ["program"] _ _ := ⟨fun_mk (st := s_jumps) l10 c10 k10, PySem.W.mg_of X G a10, (fun_mk (st := s_jumps) l10 c10 k10).binds fun _ _ _ _ _ _ us hl => match us, hl with | [_], _ => rfl⟩
  have F11 : DefAt K mg "_law_draws" s_law_draws ["script", "many"] _ _ := ⟨fun_mk (st := s_law_draws) l11 c11 k11, PySem.W.mg_of X G a11, (fun_mk (st := s_law_draws) l11 c11 k11).binds fun _ _ _ _ _ _ us hl => match us, hl with | [_, _], _ => rfl⟩
  have F12 : DefAt K mg "_law_take" s_law_take ["d"] _ _ := ⟨fun_mk (st := s_law_take) l12 c12 k12, PySem.W.mg_of X G a12, (fun_mk (st := s_law_take) l12 c12 k12).binds fun _ _ _ _ _ _ us hl => match us, hl with | [_], _ => rfl⟩
  have F13 : DefAt K mg "_law_start" s_law_start ["script"] _ _ := ⟨fun_mk (st := s_law_start) l13 c13 k13, PySem.W.mg_of X G a13, (fun_mk (st := s_law_start) l13 c13 k13).binds fun _ _ _ _ _ _ us hl => match us, hl with | [_], _ => rfl⟩
  have F14 : DefAt K mg "_law_word" s_law_word ["d"] _ _ := ⟨fun_mk (st := s_law_word) l14 c14 k14, PySem.W.mg_of X G a14, (fun_mk (st := s_law_word) l14 c14 k14).binds fun _ _ _ _ _ _ us hl => match us, hl with | [_], _ => rfl⟩
  have F15 : DefAt K mg "_law_sign" s_law_sign ["d"] _ _ := ⟨fun_mk (st := s_law_sign) l15 c15 k15, PySem.W.mg_of X G a15, (fun_mk (st := s_law_sign) l15 c15 k15).binds fun _ _ _ _ _ _ us hl => match us, hl with | [_], _ => rfl⟩
  have F16 : DefAt K mg "_law_row" s_law_row ["d", "arrays", "many"] _ _ := ⟨fun_mk (st := s_law_row) l16 c16 k16, PySem.W.mg_of X G a16, (fun_mk (st := s_law_row) l16 c16 k16).binds fun _ _ _ _ _ _ us hl => match us, hl with | [_, _, _], _ => rfl⟩
  have F17 : DefAt K mg "_law_way" s_law_way ["d", "at", "many", "regs"] _ _ := ⟨fun_mk (st := s_law_way) l17 c17 k17, PySem.W.mg_of X G a17, (fun_mk (st := s_law_way) l17 c17 k17).binds fun _ _ _ _ _ _ us hl => match us, hl with | [_, _, _, _], _ => rfl⟩
  have F18 : DefAt K mg "_law_program" s_law_program ["d", "most", "regs"] _ _ := ⟨fun_mk (st := s_law_program) l18 c18 k18, PySem.W.mg_of X G a18, (fun_mk (st := s_law_program) l18 c18 k18).binds fun _ _ _ _ _ _ us hl => match us, hl with | [_, _, _], _ => rfl⟩
  have F19 : DefAt K mg "_law_ways" s_law_ways ["block"] _ _ := ⟨fun_mk (st := s_law_ways) l19 c19 k19, PySem.W.mg_of X G a19, (fun_mk (st := s_law_ways) l19 c19 k19).binds fun _ _ _ _ _ _ us hl => match us, hl with | [_], _ => rfl⟩
  have F20 : DefAt K mg "_law_come" s_law_come ["blocks"] _ _ := ⟨fun_mk (st := s_law_come) l20 c20 k20, PySem.W.mg_of X G a20, (fun_mk (st := s_law_come) l20 c20 k20).binds fun _ _ _ _ _ _ us hl => match us, hl with | [_], _ => rfl⟩
  have F21 : DefAt K mg "_law_alone" s_law_alone ["block"] _ _ := ⟨fun_mk (st := s_law_alone) l21 c21 k21, PySem.W.mg_of X G a21, (fun_mk (st := s_law_alone) l21 c21 k21).binds fun _ _ _ _ _ _ us hl => match us, hl with | [_], _ => rfl⟩
  have F22 : DefAt K mg "_law_end" s_law_end ["blocks", "at"] _ _ := ⟨fun_mk (st := s_law_end) l22 c22 k22, PySem.W.mg_of X G a22, (fun_mk (st := s_law_end) l22 c22 k22).binds fun _ _ _ _ _ _ us hl => match us, hl with | [_, _], _ => rfl⟩
  have F23 : DefAt K mg "_law_with" s_law_with ["blocks", "at", "block"] _ _ := ⟨fun_mk (st := s_law_with) l23 c23 k23, PySem.W.mg_of X G a23, (fun_mk (st := s_law_with) l23 c23 k23).binds fun _ _ _ _ _ _ us hl => match us, hl with | [_, _, _], _ => rfl⟩
  have F24 : DefAt K mg "_law_first" s_law_first ["blocks"] _ _ := ⟨fun_mk (st := s_law_first) l24 c24 k24, PySem.W.mg_of X G a24, (fun_mk (st := s_law_first) l24 c24 k24).binds fun _ _ _ _ _ _ us hl => match us, hl with | [_], _ => rfl⟩
  have F25 : DefAt K mg "_law_numbered" s_law_numbered ["blocks"] _ _ := ⟨fun_mk (st := s_law_numbered) l25 c25 k25, PySem.W.mg_of X G a25, (fun_mk (st := s_law_numbered) l25 c25 k25).binds fun _ _ _ _ _ _ us hl => match us, hl with | [_], _ => rfl⟩
  have F26 : DefAt K mg "_law_joined" s_law_joined ["blocks"] _ _ := ⟨fun_mk (st := s_law_joined) l26 c26 k26, PySem.W.mg_of X G a26, (fun_mk (st := s_law_joined) l26 c26 k26).binds fun _ _ _ _ _ _ us hl => match us, hl with | [_], _ => rfl⟩
  have F27 : DefAt K mg "_law_jumps" s_law_jumps ["program"] _ _ := ⟨fun_mk (st := s_law_jumps) l27 c27 k27, PySem.W.mg_of X G a27, (fun_mk (st := s_law_jumps) l27 c27 k27).binds fun _ _ _ _ _ _ us hl => match us, hl with | [_], _ => rfl⟩
  have F28 : DefAt K mg "_law_with_jumps" s_law_with_jumps ["d", "program"] _ _ := ⟨fun_mk (st := s_law_with_jumps) l28 c28 k28, PySem.W.mg_of X G a28, (fun_mk (st := s_law_with_jumps) l28 c28 k28).binds fun _ _ _ _ _ _ us hl => match us, hl with | [_, _], _ => rfl⟩
  have F29 : DefAt K mg "_law_equal" s_law_equal ["told", "due"] _ _ := ⟨fun_mk (st := s_law_equal) l29 c29 k29, PySem.W.mg_of X G a29, (fun_mk (st := s_law_equal) l29 c29 k29).binds fun _ _ _ _ _ _ us hl => match us, hl with | [_, _], _ => rfl⟩
  have F30 : DefAt K mg "law" s_law ["script"] _ _ := ⟨fun_mk (st := s_law) l30 c30 k30, PySem.W.mg_of X G a30, (fun_mk (st := s_law) l30 c30 k30).binds fun _ _ _ _ _ _ us hl => match us, hl with | [_], _ => rfl⟩
  have B : Blt K w mg := ⟨PySem.W.mg_none_of X G z_len, PySem.W.mg_none_of X G z_range, PySem.W.mg_none_of X G z_all, PySem.W.mg_none_of X G z_tuple, PySem.W.mg_none_of X G z_abs, PySem.W.mg_none_of X G z_int, PySem.W.mg_none_of X G z_list, PySem.W.mg_none_of X G z_sorted, PySem.W.mg_none_of X G z_isinstance, PySem.W.mg_none_of X G z_str, PySem.W.mg_none_of X G z_bool⟩
  refine ⟨PySem.W.fnOf "law" "law" (defArgs s_law) (defBody s_law) (defScope s_law) .none kV30 dc30 pm30 an30 cd30 ct30, fun s v => .of_eq rfl, fun base _ _ => ?_⟩
  have K1 : Keeps l.prog w K mg base 1 "ways" _ F_ways _ _ := ok_ways B F1  
  have K2 : Keeps l.prog w K mg base 2 "can_be_come_to" _ F_can_be_come_to _ _ := ok_can_be_come_to B F2 K1 
  have K3 : Keeps l.prog w K mg base 1 "is_alone" _ F_is_alone _ _ := ok_is_alone B F3  
  have K4 : Keeps l.prog w K mg base 2 "end_from" _ F_end_from _ _ := ok_end_from B F4 K3 
  have K5 : Keeps l.prog w K mg base 1 "with_last" _ F_with_last _ _ := ok_with_last B F5  
  have K6 : Keeps l.prog w K mg base 2 "one_way" _ F_one_way _ _ := ok_one_way B F6 K5 
  have K7 : Keeps l.prog w K mg base 3 "shortened" _ F_shortened _ _ := ok_shortened B F7 K3 K4 K5 
  have K8 : Keeps l.prog w K mg base 3 "left_out" _ F_left_out _ _ := ok_left_out B F8 K2 
  have K9 : Keeps l.prog w K mg base 2 "joined" _ F_joined _ _ := ok_joined B F9 K1 
  have K10 : Keeps l.prog w K mg base 4 "jumps" _ F_jumps _ _ := ok_jumps B F10 K9 K8 K7 K6 
  have K11 : Keeps l.prog w K mg base 1 "_law_draws" _ F_law_draws _ _ := ok_law_draws B F11  
  have K12 : Keeps l.prog w K mg base 1 "_law_take" _ F_law_take _ _ := ok_law_take B F12  
  have K13 : Keeps l.prog w K mg base 2 "_law_start" _ F_law_start _ _ := ok_law_start B F13 K11 
  have K14 : Keeps l.prog w K mg base 2 "_law_word" _ F_law_word _ _ := ok_law_word B F14 K12 
  have K15 : Keeps l.prog w K mg base 2 "_law_sign" _ F_law_sign _ _ := ok_law_sign B F15 K12 
  have K16 : Keeps l.prog w K mg base 3 "_law_row" _ F_law_row _ _ := ok_law_row B F16 K12 K14 K15 
  have K17 : Keeps l.prog w K mg base 2 "_law_way" _ F_law_way _ _ := ok_law_way B F17 K12 
  have K18 : Keeps l.prog w K mg base 4 "_law_program" _ F_law_program _ _ := ok_law_program B F18 K12 K16 K17 
  have K19 : Keeps l.prog w K mg base 1 "_law_ways" _ F_law_ways _ _ := ok_law_ways B F19  
  have K20 : Keeps l.prog w K mg base 2 "_law_come" _ F_law_come _ _ := ok_law_come B F20 K19 
  have K21 : Keeps l.prog w K mg base 1 "_law_alone" _ F_law_alone _ _ := ok_law_alone B F21  
  have K22 : Keeps l.prog w K mg base 2 "_law_end" _ F_law_end _ _ := ok_law_end B F22 K21 
  have K23 : Keeps l.prog w K mg base 1 "_law_with" _ F_law_with _ _ := ok_law_with B F23  
  have K24 : Keeps l.prog w K mg base 3 "_law_first" _ F_law_first _ _ := ok_law_first B F24 K23 K22 K21 
  have K25 : Keeps l.prog w K mg base 3 "_law_numbered" _ F_law_numbered _ _ := ok_law_numbered B F25 K20 
  have K26 : Keeps l.prog w K mg base 2 "_law_joined" _ F_law_joined _ _ := ok_law_joined B F26 K19 K23 
  have K27 : Keeps l.prog w K mg base 4 "_law_jumps" _ F_law_jumps _ _ := ok_law_jumps B F27 K24 K20 K25 K26 
  have K28 : Keeps l.prog w K mg base 2 "_law_with_jumps" _ F_law_with_jumps _ _ := ok_law_with_jumps B F28 K12 
  have K29 : Keeps l.prog w K mg base 12 "_law_equal" _ (F_law_equal 12) _ _ := ok_law_equal B F29  12
  have K30 : Keeps l.prog w K mg base 13 "law" _ F_law _ _ := ok_law B F30 K13 K28 K18 K27 K29 K10 
  exact K30.ok.imp fun vs H Q E h => spLaw_sp law_true h
end My
open PySem PySem.W PyProof.Rows
set_option maxHeartbeats 0 in
theorem PySem.Challenge.cw_sameclock_k47_shorter_ways_holds : PySem.Challenge.rw_sameclock_k47_shorter_ways.Holds := by
  w_on; o_law; k_head; (case hw => w_witness2)
  k_fill
  refine L2.walk_ofK (l := PySem.Challenge.rw_sameclock_k47_shorter_ways) (n := 63) (k := 13) (x := "script") (CX := L2.CX0) (sp := Mi.spLaw) rfl (by decide) rfl ⟨rfl, by decide, by decide⟩ (fun w h Y => PySem.W.kIn_of Y) ?F (fun K H a ns hl ho hS => ⟨a, ns, rfl, hl, ho, hS, fun _ => rfl⟩) (fun _ _ _ _ h => h)
  case F =>
    intro w mg fa h KX G hmg
    refine' My.top_mk KX G hmg ?a1 ?l1 ?c1 ?k1 ?a2 ?l2 ?c2 ?k2 ?a3 ?l3 ?c3 ?k3 ?a4 ?l4 ?c4 ?k4 ?a5 ?l5 ?c5 ?k5 ?a6 ?l6 ?c6 ?k6 ?a7 ?l7 ?c7 ?k7 ?a8 ?l8 ?c8 ?k8 ?a9 ?l9 ?c9 ?k9 ?a10 ?l10 ?c10 ?k10 ?a11 ?l11 ?c11 ?k11 ?a12 ?l12 ?c12 ?k12 ?a13 ?l13 ?c13 ?k13 ?a14 ?l14 ?c14 ?k14 ?a15 ?l15 ?c15 ?k15 ?a16 ?l16 ?c16 ?k16 ?a17 ?l17 ?c17 ?k17 ?a18 ?l18 ?c18 ?k18 ?a19 ?l19 ?c19 ?k19 ?a20 ?l20 ?c20 ?k20 ?a21 ?l21 ?c21 ?k21 ?a22 ?l22 ?c22 ?k22 ?a23 ?l23 ?c23 ?k23 ?a24 ?l24 ?c24 ?k24 ?a25 ?l25 ?c25 ?k25 ?a26 ?l26 ?c26 ?k26 ?a27 ?l27 ?c27 ?k27 ?a28 ?l28 ?c28 ?k28 ?a29 ?l29 ?c29 ?k29 ?a30 ?l30 ?c30 ?k30 ?z_len ?z_range ?z_all ?z_tuple ?z_abs ?z_int ?z_list ?z_sorted ?z_isinstance ?z_str ?z_bool
    (case a1 => k_is)
    (case l1 => k_is)
    (case c1 => k_is)
    (case k1 => k_is)
    (case a2 => k_is)
    (case l2 => k_is)
    (case c2 => k_is)
    (case k2 => k_is)
    (case a3 => k_is)
    (case l3 => k_is)
    (case c3 => k_is)
    (case k3 => k_is)
    (case a4 => k_is)
    (case l4 => k_is)
    (case c4 => k_is)
    (case k4 => k_is)
    (case a5 => k_is)
    (case l5 => k_is)
    (case c5 => k_is)
    (case k5 => k_is)
    (case a6 => k_is)
    (case l6 => k_is)
    (case c6 => k_is)
    (case k6 => k_is)
    (case a7 => k_is)
    (case l7 => k_is)
    (case c7 => k_is)
    (case k7 => k_is)
    (case a8 => k_is)
    (case l8 => k_is)
    (case c8 => k_is)
    (case k8 => k_is)
    (case a9 => k_is)
    (case l9 => k_is)
    (case c9 => k_is)
    (case k9 => k_is)
    (case a10 => k_is)
    (case l10 => k_is)
    (case c10 => k_is)
    (case k10 => k_is)
    (case a11 => k_is)
    (case l11 => k_is)
    (case c11 => k_is)
    (case k11 => k_is)
    (case a12 => k_is)
    (case l12 => k_is)
    (case c12 => k_is)
    (case k12 => k_is)
    (case a13 => k_is)
    (case l13 => k_is)
    (case c13 => k_is)
    (case k13 => k_is)
    (case a14 => k_is)
    (case l14 => k_is)
    (case c14 => k_is)
    (case k14 => k_is)
    (case a15 => k_is)
    (case l15 => k_is)
    (case c15 => k_is)
    (case k15 => k_is)
    (case a16 => k_is)
    (case l16 => k_is)
    (case c16 => k_is)
    (case k16 => k_is)
    (case a17 => k_is)
    (case l17 => k_is)
    (case c17 => k_is)
    (case k17 => k_is)
    (case a18 => k_is)
    (case l18 => k_is)
    (case c18 => k_is)
    (case k18 => k_is)
    (case a19 => k_is)
    (case l19 => k_is)
    (case c19 => k_is)
    (case k19 => k_is)
    (case a20 => k_is)
    (case l20 => k_is)
    (case c20 => k_is)
    (case k20 => k_is)
    (case a21 => k_is)
    (case l21 => k_is)
    (case c21 => k_is)
    (case k21 => k_is)
    (case a22 => k_is)
    (case l22 => k_is)
    (case c22 => k_is)
    (case k22 => k_is)
    (case a23 => k_is)
    (case l23 => k_is)
    (case c23 => k_is)
    (case k23 => k_is)
    (case a24 => k_is)
    (case l24 => k_is)
    (case c24 => k_is)
    (case k24 => k_is)
    (case a25 => k_is)
    (case l25 => k_is)
    (case c25 => k_is)
    (case k25 => k_is)
    (case a26 => k_is)
    (case l26 => k_is)
    (case c26 => k_is)
    (case k26 => k_is)
    (case a27 => k_is)
    (case l27 => k_is)
    (case c27 => k_is)
    (case k27 => k_is)
    (case a28 => k_is)
    (case l28 => k_is)
    (case c28 => k_is)
    (case k28 => k_is)
    (case a29 => k_is)
    (case l29 => k_is)
    (case c29 => k_is)
    (case k29 => k_is)
    (case a30 => k_is)
    (case l30 => k_is)
    (case c30 => k_is)
    (case k30 => k_is)
    (case z_len => k_is)
    (case z_range => k_is)
    (case z_all => k_is)
    (case z_tuple => k_is)
    (case z_abs => k_is)
    (case z_int => k_is)
    (case z_list => k_is)
    (case z_sorted => k_is)
    (case z_isinstance => k_is)
    (case z_str => k_is)
    (case z_bool => k_is)
