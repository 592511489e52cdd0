import PyProof.Rows.All
import Wide.All
import OpenK.AllK
import Wide.FinOn
import HandS.ForMost
import HandS.TupAny
import HandS.Deep
import HandS.IsInst
import HandS.DictComp
import HandS.More
import HandS.Wide
import HandS.SortInts
import HandS.TupLe
import HandS.Conv
import PySem.Challenge.RW_sameclock_k60_words_and_programs_that_ar
set_option Elab.async false
set_option linter.all false
set_option maxRecDepth 100000
namespace Mi
open PySem PySem.Spec PyProof.Rows L2

/-! ### data -/
inductive D where
  | non | bl (b : Bool) | int (i : Int) | str (x : Str)
  | tup (ds : List D) | rol (ds : List D)
  | ref (p : Nat) | glo (x : Str) | ty (n : String)
inductive O where
  | lst (ds : List D) | dct (kvs : List (Key × D)) | dtt (kvs : List (List Key × D)) | ins (C : Str) (fs : List (Str × D))
abbrev S := List O
abbrev Env := List (Option D)
structure G where
  K : PySem.W.Frag
  mg : Str → Option Value

/-- a tuple, a list that is only read: not in the store, or an object of the module -/
def RdT (g : G) (m : List Addr) (H : Hp) (a : Addr) (xs : List V) : Prop :=
  (H a = some (.tup xs) ∧ a ∉ m) ∨
    ∃ (o : Obj) (its : Array Value) (n : Nat), g.K.lookup a = some o ∧ o.cls = .type "tuple" ∧ o.data = .seq its n ∧ its.size ≤ sizeLine ∧ Vals xs its.toList
def RdL (g : G) (m : List Addr) (H : Hp) (a : Addr) (xs : List V) : Prop :=
  ((∃ o, H a = some (.frz o (.lst xs))) ∧ a ∉ m) ∨
    ∃ (o : Obj) (its : Array Value) (n : Nat), g.K.lookup a = some o ∧ o.cls = .type "list" ∧ o.dict = none ∧ o.data = .seq its n ∧ its.size ≤ sizeLine ∧ Vals xs its.toList
theorem RdT.sq {g : G} {m : List Addr} {H : Hp} {a : Addr} {xs : List V} (h : RdT g m H a xs) : SqT g.K H a xs := h.elim (fun z => .inl (.inl z.1)) .inr
theorem RdL.sq {g : G} {m : List Addr} {H : Hp} {a : Addr} {xs : List V} (h : RdL g m H a xs) : SqL g.K H a xs := h.elim (fun z => .inl (.inr z.1)) .inr

mutual
inductive Rep (g : G) (m : List Addr) (H : Hp) : V → D → Prop
  | non : Rep g m H .non .non
  | bl (b : Bool) : Rep g m H (.bl b) (.bl b)
  | int (i : Int) : Rep g m H (.int i) (.int i)
  | str (x : Str) : Rep g m H (.str x) (.str x)
  | ty (n : String) : Rep g m H (.ty n) (.ty n)
  | tup {a : Addr} {xs : List V} {ds : List D} : RdT g m H a xs → Reps g m H xs ds → Rep g m H (.ref a) (.tup ds)
  | rol {a : Addr} {xs : List V} {ds : List D} : RdL g m H a xs → Reps g m H xs ds → Rep g m H (.ref a) (.rol ds)
  | ref {a : Addr} {p : Nat} : m[p]? = some a → Rep g m H (.ref a) (.ref p)
  | glo {a : Addr} {x : Str} : g.mg x = some (.ref a) → Rep g m H (.ref a) (.glo x)
inductive Reps (g : G) (m : List Addr) (H : Hp) : List V → List D → Prop
  | nil : Reps g m H [] []
  | cons {v : V} {vs : List V} {d : D} {ds : List D} : Rep g m H v d → Reps g m H vs ds → Reps g m H (v :: vs) (d :: ds)
end

/-- (m, H) goes on to (m', H'): what is not in the store stays -/
structure Le (m : List Addr) (H : Hp) (m' : List Addr) (H' : Hp) : Prop where
  pre : m <+: m'
  rest : ∀ a o, a ∉ m → H a = some o → H' a = some o
  fresh : ∀ a, a ∈ m' → a ∉ m → H a = none
theorem Le.refl (m : List Addr) (H : Hp) : Le m H m H := ⟨List.prefix_refl m, fun _ _ _ h => h, fun _ h h' => absurd h h'⟩
theorem Le.nin {m m' : List Addr} {H H' : Hp} (l : Le m H m' H') {a : Addr} {o : HO} (h : a ∉ m) (e : H a = some o) : a ∉ m' := fun h' => by
  rw [l.fresh a h' h] at e; cases e
theorem Le.trans {m m' m'' : List Addr} {H H' H'' : Hp} (l : Le m H m' H') (k : Le m' H' m'' H'') : Le m H m'' H'' := by
  refine ⟨l.pre.trans k.pre, fun a o h e => k.rest a o (l.nin h e) (l.rest a o h e), fun a h h' => ?_⟩
  by_cases z : a ∈ m'
  · exact l.fresh a z h'
  · have := k.fresh a h z
    cases e : H a with
    | none => rfl
    | some o => rw [l.rest a o h' e] at this; cases this
theorem Le.get {m m' : List Addr} {H H' : Hp} (l : Le m H m' H') {p : Nat} {a : Addr} (h : m[p]? = some a) : m'[p]? = some a := by
  obtain ⟨t, rfl⟩ := l.pre
  have hp : p < m.length := (List.getElem?_eq_some_iff.mp h).1
  rw [List.getElem?_append_left hp]
  exact h
/-- what data hang on: the tuples and frozen lists that are not in the store -/
structure Lr (m : List Addr) (H : Hp) (m' : List Addr) (H' : Hp) : Prop where
  pre : m <+: m'
  tup : ∀ a xs, a ∉ m → H a = some (.tup xs) → H' a = some (.tup xs) ∧ a ∉ m'
  frz : ∀ a o u, a ∉ m → H a = some (.frz o u) → H' a = some (.frz o u) ∧ a ∉ m'
theorem Le.lr {m m' : List Addr} {H H' : Hp} (l : Le m H m' H') : Lr m H m' H' := ⟨l.pre, fun a xs h e => ⟨l.rest a _ h e, l.nin h e⟩, fun a o u h e => ⟨l.rest a _ h e, l.nin h e⟩⟩
theorem Lr.get {m m' : List Addr} {H H' : Hp} (l : Lr m H m' H') {p : Nat} {a : Addr} (h : m[p]? = some a) : m'[p]? = some a := by
  obtain ⟨t, rfl⟩ := l.pre
  have hp : p < m.length := (List.getElem?_eq_some_iff.mp h).1
  rw [List.getElem?_append_left hp]
  exact h
theorem RdT.lr {g : G} {m m' : List Addr} {H H' : Hp} (l : Lr m H m' H') {a : Addr} {xs : List V} (h : RdT g m H a xs) : RdT g m' H' a xs :=
  h.elim (fun z => .inl (l.tup a xs z.2 z.1)) .inr
theorem RdL.lr {g : G} {m m' : List Addr} {H H' : Hp} (l : Lr m H m' H') {a : Addr} {xs : List V} (h : RdL g m H a xs) : RdL g m' H' a xs :=
  h.elim (fun z => let ⟨o, e⟩ := z.1; .inl ⟨⟨o, (l.frz a o _ z.2 e).1⟩, (l.frz a o _ z.2 e).2⟩) .inr
theorem RdT.le {g : G} {m m' : List Addr} {H H' : Hp} (l : Le m H m' H') {a : Addr} {xs : List V} (h : RdT g m H a xs) : RdT g m' H' a xs := h.lr l.lr
theorem RdL.le {g : G} {m m' : List Addr} {H H' : Hp} (l : Le m H m' H') {a : Addr} {xs : List V} (h : RdL g m H a xs) : RdL g m' H' a xs := h.lr l.lr
mutual
theorem Rep.lr {g : G} {m m' : List Addr} {H H' : Hp} (l : Lr m H m' H') : ∀ {v : V} {d : D}, Rep g m H v d → Rep g m' H' v d
  | _, _, .non => .non
  | _, _, .bl b => .bl b
  | _, _, .int i => .int i
  | _, _, .str x => .str x
  | _, _, .ty n => .ty n
  | _, _, .tup h r => .tup (h.lr l) (Reps.lr l r)
  | _, _, .rol h r => .rol (h.lr l) (Reps.lr l r)
  | _, _, .ref h => .ref (l.get h)
  | _, _, .glo h => .glo h
theorem Reps.lr {g : G} {m m' : List Addr} {H H' : Hp} (l : Lr m H m' H') : ∀ {v : List V} {d : List D}, Reps g m H v d → Reps g m' H' v d
  | _, _, .nil => .nil
  | _, _, .cons r t => .cons (Rep.lr l r) (Reps.lr l t)
end
theorem Rep.le {g : G} {m m' : List Addr} {H H' : Hp} (l : Le m H m' H') {v : V} {d : D} (r : Rep g m H v d) : Rep g m' H' v d := r.lr l.lr
theorem Reps.le {g : G} {m m' : List Addr} {H H' : Hp} (l : Le m H m' H') {v : List V} {d : List D} (r : Reps g m H v d) : Reps g m' H' v d := r.lr l.lr
theorem Reps.length {g : G} {m : List Addr} {H : Hp} : ∀ {xs : List V} {ds : List D}, Reps g m H xs ds → xs.length = ds.length
  | _, _, .nil => rfl
  | _, _, .cons _ t => by rw [List.length_cons, List.length_cons, t.length]
theorem Reps.get {g : G} {m : List Addr} {H : Hp} : ∀ {xs : List V} {ds : List D} {i : Nat} {d : D}, Reps g m H xs ds → ds[i]? = some d → ∃ x, xs[i]? = some x ∧ Rep g m H x d
  | _, _, _, _, .nil, e => by simp at e
  | _, _, 0, _, .cons r _, e => by simp at e; subst e; exact ⟨_, rfl, r⟩
  | _, _, i + 1, _, .cons _ t, e => by
    obtain ⟨u, h1, h2⟩ := Reps.get (i := i) t (by simpa using e)
    exact ⟨u, by simpa using h1, h2⟩
theorem Reps.get' {g : G} {m : List Addr} {H : Hp} : ∀ {xs : List V} {ds : List D} {i : Nat} {x : V}, Reps g m H xs ds → xs[i]? = some x → ∃ d, ds[i]? = some d ∧ Rep g m H x d
  | _, _, _, _, .nil, e => by simp at e
  | _, _, 0, _, .cons r _, e => by simp at e; subst e; exact ⟨_, rfl, r⟩
  | _, _, i + 1, _, .cons _ t, e => by
    obtain ⟨u, h1, h2⟩ := Reps.get' (i := i) t (by simpa using e)
    exact ⟨u, by simpa using h1, h2⟩
theorem Reps.append {g : G} {m : List Addr} {H : Hp} : ∀ {xs ys : List V} {ds es : List D}, Reps g m H xs ds → Reps g m H ys es → Reps g m H (xs ++ ys) (ds ++ es)
  | _, _, _, _, .nil, s => s
  | _, _, _, _, .cons r t, s => .cons r (t.append s)
theorem Reps.take {g : G} {m : List Addr} {H : Hp} : ∀ {xs : List V} {ds : List D} (n : Nat), Reps g m H xs ds → Reps g m H (xs.take n) (ds.take n)
  | _, _, 0, _ => .nil
  | _, _, _ + 1, .nil => .nil
  | _, _, n + 1, .cons r t => .cons r (t.take n)
theorem Reps.drop {g : G} {m : List Addr} {H : Hp} : ∀ {xs : List V} {ds : List D} (n : Nat), Reps g m H xs ds → Reps g m H (xs.drop n) (ds.drop n)
  | _, _, 0, r => r
  | _, _, _ + 1, .nil => .nil
  | _, _, n + 1, .cons _ t => t.drop n
theorem Reps.set {g : G} {m : List Addr} {H : Hp} {x : V} {d : D} (r : Rep g m H x d) : ∀ {xs : List V} {ds : List D} (i : Nat), Reps g m H xs ds → Reps g m H (xs.set i x) (ds.set i d)
  | _, _, _, .nil => .nil
  | _, _, 0, .cons _ t => .cons r t
  | _, _, i + 1, .cons q t => .cons q (t.set r i)
theorem Reps.reverse {g : G} {m : List Addr} {H : Hp} : ∀ {xs : List V} {ds : List D}, Reps g m H xs ds → Reps g m H xs.reverse ds.reverse
  | _, _, .nil => .nil
  | _, _, .cons r t => by
    rw [List.reverse_cons, List.reverse_cons]
    exact t.reverse.append (.cons r .nil)

/-! ### the store -/
/-- a key of a dict -/
def keyD : D → Option Key
  | .int i => some (.inl i)
  | .str x => some (.inr x)
  | _ => none
def keysD : List D → Option (List Key)
  | [] => some []
  | d :: ds => match keyD d, keysD ds with
    | some k, some ks => some (k :: ks)
    | _, _ => none
def tkeyD : D → Option (List Key)
  | .tup ds => keysD ds
  | _ => none
/-- the entries of a dict as they lie -/
def EntK {κ : Type} (g : G) (m : List Addr) (H : Hp) : List (κ × V) → List (κ × D) → Prop := Paired fun p q => q.1 = p.1 ∧ Rep g m H p.2 q.2
def EntF (g : G) (m : List Addr) (H : Hp) : List (Str × V) → List (Str × D) → Prop := Paired fun p q => q.1 = p.1 ∧ Rep g m H p.2 q.2
def OR (g : G) (m : List Addr) (H : Hp) (a : Addr) : O → Prop
  | .lst ds => ∃ xs, H a = some (.lst xs) ∧ Reps g m H xs ds
  | .dct kvs => ∃ es, H a = some (.dK es) ∧ EntK g m H es kvs
  | .dtt kvs => ∃ es, H a = some (.dT es) ∧ EntK g m H es kvs
  | .ins C fs => ∃ c dx es, g.mg C = some (.ref c) ∧ H a = some (.ins c dx es) ∧ H dx = some (.own a) ∧ EntF g m H es fs
structure Hold (g : G) (m : List Addr) (s : S) (H : Hp) : Prop where
  len : m.length = s.length
  nd : m.Nodup
  obj : ∀ (p : Nat) (a : Addr) (o : O), m[p]? = some a → s[p]? = some o → OR g m H a o
theorem Paired.mp {α β : Type} {F F' : α → β → Prop} : ∀ {l₁ : List α} {l₂ : List β}, Paired F l₁ l₂ → (∀ a b, F a b → F' a b) → Paired F' l₁ l₂
  | _, _, .nil, _ => .nil
  | _, _, .cons r t, f => .cons (f _ _ r) (Paired.mp t f)
theorem EntK.lr {κ : Type} {g : G} {m m' : List Addr} {H H' : Hp} (l : Lr m H m' H') {es : List (κ × V)} {kvs : List (κ × D)} (h : EntK g m H es kvs) : EntK g m' H' es kvs := Paired.mp h fun _ _ z => ⟨z.1, z.2.lr l⟩
theorem EntF.lr {g : G} {m m' : List Addr} {H H' : Hp} (l : Lr m H m' H') {es : List (Str × V)} {kvs : List (Str × D)} (h : EntF g m H es kvs) : EntF g m' H' es kvs := Paired.mp h fun _ _ z => ⟨z.1, z.2.lr l⟩
theorem EntK.le {κ : Type} {g : G} {m m' : List Addr} {H H' : Hp} (l : Le m H m' H') {es : List (κ × V)} {kvs : List (κ × D)} (h : EntK g m H es kvs) : EntK g m' H' es kvs := Paired.mp h fun _ _ z => ⟨z.1, z.2.le l⟩
theorem EntF.le {g : G} {m m' : List Addr} {H H' : Hp} (l : Le m H m' H') {es : List (Str × V)} {kvs : List (Str × D)} (h : EntF g m H es kvs) : EntF g m' H' es kvs := Paired.mp h fun _ _ z => ⟨z.1, z.2.le l⟩
theorem OR.th {g : G} {m : List Addr} {H : Hp} {a : Addr} {o : O} (h : OR g m H a o) : ∃ u, H a = some u ∧ (∀ xs, u ≠ .tup xs) ∧ (∀ ob v, u ≠ .frz ob v) ∧ ∀ x, u ≠ HO.own x := by
  cases o with
  | lst ds => obtain ⟨xs, e, _⟩ := h; exact ⟨_, e, (by intro _ q; cases q), (by intro _ _ q; cases q), by intro _ q; cases q⟩
  | dct kvs => obtain ⟨es, e, _⟩ := h; exact ⟨_, e, (by intro _ q; cases q), (by intro _ _ q; cases q), by intro _ q; cases q⟩
  | dtt kvs => obtain ⟨es, e, _⟩ := h; exact ⟨_, e, (by intro _ q; cases q), (by intro _ _ q; cases q), by intro _ q; cases q⟩
  | ins C fs => obtain ⟨c, dx, es, _, e, _⟩ := h; exact ⟨_, e, (by intro _ q; cases q), (by intro _ _ q; cases q), by intro _ q; cases q⟩
section
variable {g : G} {m m' : List Addr} {s s' : S} {H H' : Hp} {a : Addr} {p : Nat} {o : O}
theorem Hold.at (h : Hold g m s H) (e : s[p]? = some o) : ∃ a, m[p]? = some a ∧ a ∈ m ∧ OR g m H a o := by
  have hp : p < s.length := (List.getElem?_eq_some_iff.mp e).1
  have hp' : p < m.length := by rw [h.len]; exact hp
  have e1 : m[p]? = some m[p] := List.getElem?_eq_getElem hp'
  exact ⟨m[p], e1, List.getElem_mem hp', h.obj p _ o e1 e⟩
theorem Hold.mem (h : Hold g m s H) (e : a ∈ m) : ∃ (p : Nat) (o : O), m[p]? = some a ∧ s[p]? = some o ∧ OR g m H a o := by
  obtain ⟨p, hp, e⟩ := List.getElem_of_mem e
  have hp' : p < s.length := by rw [← h.len]; exact hp
  have e1 : m[p]? = some a := by rw [List.getElem?_eq_getElem hp, e]
  exact ⟨p, s[p], e1, List.getElem?_eq_getElem hp', h.obj p _ _ e1 (List.getElem?_eq_getElem hp')⟩
theorem Hold.free (h : Hold g m s H) (e : H a = none) : a ∉ m := fun z => by
  obtain ⟨p, o, _, _, r⟩ := h.mem z
  obtain ⟨u, e', _⟩ := r.th
  rw [e] at e'; cases e'
theorem Hold.inj (h : Hold g m s H) {p q : Nat} {a : Addr} (h1 : m[p]? = some a) (h2 : m[q]? = some a) : p = q := by
  exact (List.getElem?_inj (List.getElem?_eq_some_iff.mp h1).1 h.nd).mp (h1.trans h2.symm)
/-- a new untracked object (a tuple) -/
theorem Le.aside (h : Hold g m s H) {u : HO} (e : H a = none) : Le m H m (upd H a u) :=
  ⟨List.prefix_refl m, fun b o _ q => by rw [upd_ne (ne_of_none q e)]; exact q, fun _ h h' => absurd h h'⟩
theorem OR.lr_of (l : Lr m H m' H') (ha : H' a = H a) (hx : ∀ d, H d = some (HO.own a) → H' d = some (HO.own a)) (h : OR g m H a o) : OR g m' H' a o := by
  cases o with
  | lst ds => obtain ⟨xs, e, r⟩ := h; exact ⟨xs, ha.trans e, r.lr l⟩
  | dct kvs => obtain ⟨es, e, r⟩ := h; exact ⟨es, ha.trans e, r.lr l⟩
  | dtt kvs => obtain ⟨es, e, r⟩ := h; exact ⟨es, ha.trans e, r.lr l⟩
  | ins C fs => obtain ⟨c, dx, es, e0, e, ex, r⟩ := h; exact ⟨c, dx, es, e0, ha.trans e, hx dx ex, r.lr l⟩
theorem OR.le_of (l : Le m H m' H') (ha : H' a = H a) (hx : ∀ d, H d = some (HO.own a) → H' d = some (HO.own a)) (h : OR g m H a o) : OR g m' H' a o := h.lr_of l.lr ha hx
theorem Hold.nown (h : Hold g m s H) {x : Addr} (e : H a = some (HO.own x)) : a ∉ m := fun z => by
  obtain ⟨p, o, _, _, r⟩ := h.mem z
  obtain ⟨u, e', _, _, n⟩ := r.th
  rw [e] at e'; cases e'; exact n _ rfl
theorem Hold.aside (h : Hold g m s H) {u : HO} (e : H a = none) : Hold g m s (upd H a u) := by
  refine ⟨h.len, h.nd, fun p b o h1 h2 => ?_⟩
  have r := h.obj p b o h1 h2
  obtain ⟨v, e', _⟩ := r.th
  exact r.le_of (Le.aside h e) (upd_ne (ne_of_none e' e)) fun d (q : _ = some (HO.own b)) => by rw [upd_ne (ne_of_none q e)]; exact q
/-- a new object of the store -/
theorem Le.new (h : Hold g m s H) {u : HO} (e : H a = none) : Le m H (m ++ [a]) (upd H a u) :=
  ⟨List.prefix_append m [a], fun b o _ q => by rw [upd_ne (ne_of_none q e)]; exact q, fun b hb hn => by
    rcases List.mem_append.mp hb with z | z
    · exact absurd z hn
    · rw [List.mem_singleton.mp z]; exact e⟩
theorem Hold.new (h : Hold g m s H) {u : HO} (e : H a = none) (ho : OR g (m ++ [a]) (upd H a u) a o) : Hold g (m ++ [a]) (s ++ [o]) (upd H a u) := by
  refine ⟨by rw [List.length_append, List.length_append, h.len]; rfl, ?_, fun p b o' h1 h2 => ?_⟩
  · rw [List.nodup_append]
    exact ⟨h.nd, by simp, fun b hb c hc => by rw [List.mem_singleton.mp hc]; intro z; exact h.free e (z ▸ hb)⟩
  · by_cases hp : p < m.length
    · rw [List.getElem?_append_left hp] at h1
      rw [List.getElem?_append_left (by rw [← h.len]; exact hp)] at h2
      have r := h.obj p b o' h1 h2
      obtain ⟨v, e', _⟩ := r.th
      exact r.le_of (Le.new h e) (upd_ne (ne_of_none e' e)) fun d (q : _ = some (HO.own b)) => by rw [upd_ne (ne_of_none q e)]; exact q
    · have hp2 : p = m.length := by
        have := (List.getElem?_eq_some_iff.mp h1).1
        rw [List.length_append, List.length_singleton] at this
        omega
      subst hp2
      rw [List.getElem?_append_right (Nat.le_refl _), Nat.sub_self] at h1
      rw [h.len, List.getElem?_append_right (Nat.le_refl _), Nat.sub_self] at h2
      cases h1; cases h2
      exact ho
/-- an object that stood aside joins the store -/
theorem Lr.join {p : Addr} {u x : HO} (hp : p ∉ m) (e : H p = some x) (h1 : ∀ xs, x ≠ .tup xs) (h2 : ∀ ob v, x ≠ .frz ob v) : Lr m H (m ++ [p]) (upd H p u) := by
  refine ⟨List.prefix_append m [p], fun a xs h q => ?_, fun a ob w h q => ?_⟩
  · have n : a ≠ p := fun z => by subst z; rw [e] at q; exact h1 xs (Option.some.inj q)
    exact ⟨by rw [upd_ne n]; exact q, fun z => (List.mem_append.mp z).elim h fun z => n (List.mem_singleton.mp z)⟩
  · have n : a ≠ p := fun z => by subst z; rw [e] at q; exact h2 ob w (Option.some.inj q)
    exact ⟨by rw [upd_ne n]; exact q, fun z => (List.mem_append.mp z).elim h fun z => n (List.mem_singleton.mp z)⟩
theorem Hold.join {p : Addr} {u x : HO} (h : Hold g m s H) (hp : p ∉ m) (e : H p = some x) (h1 : ∀ xs, x ≠ .tup xs) (h2 : ∀ ob v, x ≠ .frz ob v) (h3 : ∀ y, x ≠ .own y) (ho : OR g (m ++ [p]) (upd H p u) p o) : Hold g (m ++ [p]) (s ++ [o]) (upd H p u) := by
  refine ⟨by rw [List.length_append, List.length_append, h.len]; rfl, ?_, fun q b o' e1 e2 => ?_⟩
  · rw [List.nodup_append]
    exact ⟨h.nd, by simp, fun b hb c hc => by rw [List.mem_singleton.mp hc]; intro z; exact hp (z ▸ hb)⟩
  · by_cases hq : q < m.length
    · rw [List.getElem?_append_left hq] at e1
      rw [List.getElem?_append_left (by rw [← h.len]; exact hq)] at e2
      have r := h.obj q b o' e1 e2
      have nb : b ≠ p := fun z => hp (z ▸ List.mem_of_getElem? e1)
      exact r.lr_of (Lr.join hp e h1 h2) (upd_ne nb) fun d (q' : _ = some (HO.own b)) => by rw [upd_ne (fun z => by rw [z, e] at q'; exact h3 b (Option.some.inj q'))]; exact q'
    · have hq2 : q = m.length := by
        have := (List.getElem?_eq_some_iff.mp e1).1
        rw [List.length_append, List.length_singleton] at this
        omega
      subst hq2
      rw [List.getElem?_append_right (Nat.le_refl _), Nat.sub_self] at e1
      rw [h.len, List.getElem?_append_right (Nat.le_refl _), Nat.sub_self] at e2
      cases e1; cases e2
      exact ho
/-- .. seen from before it was made -/
theorem Le.join {m0 : List Addr} {H0 : Hp} {p : Addr} {u x : HO} (hp : H0 p = none) (l : Le m0 (upd H0 p x) m H) (hm : p ∉ m) : Le m0 H0 (m ++ [p]) (upd H p u) := by
  refine ⟨l.pre.trans (List.prefix_append m [p]), fun a o ha e => ?_, fun a ha hn => ?_⟩
  · have n := ne_of_none e hp
    rw [upd_ne n]
    exact l.rest a o ha (by rw [upd_ne n]; exact e)
  · rcases List.mem_append.mp ha with z | z
    · have q := l.fresh a z hn
      have n : a ≠ p := fun e => hm (e ▸ z)
      rw [upd_ne n] at q
      exact q
    · rw [List.mem_singleton.mp z]; exact hp
/-- the object p is another -/
theorem Le.write (h : Hold g m s H) (e : m[p]? = some a) {u : HO} : Le m H m (upd H a u) :=
  ⟨List.prefix_refl m, fun b o n q => by rw [upd_ne (fun z => n (by rw [z]; exact List.mem_of_getElem? e))]; exact q, fun _ h h' => absurd h h'⟩
theorem Hold.write (h : Hold g m s H) (e : m[p]? = some a) {u : HO} (ho : OR g m (upd H a u) a o) : Hold g m (s.set p o) (upd H a u) := by
  have ha : a ∈ m := List.mem_of_getElem? e
  refine ⟨by rw [List.length_set]; exact h.len, h.nd, fun q b o' h1 h2 => ?_⟩
  by_cases hq : p = q
  · subst hq
    rw [e] at h1; cases h1
    rw [List.getElem?_set_self (by rw [← h.len]; exact (List.getElem?_eq_some_iff.mp e).1)] at h2
    cases h2; exact ho
  · rw [List.getElem?_set_ne hq] at h2
    have r := h.obj q b o' h1 h2
    have nb : b ≠ a := fun z => by subst z; exact hq (h.inj e h1)
    exact r.le_of (Le.write h e) (upd_ne nb) fun d (q : _ = some (HO.own b)) => by rw [upd_ne (fun z => h.nown (z ▸ q) ha)]; exact q
end
end Mi

set_option Elab.async false
set_option linter.all false
set_option maxRecDepth 100000
namespace Mi
open PySem PySem.Spec PyProof.Rows L2

/-! ### results -/
abbrev XF := Option (List (Str × D))
inductive R (α : Type) where
  | no | ok (a : α) (s : S) | ex (c : Str) (fs : XF) (s : S)
def R.bind {α β : Type} : R α → (α → S → R β) → R β
  | .no, _ => .no
  | .ok a s, f => f a s
  | .ex c fs s, _ => .ex c fs s
def R.of {α : Type} : Option (α × S) → R α
  | none => .no
  | some (a, s) => .ok a s
def R.post {α : Type} (r : R α) (P : α → S → Prop) (E : Str → XF → S → Prop) : Prop :=
  match r with
  | .no => False
  | .ok a s => P a s
  | .ex c fs s => E c fs s
abbrev EX := Env → S → R D
abbrev EB := Env → S → R Bool
abbrev EA := Env → S → R (List D)

structure Ag (g : G) (m : List Addr) (σ : L2.St) (H : Hp) (env : Env) (s : S) : Prop where
  hold : Hold g m s H
  len : env.length = σ.length
  val : ∀ (i : Nat) (d : D), env[i]? = some (some d) → ∃ v, σ[i]? = some (some v) ∧ Rep g m H v d
theorem Ag.go {g : G} {m m' : List Addr} {σ : L2.St} {H H' : Hp} {env : Env} {s s' : S} (a : Ag g m σ H env s) (l : Le m H m' H') (h : Hold g m' s' H') : Ag g m' σ H' env s' :=
  ⟨h, a.len, fun i d e => let ⟨v, e1, r⟩ := a.val i d e; ⟨v, e1, r.le l⟩⟩
theorem Ag.set {g : G} {m : List Addr} {σ : L2.St} {H : Hp} {env : Env} {s : S} {v : V} {d : D} (a : Ag g m σ H env s) (r : Rep g m H v d) (i : Nat) : Ag g m (σ.set i (some v)) H (env.set i (some d)) s := by
  refine ⟨a.hold, by rw [List.length_set, List.length_set]; exact a.len, fun j e h => ?_⟩
  by_cases hj : i = j
  · subst hj
    by_cases hl : i < env.length
    · rw [List.getElem?_set_self hl] at h
      cases h
      exact ⟨v, List.getElem?_set_self (by rw [← a.len]; exact hl), r⟩
    · rw [List.getElem?_eq_none (by rw [List.length_set]; omega)] at h
      cases h
  · rw [List.getElem?_set_ne hj] at h
    obtain ⟨w, e1, q⟩ := a.val j e h
    exact ⟨w, by rw [List.getElem?_set_ne hj]; exact e1, q⟩

/-- the fields of an exception that flies -/
def XFok (g : G) (m : List Addr) (H : Hp) (da : Option Addr) : XF → Prop
  | none => da = none
  | some fs => ∃ a es, da = some a ∧ H a = some (.xd es) ∧ EntF g m H es fs
def WX (g : G) (m : List Addr) (H : Hp) (W : XK) : Str → XF → S → Prop := fun c fs s =>
  ∀ (C : Addr) (da : Option Addr) (m' : List Addr) (H' : Hp), Le m H m' H' → Hold g m' s H' → g.mg c = some (.ref C) → XFok g m' H' da fs → W (.ref C) da H'
def PD (g : G) (m : List Addr) (H : Hp) (Q : VK) : D → S → Prop := fun d s =>
  ∀ (v : V) (m' : List Addr) (H' : Hp), Le m H m' H' → Hold g m' s H' → Rep g m' H' v d → Q v H'
def PB (g : G) (m : List Addr) (H : Hp) (Q : Bool → Hp → Prop) : Bool → S → Prop := fun b s =>
  ∀ (m' : List Addr) (H' : Hp), Le m H m' H' → Hold g m' s H' → Q b H'
def PL (g : G) (m : List Addr) (H : Hp) (Q : List V → Hp → Prop) : List D → S → Prop := fun ds s =>
  ∀ (vs : List V) (m' : List Addr) (H' : Hp), Le m H m' H' → Hold g m' s H' → Reps g m' H' vs ds → Q vs H'
section
variable {g : G} {m m' : List Addr} {H H' : Hp} {W : XK}
theorem WX.le (l : Le m H m' H') {c : Str} {fs : XF} {s : S} (h : WX g m H W c fs s) : WX g m' H' W c fs s := fun C da m2 H2 l2 => h C da m2 H2 (l.trans l2)
theorem PD.le (l : Le m H m' H') {Q : VK} {d : D} {s : S} (h : PD g m H Q d s) : PD g m' H' Q d s := fun v m2 H2 l2 => h v m2 H2 (l.trans l2)
theorem PB.le (l : Le m H m' H') {Q : Bool → Hp → Prop} {d : Bool} {s : S} (h : PB g m H Q d s) : PB g m' H' Q d s := fun m2 H2 l2 => h m2 H2 (l.trans l2)
theorem PL.le (l : Le m H m' H') {Q : List V → Hp → Prop} {d : List D} {s : S} (h : PL g m H Q d s) : PL g m' H' Q d s := fun v m2 H2 l2 => h v m2 H2 (l.trans l2)
end
theorem R.post_mono {α : Type} {r : R α} {P P' : α → S → Prop} {E E' : Str → XF → S → Prop} (h : r.post P E) (hp : ∀ a s, P a s → P' a s) (he : ∀ c fs s, E c fs s → E' c fs s) : r.post P' E' := by
  cases r with
  | no => exact h
  | ok a s => exact hp _ _ h
  | ex c fs s => exact he _ _ _ h
theorem R.post_bind {α β : Type} {r : R α} {f : α → S → R β} {P : β → S → Prop} {E : Str → XF → S → Prop} (h : (r.bind f).post P E) : r.post (fun a s => (f a s).post P E) E := by
  cases r with
  | no => exact h
  | ok a s => exact h
  | ex c fs s => exact h
theorem R.post_of {α : Type} {o : Option (α × S)} {P : α → S → Prop} {E : Str → XF → S → Prop} (h : (R.of o).post P E) : ∃ a s, o = some (a, s) ∧ P a s := by
  cases o with
  | none => exact h.elim
  | some p => exact ⟨p.1, p.2, rfl, h⟩

/-! ### readings -/
def sem (g : G) (W : XK) (f : EX) : TE := fun σ H Q => ∃ m env s, Ag g m σ H env s ∧ (f env s).post (PD g m H Q) (WX g m H W)
def semB (g : G) (W : XK) (f : EB) : TT := fun σ H Q => ∃ m env s, Ag g m σ H env s ∧ (f env s).post (PB g m H Q) (WX g m H W)
def semA (g : G) (W : XK) (f : EA) : TA := fun σ H Q => ∃ m env s, Ag g m σ H env s ∧ (f env s).post (PL g m H Q) (WX g m H W)
section
variable {X : Cx} {g : G} {W : XK} {f f' : EX}
theorem PE.of {e : Expr} {t t' : TE} (h : PE X e t) (k : ∀ σ H Q, t' σ H Q → t σ H Q) : PE X e t' := ⟨fun pins s σ H Q I q => h.run pins s σ H Q I (k _ _ _ q)⟩
theorem PT.of {e : Expr} {t t' : TT} (h : PT X e t) (k : ∀ σ H Q, t' σ H Q → t σ H Q) : PT X e t' := ⟨fun pins s σ H Q I q => h.run pins s σ H Q I (k _ _ _ q)⟩
theorem PA.of {e : List Expr} {t t' : TA} (h : PA X e t) (k : ∀ σ H Q, t' σ H Q → t σ H Q) : PA X e t' := ⟨fun p pins s σ H Q I q => h.run p pins s σ H Q I (k _ _ _ q)⟩
/-- from the reading of a part: what it leaves -/
theorem sem_k {σ : L2.St} {H : Hp} {m : List Addr} {env : Env} {s : S} {P : D → S → Prop} {K : VK} (a : Ag g m σ H env s) (h : (f env s).post P (WX g m H W))
    (k : ∀ d s1 v m1 H1, P d s1 → Le m H m1 H1 → Ag g m1 σ H1 env s1 → Rep g m1 H1 v d → K v H1) : sem g W f σ H K :=
  ⟨m, env, s, a, R.post_mono h (fun d s1 p v m1 H1 l hold r => k d s1 v m1 H1 p l (a.go l hold) r) fun _ _ _ e => e⟩
theorem semB_k {fb : EB} {σ : L2.St} {H : Hp} {m : List Addr} {env : Env} {s : S} {P : Bool → S → Prop} {K : Bool → Hp → Prop} (a : Ag g m σ H env s) (h : (fb env s).post P (WX g m H W))
    (k : ∀ d s1 m1 H1, P d s1 → Le m H m1 H1 → Ag g m1 σ H1 env s1 → K d H1) : semB g W fb σ H K :=
  ⟨m, env, s, a, R.post_mono h (fun d s1 p m1 H1 l hold => k d s1 m1 H1 p l (a.go l hold)) fun _ _ _ e => e⟩
theorem semA_k {fa : EA} {σ : L2.St} {H : Hp} {m : List Addr} {env : Env} {s : S} {P : List D → S → Prop} {K : List V → Hp → Prop} (a : Ag g m σ H env s) (h : (fa env s).post P (WX g m H W))
    (k : ∀ d s1 v m1 H1, P d s1 → Le m H m1 H1 → Ag g m1 σ H1 env s1 → Reps g m1 H1 v d → K v H1) : semA g W fa σ H K :=
  ⟨m, env, s, a, R.post_mono h (fun d s1 p v m1 H1 l hold r => k d s1 v m1 H1 p l (a.go l hold) r) fun _ _ _ e => e⟩
end

/-! ### names, constants -/
def vr (i : Nat) : EX := fun env s => match env[i]? with
  | some (some d) => .ok d s
  | _ => .no
def cn (d : D) : EX := fun _ s => .ok d s
section
variable {X : Cx} {g : G} {W : XK} {f f' : EX}
theorem s_var {i : Nat} {e : Expr} (h : PE X e (tVar i)) : PE X e (sem g W (vr i)) := by
  refine PE.of h fun σ H Q ⟨m, env, s, a, q⟩ => ?_
  unfold vr at q
  split at q
  · rename_i d hd
    obtain ⟨v, e1, r⟩ := a.val i d hd
    exact ⟨v, e1, q v m H (Le.refl m H) a.hold r⟩
  · exact q.elim
theorem s_con {e : Expr} {v : V} {d : D} (h : PE X e (tC v)) (r : ∀ m H, Rep g m H v d) : PE X e (sem g W (cn d)) :=
  PE.of h fun σ H Q ⟨m, env, s, a, q⟩ => q v m H (Le.refl m H) a.hold (r m H)
theorem s_int {i : Int} {j pos} : PE X (.Constant (.int i) j pos) (sem g W (cn (.int i))) := s_con pe_int fun _ _ => .int i
theorem s_bl {b : Bool} {j pos} : PE X (.Constant (.bool b) j pos) (sem g W (cn (.bl b))) := s_con pe_bl fun _ _ => .bl b
theorem s_non {j pos} : PE X (.Constant .none j pos) (sem g W (cn .non)) := s_con pe_non fun _ _ => .non
theorem s_str {x : Str} {j pos} : PE X (.Constant (.str x) j pos) (sem g W (cn (.str x))) := s_con pe_str fun _ _ => .str x
end

/-! ### two-place operations -/
abbrev OP2 := D → D → S → Option (D × S)
def O2 (g : G) (r : R2) (o : OP2) : Prop := ∀ (m : List Addr) (H : Hp) (s : S) (v w : V) (d e x : D) (s' : S) (Q : VK), Hold g m s H → Rep g m H v d → Rep g m H w e → o d e s = some (x, s') → PD g m H Q x s' → r v w H Q
def e2 (o : OP2) (f f' : EX) : EX := fun env s => (f env s).bind fun d s1 => (f' env s1).bind fun e s2 => R.of (o d e s2)
section
variable {X : Cx} {g : G} {W : XK} {f f' f'' : EX} {a b c : Expr} {pos : Pos} {r r' : R2} {o o' : OP2}
theorem sem_2 (ho : O2 g r o) {σ : L2.St} {H : Hp} {Q : VK} (h : sem g W (e2 o f f') σ H Q) : tOp r (sem g W f) (sem g W f') σ H Q := by
  obtain ⟨m, env, s, ag, q⟩ := h
  refine sem_k ag (R.post_bind q) fun d s1 v m1 H1 q1 l1 a1 r1 => ?_
  refine sem_k a1 (R.post_mono (R.post_bind q1) (fun _ _ z => z) fun _ _ _ z => z.le l1) fun e s2 w m2 H2 q2 l2 a2 r2 => ?_
  obtain ⟨x, s', e1, q3⟩ := R.post_of q2
  exact ho m2 H2 s2 v w d e x s' Q a2.hold (r1.le l2) r2 e1 (q3.le (l1.trans l2))
theorem s_op {op : Operator} (hr : OpR X (binaryOp op) r) (ho : O2 g r o) (ha : PE X a (sem g W f)) (hb : PE X b (sem g W f')) : PE X (.BinOp a op b pos) (sem g W (e2 o f f')) :=
  PE.of (pe_op hr ha hb) fun _ _ _ h => sem_2 ho h
theorem s_cmp {op : CmpOp} (hr : OpR X (compareOp op) r) (ho : O2 g r o) (ha : PE X a (sem g W f)) (hb : PE X b (sem g W f')) (hm : behindInMarks op b = false) : PE X (.Compare a [op] [b] pos) (sem g W (e2 o f f')) :=
  PE.of (pe_cmpR hr ha hb hm) fun _ _ _ h => sem_2 ho h
theorem s_ix (hr : IxR X r) (ho : O2 g r o) (ha : PE X a (sem g W f)) (hb : PE X b (sem g W f')) (hs : PlainIx b) : PE X (.Subscript a b pos) (sem g W (e2 o f f')) :=
  PE.of (pe_ix hr ha hb hs) fun _ _ _ h => sem_2 ho h
theorem O2.or (h : O2 g r o) (h' : O2 g r' o') : O2 g (fun x y H Q => r x y H Q ∨ r' x y H Q) (fun d e s => match o d e s with | some x => some x | none => o' d e s) := by
  intro m H s v w d e x s' Q hold rv rw he q
  have he : (match o d e s with | some x => some x | none => o' d e s) = some (x, s') := he
  cases h1 : o d e s with
  | some z =>
    rw [h1] at he
    exact .inl (h m H s v w d e x s' Q hold rv rw (h1.trans he) q)
  | none =>
    rw [h1] at he
    exact .inr (h' m H s v w d e x s' Q hold rv rw he q)
end

/-! ### tests -/
/-- a bool's test; a value's test by its truth -/
def asB : D → S → R Bool
  | .bl b, s => .ok b s
  | _, _ => .no
def tB1 (f : EX) : EB := fun env s => (f env s).bind asB
def truD (d : D) (s : S) : Option Bool := match d with
  | .non => some false
  | .bl b => some b
  | .int i => some (i != 0)
  | .str x => if x.length ≤ sizeLine then some ((x.length : Int) != 0) else none
  | .tup ds => some (!ds.isEmpty)
  | .rol ds => some (!ds.isEmpty)
  | .ref p => match s[p]? with
    | some (.lst ds) => some (!ds.isEmpty)
    | some (.dct kvs) => some (!kvs.isEmpty)
    | _ => none
  | _ => none
def tTl (f : EX) : EB := fun env s => (f env s).bind fun d s1 => match truD d s1 with
  | some b => .ok b s1
  | none => .no
theorem Reps.isEmpty {g : G} {m : List Addr} {H : Hp} {xs : List V} {ds : List D} (r : Reps g m H xs ds) : xs.isEmpty = ds.isEmpty := by cases r <;> rfl
theorem ent_len {α β : Type} {F : α → β → Prop} {l₁ : List α} {l₂ : List β} (h : Paired F l₁ l₂) : l₁.isEmpty = l₂.isEmpty := by cases h <;> rfl
section
variable {X : Cx} {W : XK} {f f' : EX} {fb fb' : EB} {e a b : Expr} {rest : List Expr} {pos : Pos}
theorem truL_sem {g : G} {m : List Addr} {H : Hp} {s : S} {v : V} {d : D} {k : Bool} (hold : Hold g m s H) (r : Rep g m H v d) (h : truD d s = some k) : TruV g.K v H k := by
  cases r with
  | non => cases h; rfl
  | bl b => cases h; rfl
  | int i => cases h; rfl
  | str x =>
    have h : (if x.length ≤ sizeLine then some ((x.length : Int) != 0) else none) = some k := h
    by_cases z : x.length ≤ sizeLine
    · rw [if_pos z] at h; cases h; exact ⟨z, rfl⟩
    · rw [if_neg z] at h; cases h
  | ty n => cases h
  | tup z q => cases h; exact .inr (.inl ⟨_, z.sq, by rw [q.isEmpty]⟩)
  | rol z q => cases h; exact .inl ⟨_, z.sq, by rw [q.isEmpty]⟩
  | glo z => cases h
  | ref z =>
    rename_i a p
    have h : (match s[p]? with
      | some (.lst ds) => some (!ds.isEmpty)
      | some (.dct kvs) => some (!kvs.isEmpty)
      | _ => none) = some k := h
    split at h
    · rename_i ds hs
      cases h
      obtain ⟨xs, e1, q⟩ := hold.obj _ _ _ z hs
      exact .inl ⟨xs, .of e1, by rw [q.isEmpty]⟩
    · rename_i kvs hs
      cases h
      obtain ⟨es, e1, q⟩ := hold.obj _ _ _ z hs
      exact .inr (.inr ⟨es, e1, by rw [ent_len q]⟩)
    · cases h
theorem t_truth (h : PE X e (sem ⟨X.K, X.mg⟩ W f)) (he : ∀ whole, isTrue e X.env whole = (do let v ← whole; standAt e.pos; holding [v] (truthy v)) := by intro _; rfl) : PT X e (semB ⟨X.K, X.mg⟩ W (tTl f)) := by
  refine PT.of (pt_truth h he) fun σ H Q ⟨m, env, s, ag, q⟩ => ?_
  refine sem_k ag (R.post_bind q) fun d s1 v m1 H1 q1 l1 a1 r1 => ?_
  split at q1
  · rename_i k hk
    exact ⟨k, truL_sem a1.hold r1 hk, q1 m1 H1 l1 a1.hold⟩
  · exact q1.elim
/-- a comparison as a test -/
theorem t_cmp {op : CmpOp} {r : R2} {o : OP2} {g : G} (hr : OpR X (compareOp op) r) (ho : O2 g r o) (ha : PE X a (sem g W f)) (hb : PE X b (sem g W f')) (hm : behindInMarks op b = false) : PT X (.Compare a [op] [b] pos) (semB g W (tB1 (e2 o f f'))) := by
  refine PT.of (pt_cmpR hr ha hb hm) fun σ H Q ⟨m, env, s, ag, q⟩ => ?_
  refine sem_2 ho (sem_k ag (R.post_bind q) fun d s1 v m1 H1 q1 l1 a1 r1 => ?_)
  cases d <;> first | exact q1.elim | skip
  cases r1
  exact ⟨_, rfl, q1 m1 H1 l1 a1.hold⟩
def tAn (fb fb' : EB) : EB := fun env s => (fb env s).bind fun b s1 => if b = true then fb' env s1 else .ok false s1
def tO (fb fb' : EB) : EB := fun env s => (fb env s).bind fun b s1 => if b = true then .ok true s1 else fb' env s1
def tNo (fb : EB) : EB := fun env s => (fb env s).bind fun b s1 => .ok (!b) s1
variable {g : G}
theorem t_and1 (h : PT X a (semB g W fb)) : PW X (.BoolOp .And [a] pos) (semB g W fb) := pw_and1 h
theorem t_or1 (h : PT X a (semB g W fb)) : PW X (.BoolOp .Or [a] pos) (semB g W fb) := pw_or1 h
theorem PW.of {t t' : TT} (h : PW X e t) (k : ∀ σ H Q, t' σ H Q → t σ H Q) : PW X e t' := ⟨fun w pins s σ H Q I q => h.run w pins s σ H Q I (k _ _ _ q)⟩
theorem t_and (ha : PT X a (semB g W fb)) (hb : PW X (.BoolOp .And (b :: rest) pos) (semB g W fb')) : PW X (.BoolOp .And (a :: b :: rest) pos) (semB g W (tAn fb fb')) := by
  refine PW.of (pw_and ha hb) fun σ H Q ⟨m, env, s, ag, q⟩ => ?_
  refine semB_k ag (R.post_bind q) fun d s1 m1 H1 q1 l1 a1 => ?_
  cases d with
  | true => exact iteT ⟨m1, env, s1, a1, R.post_mono q1 (fun _ _ z => z.le l1) fun _ _ _ z => z.le l1⟩
  | false => exact iteF (q1 m1 H1 l1 a1.hold)
theorem t_or (ha : PT X a (semB g W fb)) (hb : PW X (.BoolOp .Or (b :: rest) pos) (semB g W fb')) : PW X (.BoolOp .Or (a :: b :: rest) pos) (semB g W (tO fb fb')) := by
  refine PW.of (pw_or ha hb) fun σ H Q ⟨m, env, s, ag, q⟩ => ?_
  refine semB_k ag (R.post_bind q) fun d s1 m1 H1 q1 l1 a1 => ?_
  cases d with
  | true => exact iteT (q1 m1 H1 l1 a1.hold)
  | false => exact iteF ⟨m1, env, s1, a1, R.post_mono q1 (fun _ _ z => z.le l1) fun _ _ _ z => z.le l1⟩
theorem t_not (ha : PT X a (semB g W fb)) : PT X (.UnaryOp .Not a pos) (semB g W (tNo fb)) := by
  refine PT.of (pt_not ha) fun σ H Q ⟨m, env, s, ag, q⟩ => ?_
  exact semB_k ag (R.post_bind q) fun d s1 m1 H1 q1 l1 a1 => q1 m1 H1 l1 a1.hold
/-! as values -/
def eAn (f f' : EX) : EX := fun env s => (f env s).bind fun d s1 => match d with
  | .bl true => f' env s1
  | .bl false => .ok (.bl false) s1
  | _ => .no
def eO (f f' : EX) : EX := fun env s => (f env s).bind fun d s1 => match d with
  | .bl true => .ok (.bl true) s1
  | .bl false => f' env s1
  | _ => .no
def eNo (f : EX) : EX := fun env s => (f env s).bind fun d s1 => match d with
  | .bl b => .ok (.bl (!b)) s1
  | _ => .no
theorem s_one {op} (h : PE X a (sem g W f)) : PE X (.BoolOp op [a] pos) (sem g W f) := pe_one h
theorem s_and (ha : PE X a (sem g W f)) (hb : PE X (.BoolOp .And (b :: rest) pos) (sem g W f')) : PE X (.BoolOp .And (a :: b :: rest) pos) (sem g W (eAn f f')) := by
  refine PE.of (pe_and ha hb) fun σ H Q ⟨m, env, s, ag, q⟩ => ?_
  refine sem_k ag (R.post_bind q) fun d s1 v m1 H1 q1 l1 a1 r1 => ?_
  cases r1 <;> first | exact q1.elim | skip
  rename_i k
  cases k with
  | true => exact ⟨true, rfl, iteT ⟨m1, env, s1, a1, R.post_mono q1 (fun _ _ z => z.le l1) fun _ _ _ z => z.le l1⟩⟩
  | false => exact ⟨false, rfl, iteF (q1 _ m1 H1 l1 a1.hold (.bl false))⟩
theorem s_or (ha : PE X a (sem g W f)) (hb : PE X (.BoolOp .Or (b :: rest) pos) (sem g W f')) : PE X (.BoolOp .Or (a :: b :: rest) pos) (sem g W (eO f f')) := by
  refine PE.of (pe_or ha hb) fun σ H Q ⟨m, env, s, ag, q⟩ => ?_
  refine sem_k ag (R.post_bind q) fun d s1 v m1 H1 q1 l1 a1 r1 => ?_
  cases r1 <;> first | exact q1.elim | skip
  rename_i k
  cases k with
  | true => exact ⟨true, rfl, iteT (q1 _ m1 H1 l1 a1.hold (.bl true))⟩
  | false => exact ⟨false, rfl, iteF ⟨m1, env, s1, a1, R.post_mono q1 (fun _ _ z => z.le l1) fun _ _ _ z => z.le l1⟩⟩
theorem s_not (ha : PE X a (sem g W f)) : PE X (.UnaryOp .Not a pos) (sem g W (eNo f)) := by
  refine PE.of (pe_not ha) fun σ H Q ⟨m, env, s, ag, q⟩ => ?_
  refine sem_k ag (R.post_bind q) fun d s1 v m1 H1 q1 l1 a1 r1 => ?_
  cases r1 <;> first | exact q1.elim | skip
  exact ⟨_, rfl, q1 _ m1 H1 l1 a1.hold (.bl _)⟩
def eIf (fb : EB) (f f' : EX) : EX := fun env s => (fb env s).bind fun b s1 => if b = true then f env s1 else f' env s1
theorem s_if {c : Expr} (hc : PT X c (semB g W fb)) (ha : PE X a (sem g W f)) (hb : PE X b (sem g W f')) : PE X (.IfExp c a b pos) (sem g W (eIf fb f f')) := by
  refine PE.of (pe_ifExp hc ha hb) fun σ H Q ⟨m, env, s, ag, q⟩ => ?_
  refine semB_k ag (R.post_bind q) fun d s1 m1 H1 q1 l1 a1 => ?_
  cases d with
  | true => exact iteT ⟨m1, env, s1, a1, R.post_mono q1 (fun _ _ z => z.le l1) fun _ _ _ z => z.le l1⟩
  | false => exact iteF ⟨m1, env, s1, a1, R.post_mono q1 (fun _ _ z => z.le l1) fun _ _ _ z => z.le l1⟩
/-- a < b < c -/
def eCh (o o' : OP2) (f f' f'' : EX) : EX := fun env s => (f env s).bind fun d s1 => (f' env s1).bind fun e s2 => (R.of (o d e s2)).bind fun k s3 => match k with
  | .bl true => (f'' env s3).bind fun c s4 => (R.of (o' e c s4)).bind fun k s5 => match k with
    | .bl b => .ok (.bl b) s5
    | _ => .no
  | .bl false => .ok (.bl false) s3
  | _ => .no
end
end Mi

set_option Elab.async false
set_option linter.all false
set_option maxRecDepth 100000
namespace Mi
open PySem PySem.Spec PyProof.Rows L2

section
variable {g : G} {m : List Addr} {H : Hp} {s : S} {Q : VK} {p : Addr} {xs : List V} {ds : List D}
theorem line_ok {n : Nat} (h : n ≤ 16777216) : n ≤ sizeLine := by rw [sizeLine_eq]; exact h
theorem line_of {n : Nat} (h : n ≤ sizeLine) : n ≤ 16777216 := by rw [sizeLine_eq] at h; exact h
theorem new_tup (hold : Hold g m s H) (e : H p = none) (r : Reps g m H xs ds) (q : PD g m H Q (.tup ds) s) : Q (.ref p) (upd H p (.tup xs)) :=
  q (.ref p) m _ (Le.aside hold e) (hold.aside e) (.tup (.inl ⟨upd_same, hold.free e⟩) (r.le (Le.aside hold e)))
theorem new_lst (hold : Hold g m s H) (e : H p = none) (r : Reps g m H xs ds) (q : PD g m H Q (.ref s.length) (s ++ [.lst ds])) : Q (.ref p) (upd H p (.lst xs)) :=
  q (.ref p) (m ++ [p]) _ (Le.new hold e) (hold.new e ⟨xs, upd_same, r.le (Le.new hold e)⟩) (.ref (by rw [← hold.len, List.getElem?_append_right (Nat.le_refl _), Nat.sub_self]; rfl))
theorem PD.here (hold : Hold g m s H) {v : V} {d : D} (r : Rep g m H v d) (q : PD g m H Q d s) : Q v H := q v m H (Le.refl m H) hold r
theorem rep_int {v : V} {i : Int} (r : Rep g m H v (.int i)) : v = .int i := by cases r; rfl
theorem rep_bl {v : V} {b : Bool} (r : Rep g m H v (.bl b)) : v = .bl b := by cases r; rfl
theorem rep_str {v : V} {x : Str} (r : Rep g m H v (.str x)) : v = .str x := by cases r; rfl
theorem rep_non {v : V} (r : Rep g m H v .non) : v = .non := by cases r; rfl
theorem rep_tup {v : V} (r : Rep g m H v (.tup ds)) : ∃ a xs, v = .ref a ∧ RdT g m H a xs ∧ Reps g m H xs ds := by cases r with | tup h r => exact ⟨_, _, rfl, h, r⟩
theorem rep_rol {v : V} (r : Rep g m H v (.rol ds)) : ∃ a xs, v = .ref a ∧ RdL g m H a xs ∧ Reps g m H xs ds := by cases r with | rol h r => exact ⟨_, _, rfl, h, r⟩
theorem rep_ref {v : V} {i : Nat} (r : Rep g m H v (.ref i)) : ∃ a, v = .ref a ∧ m[i]? = some a := by cases r with | ref h => exact ⟨_, rfl, h⟩
theorem rep_lst {v : V} {i : Nat} (hold : Hold g m s H) (r : Rep g m H v (.ref i)) (e : s[i]? = some (.lst ds)) : ∃ a xs, v = .ref a ∧ m[i]? = some a ∧ H a = some (.lst xs) ∧ Reps g m H xs ds := by
  obtain ⟨a, rfl, h⟩ := rep_ref r
  obtain ⟨xs, e1, r1⟩ := hold.obj i a _ h e
  exact ⟨a, xs, rfl, h, e1, r1⟩
end

/-! ### arithmetic -/
def opI (C : Int → Int → Bool) (k : Int → Int → D) : OP2 := fun d e s => match d, e with
  | .int i, .int j => if C i j = true then some (k i j, s) else none
  | _, _ => none
theorem opI_some {C : Int → Int → Bool} {k : Int → Int → D} {d e x : D} {s s' : S} (h : opI C k d e s = some (x, s')) : ∃ i j, d = .int i ∧ e = .int j ∧ C i j = true ∧ x = k i j ∧ s' = s := by
  unfold opI at h
  split at h
  · rename_i i j
    by_cases c : C i j = true
    · rw [if_pos c] at h; cases h; exact ⟨i, j, rfl, rfl, c, rfl, rfl⟩
    · rw [if_neg c] at h; cases h
  · cases h
theorem o2_I {g : G} {P : Int → Int → Prop} {f : Int → Int → V} {C : Int → Int → Bool} {k : Int → Int → D} (hC : ∀ i j, C i j = true → P i j) (hk : ∀ m H i j, C i j = true → Rep g m H (f i j) (k i j)) : O2 g (rI P f) (opI C k) := by
  intro m H s v w d e x s' Q hold rv rw he q
  obtain ⟨i, j, rfl, rfl, c, rfl, rfl⟩ := opI_some he
  exact ⟨i, j, rep_int rv, rep_int rw, hC i j c, PD.here hold (hk m H i j c) q⟩
theorem o2_I0 {g : G} {f : Int → Int → V} {k : Int → Int → D} (hk : ∀ m H i j, Rep g m H (f i j) (k i j)) : O2 g (rI0 f) (opI (fun _ _ => true) k) := by
  intro m H s v w d e x s' Q hold rv rw he q
  obtain ⟨i, j, rfl, rfl, c, rfl, rfl⟩ := opI_some he
  exact ⟨i, j, rep_int rv, rep_int rw, PD.here hold (hk m H i j) q⟩
abbrev subD : OP2 := opI (fun _ _ => true) fun i j => .int (i - j)
abbrev modD : OP2 := opI (fun _ j => decide (0 < j)) fun i j => .int (i % j)
abbrev divD : OP2 := opI (fun _ j => decide (0 < j ∧ j < 1073741824)) fun i j => .int (i / j)
abbrev divWD : OP2 := opI (fun _ j => decide (0 < j ∧ j.natAbs.log2 < 9000)) fun i j => .int (i / j)
abbrev powD : OP2 := opI (fun i j => decide (0 ≤ j ∧ j ≤ 1000000 ∧ i.natAbs < 2 ^ 64)) fun i j => .int (i ^ j.toNat)
abbrev shlD : OP2 := opI (fun i j => decide (0 ≤ j ∧ j ≤ 1000000 ∧ i.natAbs < 2 ^ 64)) fun i j => .int (i * 2 ^ j.toNat)
abbrev andD : OP2 := opI (fun _ _ => true) fun i j => .int (Builtin.bitAnd i j)
abbrev orD : OP2 := opI (fun _ _ => true) fun i j => .int (Builtin.bitOr i j)
abbrev xorD : OP2 := opI (fun _ _ => true) fun i j => .int (Builtin.bitXor i j)
abbrev ltD : OP2 := opI (fun _ _ => true) fun i j => .bl (decide (i < j))
abbrev leD : OP2 := opI (fun _ _ => true) fun i j => .bl (decide (i ≤ j))
abbrev gtD : OP2 := opI (fun _ _ => true) fun i j => .bl (decide (j < i))
abbrev geD : OP2 := opI (fun _ _ => true) fun i j => .bl (decide (j ≤ i))
section
variable {g : G} {X : Cx}
theorem o2_sub : O2 g (rI0 fun i j => .int (i - j)) subD := o2_I0 fun _ _ _ _ => .int _
theorem o2_mod : O2 g (rI (fun _ j => 0 < j) fun i j => .int (i % j)) modD := o2_I (fun _ _ h => of_decide_eq_true h) fun _ _ _ _ _ => .int _
theorem o2_div : O2 g (rI CDiv fun i j => .int (i / j)) divD := o2_I (fun _ _ h => (by have z := of_decide_eq_true h; exact z)) fun _ _ _ _ _ => .int _
theorem o2_divW : O2 g (rI CDivW fun i j => .int (i / j)) divWD := o2_I (fun _ _ h => (by have z := of_decide_eq_true h; exact z)) fun _ _ _ _ _ => .int _
theorem o2_pow : O2 g (rI CPow fun i j => .int (i ^ j.toNat)) powD := o2_I (fun _ _ h => (by have z := of_decide_eq_true h; exact z)) fun _ _ _ _ _ => .int _
theorem o2_shl : O2 g (rI CPow fun i j => .int (i * 2 ^ j.toNat)) shlD := o2_I (fun _ _ h => (by have z := of_decide_eq_true h; exact z)) fun _ _ _ _ _ => .int _
theorem o2_and : O2 g (rI0 fun i j => .int (Builtin.bitAnd i j)) andD := o2_I0 fun _ _ _ _ => .int _
theorem o2_or : O2 g (rI0 fun i j => .int (Builtin.bitOr i j)) orD := o2_I0 fun _ _ _ _ => .int _
theorem o2_xor : O2 g (rI0 fun i j => .int (Builtin.bitXor i j)) xorD := o2_I0 fun _ _ _ _ => .int _
theorem o2_lt : O2 g (rI0 fun i j => .bl (decide (i < j))) ltD := o2_I0 fun _ _ _ _ => .bl _
theorem o2_le : O2 g (rI0 fun i j => .bl (decide (i ≤ j))) leD := o2_I0 fun _ _ _ _ => .bl _
theorem o2_gt : O2 g (rI0 fun i j => .bl (decide (j < i))) gtD := o2_I0 fun _ _ _ _ => .bl _
theorem o2_ge : O2 g (rI0 fun i j => .bl (decide (j ≤ i))) geD := o2_I0 fun _ _ _ _ => .bl _

/-! a + b, a * b by kinds -/
def addD : OP2 := fun d e s => match d, e with
  | .int i, .int j => some (.int (i + j), s)
  | .str x, .str y => if x.length + y.length ≤ 16777216 then some (.str (x ++ y), s) else none
  | .tup xs, .tup ys => if xs.length + ys.length ≤ 16777216 then some (.tup (xs ++ ys), s) else none
  | .ref p, .ref q => match s[p]?, s[q]? with
    | some (.lst xs), some (.lst ys) => if xs.length + ys.length ≤ 16777216 then some (.ref s.length, s ++ [.lst (xs ++ ys)]) else none
    | _, _ => none
  | _, _ => none
def rAddA (K : PySem.W.Frag) : R2 := fun x y H Q => (rI0 fun i j => .int (i + j)) x y H Q ∨ (∃ i j, x = .str i ∧ y = .str j ∧ i.length + j.length ≤ sizeLine ∧ Q (.str (i ++ j)) H) ∨ rCatA K x y H Q ∨ rCat x y H Q
theorem op_addA : OpR X (binaryOp .Add) (rAddA X.K) := op_add.or (op_add_str.or (op_catA.or op_cat))
theorem o2_add : O2 g (rAddA g.K) addD := by
  intro m H s v w d e x s' Q hold rv rw he q
  unfold addD at he
  split at he
  · cases he
    exact .inl ⟨_, _, rep_int rv, rep_int rw, PD.here hold (.int _) q⟩
  · rename_i x y
    by_cases c : x.length + y.length ≤ 16777216
    · rw [if_pos c] at he; cases he
      exact .inr (.inl ⟨_, _, rep_str rv, rep_str rw, line_ok c, PD.here hold (.str _) q⟩)
    · rw [if_neg c] at he; cases he
  · rename_i xs ys
    by_cases c : xs.length + ys.length ≤ 16777216
    · rw [if_pos c] at he; cases he
      obtain ⟨a, vs, rfl, h1, r1⟩ := rep_tup rv
      obtain ⟨b, ws, rfl, h2, r2⟩ := rep_tup rw
      refine .inr (.inr (.inl ⟨a, b, vs, ws, rfl, rfl, h1.sq, h2.sq, line_ok (by rw [r1.length, r2.length]; exact c), fun e => ?_, fun _ e => ?_, fun _ _ p hp => ?_⟩))
      · subst e; cases r1; exact PD.here hold (.tup h2 r2) q
      · subst e; cases r2; rw [List.append_nil] at q; exact PD.here hold (.tup h1 r1) q
      · exact new_tup hold hp (r1.append r2) q
    · rw [if_neg c] at he; cases he
  · rename_i i j
    split at he
    · rename_i xs ys e1 e2
      by_cases c : xs.length + ys.length ≤ 16777216
      · rw [if_pos c] at he; cases he
        obtain ⟨a, vs, rfl, _, h1, r1⟩ := rep_lst hold rv e1
        obtain ⟨b, ws, rfl, _, h2, r2⟩ := rep_lst hold rw e2
        exact .inr (.inr (.inr ⟨a, b, vs, ws, rfl, rfl, h1, h2, line_ok (by rw [r1.length, r2.length]; exact c), fun p hp => new_lst hold hp (r1.append r2) q⟩))
      · rw [if_neg c] at he; cases he
    · cases he
  · cases he
def repD {α : Type} (n : Nat) (xs : List α) : List α := (List.replicate n xs).flatten
def mulD : OP2 := fun d e s => match d, e with
  | .int i, .int j => if (-(2 ^ 64) < i ∧ i < 2 ^ 64) ∨ (-(2 ^ 64) < j ∧ j < 2 ^ 64) then some (.int (i * j), s) else none
  | .ref p, .int k => match s[p]? with
    | some (.lst xs) => if k < 2 ^ 63 ∧ -(2 ^ 63) ≤ k ∧ xs.length * k.toNat ≤ 16777216 then some (.ref s.length, s ++ [.lst (repD k.toNat xs)]) else none
    | _ => none
  | _, _ => none
theorem Reps.rep {m : List Addr} {H : Hp} {xs : List V} {ds : List D} (r : Reps g m H xs ds) : ∀ n, Reps g m H (repD n xs) (repD n ds)
  | 0 => .nil
  | n + 1 => by
    unfold repD
    rw [List.replicate_succ, List.replicate_succ, List.flatten_cons, List.flatten_cons]
    exact r.append (Reps.rep r n)
def rMulA : R2 := fun x y H Q => (rI CMul fun i j => .int (i * j)) x y H Q ∨ rRep x y H Q
theorem op_mulA : OpR X (binaryOp .Mult) rMulA := op_mul.or op_rep
theorem o2_mul : O2 g rMulA mulD := by
  intro m H s v w d e x s' Q hold rv rw he q
  unfold mulD at he
  split at he
  · rename_i i j
    by_cases c : (-(2 ^ 64) < i ∧ i < 2 ^ 64) ∨ (-(2 ^ 64) < j ∧ j < 2 ^ 64)
    · rw [if_pos c] at he; cases he
      exact .inl ⟨_, _, rep_int rv, rep_int rw, c, PD.here hold (.int _) q⟩
    · rw [if_neg c] at he; cases he
  · rename_i i k
    split at he
    · rename_i xs e1
      by_cases c : k < 2 ^ 63 ∧ -(2 ^ 63) ≤ k ∧ xs.length * k.toNat ≤ 16777216
      · rw [if_pos c] at he; cases he
        obtain ⟨a, vs, rfl, _, h1, r1⟩ := rep_lst hold rv e1
        exact .inr ⟨a, k, vs, rfl, rep_int rw, h1, c.2.1, c.1, line_ok (by rw [r1.length]; exact c.2.2), fun p hp => new_lst hold hp (r1.rep k.toNat) q⟩
      · rw [if_neg c] at he; cases he
    · cases he
  · cases he

/-! == and != -/
def toP : Nat → S → D → Option PyData
  | 0, _, _ => none
  | n + 1, s, d => match d with
    | .non => some .none
    | .bl b => some (.bool b)
    | .int i => some (.int i)
    | .str x => some (.str x)
    | .tup ds => (ds.mapM (toP n s)).map .tuple
    | .rol ds => (ds.mapM (toP n s)).map .list
    | .ref p => match s[p]? with
      | some (.lst ds) => (ds.mapM (toP n s)).map .list
      | _ => none
    | _ => none
theorem dpAll_of {m : List Addr} {H : Hp} {F : D → Option PyData} : ∀ {xs : List V} {ds : List D} {ps : List PyData}, Reps g m H xs ds → ds.mapM F = some ps →
    (∀ x d p, Rep g m H x d → F d = some p → Dp g.K H x p) → DpAll g.K H xs ps
  | _, _, _, .nil, h, _ => by cases h; exact .nil
  | _, _, _, .cons (d := d) (ds := ds) r t, h, k => by
    rw [List.mapM_cons] at h
    cases e1 : F d with
    | none => rw [e1] at h; cases h
    | some p =>
      cases e2 : ds.mapM F with
      | none => rw [e1, e2] at h; cases h
      | some ps =>
        rw [e1, e2] at h
        cases h
        exact .cons (k _ _ _ r e1) (dpAll_of t e2 k)
theorem toP_ok {m : List Addr} {H : Hp} {s : S} (hold : Hold g m s H) : ∀ (n : Nat) (x : V) (d : D) (p : PyData), Rep g m H x d → toP n s d = some p → Dp g.K H x p
  | 0, _, _, _, _, h => by cases h
  | n + 1, x, d, p, r, h => by
    cases r with
    | non => cases h; exact .non
    | bl b => cases h; exact .bl b
    | int i => cases h; exact .int i
    | str y => cases h; exact .str y
    | ty y => cases h
    | glo z => cases h
    | @tup a xs ds z q =>
      have h : (ds.mapM (toP n s)).map PyData.tuple = some p := h
      cases e : ds.mapM (toP n s) with
      | none => rw [e] at h; cases h
      | some ps => rw [e] at h; cases h; exact .tup z.sq (dpAll_of q e fun x d p r h => toP_ok hold n x d p r h)
    | @rol a xs ds z q =>
      have h : (ds.mapM (toP n s)).map PyData.list = some p := h
      cases e : ds.mapM (toP n s) with
      | none => rw [e] at h; cases h
      | some ps => rw [e] at h; cases h; exact .lst z.sq (dpAll_of q e fun x d p r h => toP_ok hold n x d p r h)
    | @ref a i z =>
      have h : (match s[i]? with
        | some (.lst ds) => (ds.mapM (toP n s)).map PyData.list
        | _ => none) = some p := h
      split at h
      · rename_i ds e1
        obtain ⟨xs, e2, q⟩ := hold.obj i a _ z e1
        cases e : ds.mapM (toP n s) with
        | none => rw [e] at h; cases h
        | some ps => rw [e] at h; cases h; exact .lst (.of e2) (dpAll_of q e fun x d p r h => toP_ok hold n x d p r h)
      · cases h
/-- scalars of one kind, or none beside one: by their terms -/
def eqS : D → D → Option Bool
  | .non, .non => some true
  | .int i, .int j => some (decide (i = j))
  | .bl i, .bl j => some (decide (i = j))
  | .str i, .str j => some (decide (i = j))
  | .non, .int _ => some false | .int _, .non => some false
  | .non, .bl _ => some false | .bl _, .non => some false
  | .non, .str _ => some false | .str _, .non => some false
  | .int _, .str _ => some false | .str _, .int _ => some false
  | .bl _, .str _ => some false | .str _, .bl _ => some false
  | _, _ => none
def eqB (d e : D) (s : S) : Option Bool := match eqS d e with
  | some b => some b
  | none => match toP 60 s d, toP 60 s e with
    | some p, some q => if SeqAt.shaped p && SeqAt.shaped q then some (PyData.eqv p q) else none
    | _, _ => none
def eqD : OP2 := fun d e s => match eqB d e s with
  | some b => some (.bl b, s)
  | none => none
def neD : OP2 := fun d e s => match eqB d e s with
  | some b => some (.bl (!b), s)
  | none => none
def rEqA (K : PySem.W.Frag) : R2 := fun x y H Q => rEq x y H Q ∨ rEqD K x y H Q
def rNeA (K : PySem.W.Frag) : R2 := fun x y H Q => rNe x y H Q ∨ rNeD K x y H Q
theorem op_eqA (hu : X.A.units + 64 < cLine) : OpR X (compareOp .Eq) (rEqA X.K) := op_eq.or (op_eqD hu)
theorem op_neA (hu : X.A.units + 64 < cLine) : OpR X (compareOp .NotEq) (rNeA X.K) := op_ne.or (op_neD hu)
theorem eqS_ok {m : List Addr} {H : Hp} {d e : D} {b : Bool} {v w : V} (h : eqS d e = some b) (rv : Rep g m H v d) (rw : Rep g m H w e) : scal v w = true ∧ b = decide (v = w) := by
  cases rv <;> cases rw <;> first
    | (cases h; done)
    | (cases h; exact ⟨rfl, by simp⟩)
theorem eqB_ok {m : List Addr} {H : Hp} {s : S} (hold : Hold g m s H) {d e : D} {b : Bool} {v w : V} (h : eqB d e s = some b) (rv : Rep g m H v d) (rw : Rep g m H w e) :
    (scal v w = true ∧ b = decide (v = w)) ∨ (∃ p q, Dp g.K H v p ∧ Dp g.K H w q ∧ SeqAt.shaped p = true ∧ SeqAt.shaped q = true ∧ b = PyData.eqv p q) := by
  unfold eqB at h
  split at h
  · rename_i b' hb
    cases h
    exact .inl (eqS_ok hb rv rw)
  · split at h
    · rename_i p q h1 h2
      by_cases c : (SeqAt.shaped p && SeqAt.shaped q) = true
      · rw [if_pos c] at h; cases h
        rw [Bool.and_eq_true] at c
        exact .inr ⟨p, q, toP_ok hold _ _ _ _ rv h1, toP_ok hold _ _ _ _ rw h2, c.1, c.2, rfl⟩
      · rw [if_neg c] at h; cases h
    · cases h
theorem o2_eq : O2 g (rEqA g.K) eqD := by
  intro m H s v w d e x s' Q hold rv rw he q
  unfold eqD at he
  split at he
  · rename_i b hb
    cases he
    rcases eqB_ok hold hb rv rw with ⟨h1, rfl⟩ | ⟨p, p', h1, h2, h3, h4, rfl⟩
    · exact .inl ⟨h1, PD.here hold (.bl _) q⟩
    · exact .inr ⟨p, p', h1, h2, h3, h4, PD.here hold (.bl _) q⟩
  · cases he
theorem o2_ne : O2 g (rNeA g.K) neD := by
  intro m H s v w d e x s' Q hold rv rw he q
  unfold neD at he
  split at he
  · rename_i b hb
    cases he
    rcases eqB_ok hold hb rv rw with ⟨h1, rfl⟩ | ⟨p, p', h1, h2, h3, h4, rfl⟩
    · exact .inl ⟨h1, PD.here hold (.bl _) q⟩
    · exact .inr ⟨p, p', h1, h2, h3, h4, PD.here hold (.bl _) q⟩
  · cases he

/-! is None, is True -/
def isD : OP2 := fun d e s => match d, e with
  | d, .non => some (.bl (match d with | .non => true | _ => false), s)
  | .bl a, .bl b => some (.bl (decide (a = b)), s)
  | _, _ => none
def isNotD : OP2 := fun d e s => match d, e with
  | d, .non => some (.bl (match d with | .non => false | _ => true), s)
  | .bl a, .bl b => some (.bl (!decide (a = b)), s)
  | _, _ => none
def rIsA : R2 := fun x y H Q => (y = .non ∧ Q (.bl (decide (x = .non))) H) ∨ (∃ a b, x = .bl a ∧ y = .bl b ∧ Q (.bl (decide (a = b))) H)
def rIsNotA : R2 := fun x y H Q => (y = .non ∧ Q (.bl (!decide (x = .non))) H) ∨ (∃ a b, x = .bl a ∧ y = .bl b ∧ Q (.bl (!decide (a = b))) H)
theorem op_isA : OpR X (compareOp .Is) rIsA := op_isN.or op_is_bl
theorem op_isNotA : OpR X (compareOp .IsNot) rIsNotA := op_notN.or op_isnot_bl
theorem o2_is : O2 g rIsA isD := by
  intro m H s v w d e x s' Q hold rv rw he q
  unfold isD at he
  split at he
  · cases he
    refine .inl ⟨rep_non rw, PD.here hold ?_ q⟩
    cases rv <;> simp <;> exact .bl _
  · cases he
    exact .inr ⟨_, _, rep_bl rv, rep_bl rw, PD.here hold (.bl _) q⟩
  · cases he
theorem o2_isNot : O2 g rIsNotA isNotD := by
  intro m H s v w d e x s' Q hold rv rw he q
  unfold isNotD at he
  split at he
  · cases he
    refine .inl ⟨rep_non rw, PD.here hold ?_ q⟩
    cases rv <;> simp <;> exact .bl _
  · cases he
    exact .inr ⟨_, _, rep_bl rv, rep_bl rw, PD.here hold (.bl _) q⟩
  · cases he

/-! in: a list or tuple of flat things -/
def flatD : D → Bool
  | .non | .bl _ | .int _ | .str _ => true
  | _ => false
def eqF : D → D → Bool
  | .non, .non => true
  | .bl a, .bl b => a == b
  | .bl a, .int b => (if a then 1 else 0) == b
  | .int a, .bl b => a == (if b then 1 else 0)
  | .int a, .int b => a == b
  | .str a, .str b => a == b
  | _, _ => false
def itemsD (d : D) (s : S) : Option (List D) := match d with
  | .tup ds => some ds
  | .rol ds => some ds
  | .ref p => match s[p]? with
    | some (.lst ds) => some ds
    | _ => none
  | _ => none
def inD (neg : Bool) : OP2 := fun d e s => match itemsD e s with
  | some ds => if flatD d && ds.all flatD then some (.bl (if neg then !(ds.any fun y => eqF y d) else ds.any fun y => eqF y d), s) else none
  | none => none
theorem flat_ok {m : List Addr} {H : Hp} {v : V} {d : D} (r : Rep g m H v d) : flatV v = flatD d ∨ flatD d = false := by cases r <;> first | exact .inl rfl | exact .inr rfl
theorem flat_rep {m : List Addr} {H : Hp} {v : V} {d : D} (r : Rep g m H v d) (h : flatD d = true) : flatV v = true := by cases r <;> first | rfl | cases h
theorem flats_rep {m : List Addr} {H : Hp} : ∀ {vs : List V} {ds : List D}, Reps g m H vs ds → ds.all flatD = true → vs.all flatV = true
  | _, _, .nil, _ => rfl
  | _, _, .cons r t, h => by
    rw [List.all_cons, Bool.and_eq_true] at h ⊢
    exact ⟨flat_rep r h.1, flats_rep t h.2⟩
theorem eqF_rep {m : List Addr} {H : Hp} {v w : V} {d e : D} (r : Rep g m H v d) (r' : Rep g m H w e) (h : flatD d = true) (h' : flatD e = true) : eqV v w = eqF d e := by
  cases r <;> first | (cases h; done) | (cases r' <;> first | (cases h'; done) | rfl)
theorem inV_rep {m : List Addr} {H : Hp} {v : V} {d : D} (r : Rep g m H v d) (h : flatD d = true) : ∀ {vs : List V} {ds : List D}, Reps g m H vs ds → ds.all flatD = true → inV v vs = ds.any fun y => eqF y d
  | _, _, .nil, _ => rfl
  | _, _, .cons q t, h' => by
    rw [List.all_cons, Bool.and_eq_true] at h'
    unfold inV
    rw [List.any_cons, List.any_cons, eqF_rep q r h'.1 h]
    have := inV_rep r h t h'.2
    unfold inV at this
    rw [this]
/-- a sequence as it is read -/
theorem items_rep {m : List Addr} {H : Hp} {s : S} {v : V} {d : D} {ds : List D} (hold : Hold g m s H) (r : Rep g m H v d) (h : itemsD d s = some ds) : ∃ p xs, v = .ref p ∧ (SqL g.K H p xs ∨ SqT g.K H p xs) ∧ Reps g m H xs ds := by
  cases r with
  | tup z q => cases h; exact ⟨_, _, rfl, .inr z.sq, q⟩
  | rol z q => cases h; exact ⟨_, _, rfl, .inl z.sq, q⟩
  | @ref a i z =>
    have h : (match s[i]? with
      | some (.lst ds) => some ds
      | _ => none) = some ds := h
    split at h
    · rename_i e1
      cases h
      obtain ⟨xs, e2, q⟩ := hold.obj i a _ z e1
      exact ⟨a, xs, rfl, .inl (.of e2), q⟩
    · cases h
  | _ => cases h
theorem o2_in {neg : Bool} : O2 g (rIn g.K neg) (inD neg) := by
  intro m H s v w d e x s' Q hold rv rw he q
  unfold inD at he
  split at he
  · rename_i ds hd
    by_cases c : (flatD d && ds.all flatD) = true
    · rw [if_pos c] at he; cases he
      rw [Bool.and_eq_true] at c
      obtain ⟨p, xs, rfl, hq, rs⟩ := items_rep hold rw hd
      refine ⟨p, xs, rfl, hq, flat_rep rv c.1, flats_rep rs c.2, ?_⟩
      rw [inV_rep rv c.1 rs c.2]
      exact PD.here hold (.bl _) q
    · rw [if_neg c] at he; cases he
  · cases he

/-! xs[i] -/
def ixD : OP2 := fun d e s => match d, e with
  | .str z, .int i => if z.length ≤ 16777216 then (match atI z.cps.toList i with | some c => some (.str ⟨#[c]⟩, s) | none => none) else none
  | d, .int i => match itemsD d s with
    | some ds => (match atI ds i with | some x => some (x, s) | none => none)
    | none => none
  | _, _ => none
theorem atI_rep {m : List Addr} {H : Hp} {xs : List V} {ds : List D} {i : Int} {d : D} (r : Reps g m H xs ds) (h : atI ds i = some d) : ∃ v, atI xs i = some v ∧ Rep g m H v d := by
  unfold atI at h ⊢
  rw [← r.length] at h
  cases e : ixN xs.length i with
  | none => rw [e] at h; cases h
  | some j =>
    rw [e] at h
    exact r.get h
theorem o2_ix : O2 g (rIx g.K) ixD := by
  intro m H s v w d e x s' Q hold rv rw he q
  unfold ixD at he
  split at he
  · rename_i z i
    by_cases c : z.length ≤ 16777216
    · rw [if_pos c] at he
      split at he
      · rename_i c' hc
        cases he
        exact .inr (.inr ⟨z, i, c', rep_str rv, rep_int rw, line_ok c, hc, PD.here hold (.str _) q⟩)
      · cases he
    · rw [if_neg c] at he; cases he
  · rename_i d' i _
    split at he
    · rename_i ds hd
      split at he
      · rename_i y hy
        cases he
        obtain ⟨p, xs, rfl, hq, rs⟩ := items_rep hold rv hd
        obtain ⟨y', h1, h2⟩ := atI_rep rs hy
        rcases hq with hq | hq
        · exact .inl ⟨p, xs, i, y', rfl, rep_int rw, hq, h1, PD.here hold h2 q⟩
        · exact .inr (.inl ⟨p, xs, i, y', rfl, rep_int rw, hq, h1, PD.here hold h2 q⟩)
      · cases he
    · cases he
  · cases he
end
end Mi

set_option Elab.async false
set_option linter.all false
set_option maxRecDepth 100000
namespace Mi
open PySem PySem.Spec PyProof.Rows L2

/-! ### arguments, displays, calls -/
def aN : EA := fun _ s => .ok [] s
def aC (f : EX) (fa : EA) : EA := fun env s => (f env s).bind fun d s1 => (fa env s1).bind fun ds s2 => .ok (d :: ds) s2
def eTup (fa : EA) : EX := fun env s => (fa env s).bind fun ds s1 => if ds.length ≤ 16777216 then .ok (.tup ds) s1 else .no
def eLst (fa : EA) : EX := fun env s => (fa env s).bind fun ds s1 => if ds.length ≤ 16777216 then .ok (.ref s1.length) (s1 ++ [.lst ds]) else .no
abbrev FN := List D → S → R D
def eCall (n : Nat) (F : FN) (fa : EA) : EX := fun env s => (fa env s).bind fun ds s1 => if ds.length = n then F ds s1 else .no
abbrev OPN := List D → S → Option (D × S)
def eB (o : OPN) (fa : EA) : EX := fun env s => (fa env s).bind fun ds s1 => R.of (o ds s1)
abbrev RN := List V → Hp → VK → Prop
def ON (g : G) (r : RN) (o : OPN) : Prop := ∀ (m : List Addr) (H : Hp) (s : S) (vs : List V) (ds : List D) (x : D) (s' : S) (Q : VK), Hold g m s H → Reps g m H vs ds → o ds s = some (x, s') → PD g m H Q x s' → r vs H Q
theorem ON.or {g : G} {r r' : RN} {o o' : OPN} (h : ON g r o) (h' : ON g r' o') : ON g (fun vs H Q => r vs H Q ∨ r' vs H Q) (fun ds s => match o ds s with | some x => some x | none => o' ds s) := by
  intro m H s vs ds x s' Q hold rv he q
  have he : (match o ds s with | some x => some x | none => o' ds s) = some (x, s') := he
  cases h1 : o ds s with
  | some z =>
    rw [h1] at he
    exact .inl (h m H s vs ds x s' Q hold rv (h1.trans he) q)
  | none =>
    rw [h1] at he
    exact .inr (h' m H s vs ds x s' Q hold rv he q)
/-- what a def of the program promises: it does F -/
def spF (g : G) (n : Nat) (F : FN) : Sp := fun vs H Q E => ∃ m s ds, ds.length = n ∧ Hold g m s H ∧ Reps g m H vs ds ∧ (F ds s).post (PD g m H Q) (WX g m H E)
section
variable {X : Cx} {g : G} {W : XK} {f f' : EX} {fa : EA} {e : Expr} {es : List Expr} {pos : Pos}
theorem a_nil : PA X [] (semA g W aN) := PA.of pa_nil fun _ H Q ⟨m, env, s, a, q⟩ => q [] m H (Le.refl m H) a.hold .nil
theorem a_cons (h : PE X e (sem g W f)) (hr : PA X es (semA g W fa)) (hs : starEach (e :: es) X.env = (false, eval e X.env) :: starEach es X.env := by rfl) : PA X (e :: es) (semA g W (aC f fa)) := by
  refine PA.of (pa_cons h hr hs) fun σ H Q ⟨m, env, s, ag, q⟩ => ?_
  refine sem_k ag (R.post_bind q) fun d s1 v m1 H1 q1 l1 a1 r1 => ?_
  refine semA_k a1 (R.post_mono (R.post_bind q1) (fun _ _ z => z) fun _ _ _ z => z.le l1) fun ds s2 vs m2 H2 q2 l2 a2 r2 => ?_
  exact q2 (v :: vs) m2 H2 (l1.trans l2) a2.hold (.cons (r1.le l2) r2)
theorem s_tup {x1} (h : PA X es (semA g W fa)) : PE X (.Tuple es x1 pos) (sem g W (eTup fa)) := by
  refine PE.of (pe_tup h) fun σ H Q ⟨m, env, s, ag, q⟩ => ?_
  refine semA_k ag (R.post_bind q) fun ds s1 vs m1 H1 q1 l1 a1 r1 => ?_
  by_cases c : ds.length ≤ 16777216
  · rw [if_pos c] at q1
    exact ⟨line_ok (by rw [r1.length]; exact c), fun p hp => new_tup a1.hold hp r1 (PD.le l1 q1)⟩
  · rw [if_neg c] at q1; exact q1.elim
theorem s_lst (h : PA X es (semA g W fa)) : PE X (.List es pos) (sem g W (eLst fa)) := by
  refine PE.of (pe_lst h) fun σ H Q ⟨m, env, s, ag, q⟩ => ?_
  refine semA_k ag (R.post_bind q) fun ds s1 vs m1 H1 q1 l1 a1 r1 => ?_
  by_cases c : ds.length ≤ 16777216
  · rw [if_pos c] at q1
    exact ⟨line_ok (by rw [r1.length]; exact c), fun p hp => new_lst a1.hold hp r1 (PD.le l1 q1)⟩
  · rw [if_neg c] at q1; exact q1.elim
theorem sem_call {n : Nat} {F : FN} {σ : L2.St} {H : Hp} {Q : VK} (h : sem g W (eCall n F fa) σ H Q) : tCall (spF g n F) [] W (semA g W fa) σ H Q := by
  obtain ⟨m, env, s, ag, q⟩ := h
  refine semA_k ag (R.post_bind q) fun ds s1 vs m1 H1 q1 l1 a1 r1 => ?_
  by_cases c : ds.length = n
  · rw [if_pos c] at q1
    rw [List.append_nil]
    exact ⟨m1, s1, ds, c, a1.hold, r1, R.post_mono q1 (fun _ _ z => PD.le l1 z) fun _ _ _ z => WX.le l1 z⟩
  · rw [if_neg c] at q1; exact q1.elim
theorem s_call {n : Nat} {F : FN} (h : PE X e (tCall (spF g n F) [] W (semA g W fa))) : PE X e (sem g W (eCall n F fa)) := PE.of h fun _ _ _ q => sem_call q
theorem s_call0 {n : Nat} {F : FN} {p : Pos} {x : Str} (h : PE X e (fun _ H Q => spF g n F [] H Q W)) : PE X e (sem g W (eCall n F aN)) := by
  refine PE.of h fun σ H Q ⟨m, env, s, ag, q⟩ => ?_
  have q : (if ([] : List D).length = n then F [] s else .no).post (PD g m H Q) (WX g m H W) := q
  by_cases c : ([] : List D).length = n
  · rw [if_pos c] at q
    exact ⟨m, s, [], c, ag.hold, .nil, q⟩
  · rw [if_neg c] at q; exact q.elim
/-- a call of a built-in, by its rule -/
theorem s_blt {r : RN} {o : OPN} (h : PE X e (tCB r (semA g W fa))) (ho : ON g r o) : PE X e (sem g W (eB o fa)) := by
  refine PE.of h fun σ H Q ⟨m, env, s, ag, q⟩ => ?_
  refine semA_k ag (R.post_bind q) fun ds s1 vs m1 H1 q1 l1 a1 r1 => ?_
  obtain ⟨x, s', e1, q2⟩ := R.post_of q1
  exact ho m1 H1 s1 vs ds x s' Q a1.hold r1 e1 (PD.le l1 q2)
end

/-! ### built-in methods -/
abbrev OPM := D → List D → S → Option (D × S)
abbrev RM := V → List V → Hp → VK → Prop
def OM (g : G) (r : RM) (o : OPM) : Prop := ∀ (m : List Addr) (H : Hp) (s : S) (v : V) (vs : List V) (d : D) (ds : List D) (x : D) (s' : S) (Q : VK), Hold g m s H → Rep g m H v d → Reps g m H vs ds → o d ds s = some (x, s') → PD g m H Q x s' → r v vs H Q
/-- the receiver is of that built-in type -/
def tyD (T : String) (d : D) (s : S) : Bool := match d with
  | .str _ => T == "str"
  | .rol _ => T == "list"
  | .ref p => match s[p]? with
    | some (.lst _) => T == "list"
    | some (.dct _) => T == "dict"
    | some (.dtt _) => T == "dict"
    | _ => false
  | _ => false
def eM (T : String) (o : OPM) (f : EX) (fa : EA) : EX := fun env s => (f env s).bind fun d s1 => if tyD T d s1 = true then (fa env s1).bind fun ds s2 => R.of (o d ds s2) else .no
theorem tyD_ok {g : G} {m : List Addr} {H : Hp} {s : S} {v : V} {d : D} {T : String} (hold : Hold g m s H) (r : Rep g m H v d) (h : tyD T d s = true) : tyV g.K T v H := by
  cases r with
  | str x => exact eq_of_beq h
  | rol z q => exact .inl ⟨eq_of_beq h, _, z.sq⟩
  | @ref a i z =>
    have h : (match s[i]? with
      | some (.lst _) => T == "list"
      | some (.dct _) => T == "dict"
      | some (.dtt _) => T == "dict"
      | _ => false) = true := h
    split at h
    · rename_i ds e1
      obtain ⟨xs, e2, _⟩ := hold.obj i a _ z e1
      exact .inl ⟨eq_of_beq h, _, .of e2⟩
    · rename_i kvs e1
      obtain ⟨es, e2, _⟩ := hold.obj i a _ z e1
      exact .inr (.inr (.inl ⟨eq_of_beq h, .inl ⟨_, e2⟩⟩))
    · rename_i kvs e1
      obtain ⟨es, e2, _⟩ := hold.obj i a _ z e1
      exact .inr (.inr (.inl ⟨eq_of_beq h, .inr ⟨_, e2⟩⟩))
    · cases h
  | _ => cases h
section
variable {X : Cx} {g : G} {W : XK} {f f' : EX} {fa : EA} {e : Expr} {es : List Expr} {pos : Pos} {T : String} {r : RM} {o : OPM}
theorem s_meth (h : PE X e (tBM g.K T r (sem g W f) (semA g W fa))) (ho : OM g r o) : PE X e (sem g W (eM T o f fa)) := by
  refine PE.of h fun σ H Q ⟨m, env, s, ag, q⟩ => ?_
  refine sem_k ag (R.post_bind q) fun d s1 v m1 H1 q1 l1 a1 r1 => ?_
  by_cases c : tyD T d s1 = true
  · rw [if_pos c] at q1
    refine ⟨tyD_ok a1.hold r1 c, ?_⟩
    refine semA_k a1 (R.post_mono (R.post_bind q1) (fun _ _ z => z) fun _ _ _ z => z.le l1) fun ds s2 vs m2 H2 q2 l2 a2 r2 => ?_
    obtain ⟨x, s', e1, q3⟩ := R.post_of q2
    exact ho m2 H2 s2 v vs d ds x s' Q a2.hold (r1.le l2) r2 e1 (PD.le (l1.trans l2) q3)
  · rw [if_neg c] at q1; exact q1.elim
theorem s_meth0 (h : PE X e (tBM0 g.K T r (sem g W f))) (ho : OM g r o) : PE X e (sem g W (eM T o f aN)) := by
  refine PE.of h fun σ H Q ⟨m, env, s, ag, q⟩ => ?_
  refine sem_k ag (R.post_bind q) fun d s1 v m1 H1 q1 l1 a1 r1 => ?_
  by_cases c : tyD T d s1 = true
  · rw [if_pos c] at q1
    refine ⟨tyD_ok a1.hold r1 c, ?_⟩
    obtain ⟨x, s', e1, q3⟩ := R.post_of (show (R.of (o d [] s1)).post _ _ from q1)
    exact ho m1 H1 s1 v [] d [] x s' Q a1.hold r1 .nil e1 (PD.le l1 q3)
  · rw [if_neg c] at q1; exact q1.elim
end

/-! ### slices -/
abbrev EO := Env → S → R (Option Int)
def oN : EO := fun _ s => .ok none s
def oS (f : EX) : EO := fun env s => (f env s).bind fun d s1 => match d with
  | .int i => .ok (some i) s1
  | _ => .no
def PO' (g : G) (m : List Addr) (H : Hp) (Q : Option Int → Hp → Prop) : Option Int → S → Prop := fun o s => ∀ (m' : List Addr) (H' : Hp), Le m H m' H' → Hold g m' s H' → Q o H'
def semO (g : G) (W : XK) (f : EO) : TO := fun σ H Q => ∃ m env s, Ag g m σ H env s ∧ (f env s).post (PO' g m H Q) (WX g m H W)
def cutD (xs : List D) (lo hi : Option Int) : List D := (xs.drop (HT.sIx xs.length 0 lo)).take (HT.sIx xs.length xs.length hi - HT.sIx xs.length 0 lo)
def slD (d : D) (lo hi : Option Int) (s : S) : Option (D × S) := match d with
  | .str z => if z.length ≤ 16777216 then some (.str (cutS z lo hi), s) else none
  | .tup ds => some (.tup (cutD ds lo hi), s)
  | .rol ds => some (.ref s.length, s ++ [.lst (cutD ds lo hi)])
  | .ref p => match s[p]? with
    | some (.lst ds) => some (.ref s.length, s ++ [.lst (cutD ds lo hi)])
    | _ => none
  | _ => none
def eSl (f : EX) (l h : EO) : EX := fun env s => (f env s).bind fun d s1 => (l env s1).bind fun lo s2 => (h env s2).bind fun hi s3 => R.of (slD d lo hi s3)
def rSlAll (K : PySem.W.Frag) : V → Option Int → Option Int → Hp → VK → Prop := fun x lo hi H Q => rSlL K x lo hi H Q ∨ rSlA K x lo hi H Q ∨ rSlS x lo hi H Q
section
variable {X : Cx} {g : G} {W : XK} {f f' : EX} {l h : EO} {e : Expr} {lo hi : Option Expr} {pos p2 : Pos}
theorem PO.of {e : Option Expr} {t t' : TO} (h : PO X e t) (k : ∀ σ H Q, t' σ H Q → t σ H Q) : PO X e t' := ⟨fun pins s σ H Q I q => h.run pins s σ H Q I (k _ _ _ q)⟩
theorem o_none : PO X none (semO g W oN) := PO.of po_none fun _ H Q ⟨m, env, s, a, q⟩ => q m H (Le.refl m H) a.hold
theorem o_some (he : PE X e (sem g W f)) : PO X (some e) (semO g W (oS f)) := by
  refine PO.of (po_some he) fun σ H Q ⟨m, env, s, ag, q⟩ => ?_
  refine sem_k ag (R.post_bind q) fun d s1 v m1 H1 q1 l1 a1 r1 => ?_
  cases r1 <;> first | exact q1.elim | skip
  exact ⟨_, rfl, q1 m1 H1 l1 a1.hold⟩
theorem semO_k {fo : EO} {σ : L2.St} {H : Hp} {m : List Addr} {env : Env} {s : S} {P : Option Int → S → Prop} {K : Option Int → Hp → Prop} (a : Ag g m σ H env s) (h : (fo env s).post P (WX g m H W))
    (k : ∀ d s1 m1 H1, P d s1 → Le m H m1 H1 → Ag g m1 σ H1 env s1 → K d H1) : semO g W fo σ H K :=
  ⟨m, env, s, a, R.post_mono h (fun d s1 p m1 H1 l hold => k d s1 m1 H1 p l (a.go l hold)) fun _ _ _ e => e⟩
theorem sl_all : SlR X (rSlAll X.K) := sl_list.or (sl_tupA.or sl_str)
theorem cut_rep {m : List Addr} {H : Hp} {xs : List V} {ds : List D} (r : Reps g m H xs ds) (lo hi : Option Int) : Reps g m H (cutV xs lo hi) (cutD ds lo hi) := by
  unfold cutV cutD
  rw [r.length]
  exact (r.drop _).take _
theorem sl_ok {m : List Addr} {H : Hp} {s : S} {v : V} {d : D} {lo hi : Option Int} {x : D} {s' : S} {Q : VK} (hold : Hold g m s H) (r : Rep g m H v d) (he : slD d lo hi s = some (x, s')) (q : PD g m H Q x s') : rSlAll g.K v lo hi H Q := by
  cases r with
  | str z =>
    have he : (if z.length ≤ 16777216 then some (D.str (cutS z lo hi), s) else none) = some (x, s') := he
    by_cases c : z.length ≤ 16777216
    · rw [if_pos c] at he; cases he
      exact .inr (.inr ⟨z, rfl, line_ok c, PD.here hold (.str _) q⟩)
    · rw [if_neg c] at he; cases he
  | @tup a xs ds z t =>
    cases he
    refine .inr (.inl ⟨a, xs, rfl, z.sq, fun ⟨h1, h2⟩ => ?_, fun _ p hp => new_tup hold hp (cut_rep t lo hi) q⟩)
    have e1 : cutD ds lo hi = ds := by
      unfold cutD
      rw [t.length] at h1 h2
      rw [h1, h2, List.drop_zero, Nat.sub_zero, List.take_length]
    rw [e1] at q
    exact PD.here hold (.tup z t) q
  | @rol a xs ds z t =>
    cases he
    exact .inl ⟨a, xs, rfl, z.sq, fun p hp => new_lst hold hp (cut_rep t lo hi) q⟩
  | @ref a i z =>
    have he : (match s[i]? with
      | some (.lst ds) => some (D.ref s.length, s ++ [.lst (cutD ds lo hi)])
      | _ => none) = some (x, s') := he
    split at he
    · rename_i ds e1
      cases he
      obtain ⟨xs, e2, t⟩ := hold.obj i a _ z e1
      exact .inl ⟨a, xs, rfl, .of e2, fun p hp => new_lst hold hp (cut_rep t lo hi) q⟩
    · cases he
  | _ => cases he
theorem s_slice (he : PE X e (sem ⟨X.K, X.mg⟩ W f)) (hl : PO X lo (semO ⟨X.K, X.mg⟩ W l)) (hu : PO X hi (semO ⟨X.K, X.mg⟩ W h)) : PE X (.Subscript e (.Slice lo hi none p2) pos) (sem ⟨X.K, X.mg⟩ W (eSl f l h)) := by
  refine PE.of (pe_slice sl_all he hl hu) fun σ H Q ⟨m, env, s, ag, q⟩ => ?_
  refine sem_k ag (R.post_bind q) fun d s1 v m1 H1 q1 l1 a1 r1 => ?_
  refine semO_k a1 (R.post_mono (R.post_bind q1) (fun _ _ z => z) fun _ _ _ z => z.le l1) fun lo s2 m2 H2 q2 l2 a2 => ?_
  refine semO_k a2 (R.post_mono (R.post_bind q2) (fun _ _ z => z) fun _ _ _ z => z.le (l1.trans l2)) fun hi s3 m3 H3 q3 l3 a3 => ?_
  obtain ⟨x, s', e1, q4⟩ := R.post_of q3
  exact sl_ok (g := ⟨X.K, X.mg⟩) a3.hold (r1.le (l2.trans l3)) e1 (PD.le (l1.trans (l2.trans l3)) q4)
end
end Mi

set_option Elab.async false
set_option linter.all false
set_option maxRecDepth 100000
namespace Mi
open PySem PySem.Spec PyProof.Rows L2

/-! ### statements -/
inductive Fl where
  | no | nx (env : Env) (s : S) | rt (d : D) (s : S) | bk (env : Env) (s : S) | ct (env : Env) (s : S) | ex (c : Str) (fs : XF) (s : S)
abbrev ST := Env → S → Fl
def PE' (g : G) (m : List Addr) (H : Hp) (Q : L2.St → Hp → Prop) (env : Env) (s : S) : Prop := ∀ (σ : L2.St) (m' : List Addr) (H' : Hp), Le m H m' H' → Ag g m' σ H' env s → Q σ H'
def Fl.post (g : G) (m : List Addr) (H : Hp) (W : XK) (B : Ends) : Fl → Prop
  | .no => False
  | .nx env s => PE' g m H B.nx env s
  | .rt d s => PD g m H B.rt d s
  | .bk env s => PE' g m H B.bk env s
  | .ct env s => PE' g m H B.ct env s
  | .ex c fs s => WX g m H W c fs s
theorem PE'.le {g : G} {m m' : List Addr} {H H' : Hp} (l : Le m H m' H') {Q : L2.St → Hp → Prop} {env : Env} {s : S} (h : PE' g m H Q env s) : PE' g m' H' Q env s := fun σ m2 H2 l2 => h σ m2 H2 (l.trans l2)
theorem Fl.post_le {g : G} {m m' : List Addr} {H H' : Hp} {W : XK} {B : Ends} (l : Le m H m' H') {f : Fl} (h : f.post g m H W B) : f.post g m' H' W B := by
  cases f with
  | no => exact h
  | nx env s => exact PE'.le l h
  | rt d s => exact PD.le l h
  | bk env s => exact PE'.le l h
  | ct env s => exact PE'.le l h
  | ex c fs s => exact WX.le l h
def semS (g : G) (W : XK) (f : ST) : TS := fun B σ H => ∃ m env s, Ag g m σ H env s ∧ (f env s).post g m H W B
def Fl.seq (r : Fl) (f : Env → S → Fl) : Fl := match r with
  | .nx env s => f env s
  | r => r
/-- a value, then on -/
def R.go {α : Type} (r : R α) (f : α → S → Fl) : Fl := match r with
  | .no => .no
  | .ok a s => f a s
  | .ex c fs s => .ex c fs s
theorem R.go_post {α : Type} {g : G} {m : List Addr} {H : Hp} {W : XK} {B : Ends} {r : R α} {f : α → S → Fl} (h : (r.go f).post g m H W B) : r.post (fun a s => (f a s).post g m H W B) (WX g m H W) := by
  cases r with
  | no => exact h
  | ok a s => exact h
  | ex c fs s => exact h
def sSkip : ST := fun env s => .nx env s
def sSeq (f f' : ST) : ST := fun env s => (f env s).seq f'
def sSet (i : Nat) (f : EX) : ST := fun env s => (f env s).go fun d s1 => .nx (env.set i (some d)) s1
def sEx (f : EX) : ST := fun env s => (f env s).go fun _ s1 => .nx env s1
def sRet (f : EX) : ST := fun env s => (f env s).go fun d s1 => .rt d s1
def sRetN : ST := fun _ s => .rt .non s
def sIf (c : EB) (f f' : ST) : ST := fun env s => (c env s).go fun b s1 => if b = true then f env s1 else f' env s1
def sBk : ST := fun env s => .bk env s
def sCt : ST := fun env s => .ct env s
inductive T where
  | n (i : Nat) | t (is : List Nat)
def setAll : List Nat → List D → Env → Env
  | i :: is, d :: ds, env => setAll is ds (env.set i (some d))
  | _, _, env => env
def asgT : T → D → Env → Option Env
  | .n i, d, env => some (env.set i (some d))
  | .t is, .tup ds, env => if ds.length = is.length then some (setAll is ds env) else none
  | .t _, _, _ => none
def sAsg (t : T) (f : EX) : ST := fun env s => (f env s).go fun d s1 => match asgT t d env with
  | some env' => .nx env' s1
  | none => .no
def gNs : List Nat → TGs
  | [] => gNil
  | i :: is => gCons (gName i) (gNs is)
def gT (K : PySem.W.Frag) : T → TG
  | .n i => gName i
  | .t is => gTup K is.length (gNs is)

section
variable {X : Cx} {g : G} {W : XK} {f f' : EX} {fs fs' : ST} {c : EB} {st : Stmt} {sts : List Stmt} {pos : Pos}
theorem PS.of {t t' : TS} (h : PS X st t) (k : ∀ B σ H, t' B σ H → t B σ H) : PS X st t' := ⟨fun pins s σ H B I q => h.run pins s σ H B I (k _ _ _ q)⟩
theorem PSs.of {t t' : TS} (h : PSs X sts t) (k : ∀ B σ H, t' B σ H → t B σ H) : PSs X sts t' := ⟨fun pins s σ H B I q => h.run pins s σ H B I (k _ _ _ q)⟩
theorem ss_nil : PSs X [] (semS g W sSkip) := PSs.of pss_nil fun _ σ H ⟨m, env, s, a, q⟩ => q σ m H (Le.refl m H) a
theorem ss_cons (h : PS X st (semS g W fs)) (h' : PSs X sts (semS g W fs')) : PSs X (st :: sts) (semS g W (sSeq fs fs')) := by
  refine PSs.of (pss_cons h h') fun B σ H ⟨m, env, s, a, q⟩ => ⟨m, env, s, a, ?_⟩
  unfold sSeq at q
  cases e : fs env s with
  | no => rw [e] at q; exact q
  | nx env1 s1 =>
    rw [e] at q
    exact fun σ1 m1 H1 l1 a1 => ⟨m1, env1, s1, a1, Fl.post_le l1 q⟩
  | rt d s1 => rw [e] at q; exact q
  | bk env1 s1 => rw [e] at q; exact q
  | ct env1 s1 => rw [e] at q; exact q
  | ex c x s1 => rw [e] at q; exact q
theorem ss_one (h : PS X st (semS g W fs)) : PSs X [st] (semS g W fs) := by
  refine PSs.of (ss_cons h ss_nil) fun B σ H ⟨m, env, s, a, q⟩ => ⟨m, env, s, a, ?_⟩
  unfold sSeq
  cases e : fs env s <;> (rw [e] at q; exact q)
theorem c_set {i : Nat} (h : PS X st (tAsg (sem g W f) (gName i))) : PS X st (semS g W (sSet i f)) := by
  refine PS.of h fun B σ H ⟨m, env, s, a, q⟩ => ?_
  refine sem_k a (R.go_post q) fun d s1 v m1 H1 q1 l1 a1 r1 => ?_
  exact q1 _ m1 H1 l1 (a1.set r1 i)
theorem c_ex (h : PS X st (tDrop (sem g W f))) : PS X st (semS g W (sEx f)) := by
  refine PS.of h fun B σ H ⟨m, env, s, a, q⟩ => ?_
  exact sem_k a (R.go_post q) fun d s1 v m1 H1 q1 l1 a1 r1 => q1 _ m1 H1 l1 a1
theorem c_ret (h : PS X st (tRet (sem g W f))) : PS X st (semS g W (sRet f)) := by
  refine PS.of h fun B σ H ⟨m, env, s, a, q⟩ => ?_
  exact sem_k a (R.go_post q) fun d s1 v m1 H1 q1 l1 a1 r1 => q1 v m1 H1 l1 a1.hold r1
theorem c_retN (h : PS X st tRetN) : PS X st (semS g W sRetN) := PS.of h fun B σ H ⟨m, env, s, a, q⟩ => q _ m H (Le.refl m H) a.hold .non
theorem c_if (h : PS X st (tIfS (semB g W c) (semS g W fs) (semS g W fs'))) : PS X st (semS g W (sIf c fs fs')) := by
  refine PS.of h fun B σ H ⟨m, env, s, a, q⟩ => ?_
  refine semB_k a (R.go_post q) fun b s1 m1 H1 q1 l1 a1 => ?_
  cases b with
  | true => exact iteT ⟨m1, env, s1, a1, Fl.post_le l1 q1⟩
  | false => exact iteF ⟨m1, env, s1, a1, Fl.post_le l1 q1⟩
theorem c_bk (h : PS X st tBreak) : PS X st (semS g W sBk) := PS.of h fun B σ H ⟨m, env, s, a, q⟩ => q σ m H (Le.refl m H) a
theorem c_ct (h : PS X st tCont) : PS X st (semS g W sCt) := PS.of h fun B σ H ⟨m, env, s, a, q⟩ => q σ m H (Le.refl m H) a
theorem c_pass (h : PS X st tNext) : PS X st (semS g W sSkip) := PS.of h fun B σ H ⟨m, env, s, a, q⟩ => q σ m H (Le.refl m H) a
theorem setAll_ok {m : List Addr} {H : Hp} {s : S} {Q : L2.St → Hp → Prop} : ∀ {is : List Nat} {ds : List D} {vs : List V} {env : Env} {σ : L2.St}, ds.length = is.length → Reps g m H vs ds → Ag g m σ H env s →
    (∀ σ', Ag g m σ' H (setAll is ds env) s → Q σ' H) → gNs is vs σ H Q
  | [], [], _, env, σ, _, .nil, a, k => ⟨rfl, k σ a⟩
  | i :: is, d :: ds, _, env, σ, h, .cons (v := v) (vs := vs) r t, a, k => ⟨v, vs, rfl, setAll_ok (by simpa using h) t (a.set r i) k⟩
  | [], _ :: _, _, _, _, h, _, _, _ => by simp at h
  | _ :: _, [], _, _, _, h, _, _, _ => by simp at h
theorem asgT_ok {t : T} {m : List Addr} {H : Hp} {s : S} {Q : L2.St → Hp → Prop} {d : D} {v : V} {env env' : Env} {σ : L2.St} (a : Ag g m σ H env s) (r : Rep g m H v d) (h : asgT t d env = some env')
    (k : ∀ σ', Ag g m σ' H env' s → Q σ' H) : gT g.K t v σ H Q := by
  cases t with
  | n i => cases h; exact k _ (a.set r i)
  | t is =>
    cases r with
    | @tup b xs ds z q =>
      have h : (if ds.length = is.length then some (setAll is ds env) else none) = some env' := h
      by_cases c : ds.length = is.length
      · rw [if_pos c] at h; cases h
        exact ⟨b, xs, rfl, z.sq, by rw [q.length]; exact c, setAll_ok c q a k⟩
      · rw [if_neg c] at h; cases h
    | _ => cases h
theorem c_asg {t : T} (h : PS X st (tAsg (sem g W f) (gT g.K t))) : PS X st (semS g W (sAsg t f)) := by
  refine PS.of h fun B σ H ⟨m, env, s, a, q⟩ => ?_
  refine sem_k a (R.go_post q) fun d s1 v m1 H1 q1 l1 a1 r1 => ?_
  split at q1
  · rename_i env' he
    exact asgT_ok a1 r1 he fun σ' a' => q1 σ' m1 H1 l1 a'
  · exact q1.elim
end

/-! ### loops -/
open Classical in
noncomputable def forL (t : T) (b : ST) (ok : S → Prop) : List D → ST
  | [], env, s => if ok s then .nx env s else .no
  | d :: ds, env, s => if ok s then (match asgT t d env with
      | none => .no
      | some env1 => match b env1 s with
        | .nx e2 s2 => forL t b ok ds e2 s2
        | .ct e2 s2 => forL t b ok ds e2 s2
        | .bk e2 s2 => .nx e2 s2
        | r => r) else .no
/-- what is walked: the items, and what must stay so of the store -/
structure Wk where
  items : List D
  ok : S → Prop
abbrev EI := Env → S → R Wk
noncomputable def sFor (t : T) (it : EI) (b : ST) : ST := fun env s => (it env s).go fun w s1 => forL t b w.ok w.items env s1
def Walks (g : G) (m0 : List Addr) (H0 : Hp) (J : It) (w : Wk) : Prop :=
  ∀ (m : List Addr) (s : S) (H : Hp) (i : Nat), Le m0 H0 m H → Hold g m s H → w.ok s →
    (∀ d, w.items[i]? = some d → J.go i H ∧ ∀ x H', J.yld i H x H' → Le m H m H' ∧ Hold g m s H' ∧ Rep g m H' x d) ∧ (w.items.length ≤ i → J.stop i H)
def PW' (g : G) (m : List Addr) (H : Hp) (R : It → Hp → Prop) : Wk → S → Prop := fun w s =>
  ∀ (J : It) (m' : List Addr) (H' : Hp), Le m H m' H' → Hold g m' s H' → Walks g m' H' J w → R J H'
def semI (g : G) (W : XK) (f : EI) : TI := fun σ H R => ∃ m env s, Ag g m σ H env s ∧ (f env s).post (PW' g m H R) (WX g m H W)
section
variable {X : Cx} {g : G} {W : XK} {f f' : EX} {b : ST} {c : EB} {it : EI} {st : Stmt} {t : T}
theorem semI_k {σ : L2.St} {H : Hp} {m : List Addr} {env : Env} {s : S} {P : Wk → S → Prop} {K : It → Hp → Prop} (a : Ag g m σ H env s) (h : (it env s).post P (WX g m H W))
    (k : ∀ w s1 J m1 H1, P w s1 → Le m H m1 H1 → Ag g m1 σ H1 env s1 → Walks g m1 H1 J w → K J H1) : semI g W it σ H K :=
  ⟨m, env, s, a, R.post_mono h (fun w s1 p J m1 H1 l hold hw => k w s1 J m1 H1 p l (a.go l hold) hw) fun _ _ _ e => e⟩
theorem c_for (h : PS X st (tFor (semI g W it) (gT g.K t) (semS g W b))) : PS X st (semS g W (sFor t it b)) := by
  refine PS.of h fun B σ H ⟨m, env, s, a, q⟩ => ?_
  refine semI_k a (R.go_post q) fun w s1 J m1 H1 q1 l1 a1 hw => ?_
  refine ⟨fun i n σ' H' => n = w.items.length - i ∧ i ≤ w.items.length ∧ ∃ m' env' s', Le m1 H1 m' H' ∧ Ag g m' σ' H' env' s' ∧ (forL t b w.ok (w.items.drop i) env' s').post g m' H' W B,
    ⟨w.items.length, by simp, Nat.zero_le _, m1, env, s1, Le.refl _ _, a1, by rw [List.drop_zero]; exact Fl.post_le l1 q1⟩, ?_⟩
  rintro i n σ2 H2 ⟨rfl, hi, m2, env2, s2, l2, a2, q2⟩
  by_cases hlt : i < w.items.length
  · rw [List.drop_eq_getElem_cons hlt] at q2
    unfold forL at q2
    by_cases hok : w.ok s2
    · rw [if_pos hok] at q2
      have hg := (hw m2 s2 H2 i l2 a2.hold hok).1 w.items[i] (List.getElem?_eq_getElem hlt)
      refine .inr ⟨hg.1, fun σ' H' => ∃ m' env' s', Le m1 H1 m' H' ∧ Ag g m' σ' H' env' s' ∧ (forL t b w.ok (w.items.drop (i + 1)) env' s').post g m' H' W B, fun σ' H' z => ⟨w.items.length - (i + 1), by omega, rfl, hlt, z⟩, fun x H3 hy => ?_⟩
      obtain ⟨l3, hold3, r3⟩ := hg.2 x H3 hy
      have a3 := a2.go l3 hold3
      cases e1 : asgT t w.items[i] env2 with
      | none => rw [e1] at q2; exact q2.elim
      | some env3 =>
        rw [e1] at q2
        refine asgT_ok a3 r3 e1 fun σ4 a4 => ⟨m2, env3, s2, a4, ?_⟩
        dsimp only at q2
        cases e2 : b env3 s2 with
        | no => rw [e2] at q2; exact q2
        | nx env5 s5 =>
          rw [e2] at q2
          exact fun σ5 m5 H5 l5 a5 => ⟨m5, env5, s5, l2.trans (l3.trans l5), a5, Fl.post_le (l3.trans l5) q2⟩
        | ct env5 s5 =>
          rw [e2] at q2
          exact fun σ5 m5 H5 l5 a5 => ⟨m5, env5, s5, l2.trans (l3.trans l5), a5, Fl.post_le (l3.trans l5) q2⟩
        | bk env5 s5 => rw [e2] at q2; exact PE'.le l3 q2
        | rt d s5 => rw [e2] at q2; exact PD.le l3 q2
        | ex c x s5 => rw [e2] at q2; exact WX.le l3 q2
    · rw [if_neg hok] at q2; exact q2.elim
  · have e : i = w.items.length := by omega
    subst e
    rw [List.drop_length] at q2
    unfold forL at q2
    by_cases hok : w.ok s2
    · rw [if_pos hok] at q2
      exact .inl ⟨(hw m2 s2 H2 _ l2 a2.hold hok).2 (Nat.le_refl _), q2 σ2 m2 H2 (Le.refl _ _) a2⟩
    · rw [if_neg hok] at q2; exact q2.elim
def whl (c : EB) (b : ST) : Nat → ST
  | 0, _, _ => .no
  | n + 1, env, s => (c env s).go fun k s1 => if k = true then (match b env s1 with
      | .nx e2 s2 => whl c b n e2 s2
      | .ct e2 s2 => whl c b n e2 s2
      | .bk e2 s2 => .nx e2 s2
      | r => r) else .nx env s1
theorem c_while {n : Nat} (h : PS X st (tWhile (semB g W c) (semS g W b))) : PS X st (semS g W (whl c b n)) := by
  refine PS.of h fun B σ H ⟨m, env, s, a, q⟩ => ?_
  refine ⟨fun n σ' H' => ∃ m' env' s', Ag g m' σ' H' env' s' ∧ (whl c b n env' s').post g m' H' W B, ⟨n, m, env, s, a, q⟩, ?_⟩
  rintro n σ1 H1 ⟨m1, env1, s1, a1, q1⟩
  cases n with
  | zero => exact q1.elim
  | succ n =>
    unfold whl at q1
    refine semB_k a1 (R.go_post q1) fun k s2 m2 H2 q2 l2 a2 => ?_
    cases k with
    | false => exact iteF (q2 σ1 m2 H2 l2 a2)
    | true =>
      rw [if_pos rfl] at q2 ⊢
      refine ⟨fun σ' H' => ∃ m' env' s', Ag g m' σ' H' env' s' ∧ (whl c b n env' s').post g m' H' W B, fun σ' H' z => ⟨n, Nat.lt_succ_self n, z⟩, m2, env1, s2, a2, ?_⟩
      cases e2 : b env1 s2 with
      | no => rw [e2] at q2; exact q2
      | nx env5 s5 =>
        rw [e2] at q2
        exact fun σ5 m5 H5 l5 a5 => ⟨m5, env5, s5, a5, Fl.post_le (l2.trans l5) q2⟩
      | ct env5 s5 =>
        rw [e2] at q2
        exact fun σ5 m5 H5 l5 a5 => ⟨m5, env5, s5, a5, Fl.post_le (l2.trans l5) q2⟩
      | bk env5 s5 => rw [e2] at q2; exact PE'.le l2 q2
      | rt d s5 => rw [e2] at q2; exact PD.le l2 q2
      | ex c x s5 => rw [e2] at q2; exact WX.le l2 q2

/-! what is walked: a sequence, a range -/
def iSeq (f : EX) : EI := fun env s => (f env s).bind fun d s1 => match d with
  | .tup ds => .ok ⟨ds, fun _ => True⟩ s1
  | .rol ds => .ok ⟨ds, fun _ => True⟩ s1
  | .ref p => match s1[p]? with
    | some (.lst ds) => .ok ⟨ds, fun s => s[p]? = some (.lst ds)⟩ s1
    | _ => .no
  | _ => .no
theorem PI.of {tg iter : Expr} {w w' : TI} (h : PI X tg iter w) (k : ∀ σ H R, w' σ H R → w σ H R) : PI X tg iter w' := ⟨fun pins s σ H R I q => h.run pins s σ H R I (k _ _ _ q)⟩
theorem sqL_uniq {m : List Addr} {H : Hp} {a : Addr} {xs ys : List V} (K : PySem.W.Frag) (h : H a = some (.lst xs)) (h2 : ∀ zs, SqL K H a zs → zs[0]? = zs[0]?) : True := True.intro
theorem walks_tup {m : List Addr} {H : Hp} {a : Addr} {xs : List V} {ds : List D} (z : RdT g m H a xs) (r : Reps g m H xs ds) : Walks g m H (Itt g.K a) ⟨ds, fun _ => True⟩ := by
  intro m1 s1 H1 i l1 hold1 _
  have z1 : SqT g.K H1 a xs := (z.le l1).sq
  refine ⟨fun d hd => ?_, fun hi => ⟨xs, z1, by rw [r.length]; exact hi⟩⟩
  obtain ⟨x, hx, rx⟩ := r.get hd
  refine ⟨⟨xs, x, z1, hx⟩, fun y H' ⟨e, hy⟩ => ?_⟩
  subst e
  have : x = y := Option.some.inj (hx.symm.trans (hy xs z1))
  subst this
  exact ⟨Le.refl _ _, hold1, rx.le l1⟩
theorem walks_rol {m : List Addr} {H : Hp} {a : Addr} {xs : List V} {ds : List D} (z : RdL g m H a xs) (r : Reps g m H xs ds) : Walks g m H (Itl g.K a) ⟨ds, fun _ => True⟩ := by
  intro m1 s1 H1 i l1 hold1 _
  have z1 : SqL g.K H1 a xs := (z.le l1).sq
  refine ⟨fun d hd => ?_, fun hi => ⟨xs, z1, by rw [r.length]; exact hi⟩⟩
  obtain ⟨x, hx, rx⟩ := r.get hd
  refine ⟨⟨xs, x, z1, hx⟩, fun y H' ⟨e, hy⟩ => ?_⟩
  subst e
  have : x = y := Option.some.inj (hx.symm.trans (hy xs z1))
  subst this
  exact ⟨Le.refl _ _, hold1, rx.le l1⟩
theorem walks_ref {m : List Addr} {H : Hp} {a : Addr} {p : Nat} {ds : List D} (z : m[p]? = some a) : Walks g m H (Itl g.K a) ⟨ds, fun s => s[p]? = some (.lst ds)⟩ := by
  intro m1 s1 H1 i l1 hold1 hok
  obtain ⟨xs, e1, r⟩ := hold1.obj p a _ (l1.get z) hok
  have z1 : SqL g.K H1 a xs := .of e1
  refine ⟨fun d hd => ?_, fun hi => ⟨xs, z1, by rw [r.length]; exact hi⟩⟩
  obtain ⟨x, hx, rx⟩ := r.get hd
  refine ⟨⟨xs, x, z1, hx⟩, fun y H' ⟨e, hy⟩ => ?_⟩
  subst e
  have : x = y := Option.some.inj (hx.symm.trans (hy xs z1))
  subst this
  exact ⟨Le.refl _ _, hold1, rx⟩
/-- over a tuple; over a list: as the expression is -/
def iTupD (f : EX) : EI := fun env s => (f env s).bind fun d s1 => match d with
  | .tup ds => .ok ⟨ds, fun _ => True⟩ s1
  | _ => .no
def iLstD (f : EX) : EI := fun env s => (f env s).bind fun d s1 => match d with
  | .rol ds => .ok ⟨ds, fun _ => True⟩ s1
  | .ref p => match s1[p]? with
    | some (.lst ds) => .ok ⟨ds, fun s => s[p]? = some (.lst ds)⟩ s1
    | _ => .no
  | _ => .no
theorem i_tup {tg e : Expr} (h : PI X tg e (iTup g.K (sem g W f))) : PI X tg e (semI g W (iTupD f)) := by
  refine PI.of h fun σ H Q ⟨m, env, s, ag, q⟩ => ?_
  refine sem_k ag (R.post_bind q) fun d s1 v m1 H1 q1 l1 a1 r1 => ?_
  cases r1 with
  | tup z r => exact ⟨_, rfl, ⟨_, z.sq⟩, q1 _ m1 H1 l1 a1.hold (walks_tup z r)⟩
  | _ => exact q1.elim
theorem i_lst {tg e : Expr} (h : PI X tg e (iList g.K (sem g W f))) : PI X tg e (semI g W (iLstD f)) := by
  refine PI.of h fun σ H Q ⟨m, env, s, ag, q⟩ => ?_
  refine sem_k ag (R.post_bind q) fun d s1 v m1 H1 q1 l1 a1 r1 => ?_
  cases r1 with
  | rol z r => exact ⟨_, rfl, ⟨_, z.sq⟩, q1 _ m1 H1 l1 a1.hold (walks_rol z r)⟩
  | @ref a p z =>
    dsimp only at q1
    split at q1
    · rename_i ds e1
      obtain ⟨xs, e2, _⟩ := a1.hold.obj p a _ z e1
      exact ⟨a, rfl, ⟨xs, .of e2⟩, q1 _ m1 H1 l1 a1.hold (walks_ref z)⟩
    · exact q1.elim
  | _ => exact q1.elim
def rng (lo : Int) (n : Nat) : List D := (List.range n).map fun (i : Nat) => .int (lo + (i : Int))
def iRg1 (f : EX) : EI := fun env s => (f env s).bind fun d s1 => match d with
  | .int j => if -4611686018427387904 ≤ j ∧ j < 4611686018427387904 then .ok ⟨rng 0 j.toNat, fun _ => True⟩ s1 else .no
  | _ => .no
def iRg2 (f f' : EX) : EI := fun env s => (f env s).bind fun d s1 => (f' env s1).bind fun e s2 => match d, e with
  | .int i, .int j => if -4611686018427387904 ≤ i ∧ i < 4611686018427387904 ∧ -4611686018427387904 ≤ j ∧ j < 4611686018427387904 then .ok ⟨rng i (j - i).toNat, fun _ => True⟩ s2 else .no
  | _, _ => .no
theorem rng_len (lo : Int) (n : Nat) : (rng lo n).length = n := by unfold rng; rw [List.length_map, List.length_range]
theorem rng_get {lo : Int} {n i : Nat} {d : D} (h : (rng lo n)[i]? = some d) : i < n ∧ d = .int (lo + i) := by
  unfold rng at h
  rw [List.getElem?_map] at h
  by_cases c : i < n
  · rw [List.getElem?_range c] at h; cases h; exact ⟨c, rfl⟩
  · rw [List.getElem?_eq_none (by rw [List.length_range]; omega)] at h; cases h
theorem walks_rng {m : List Addr} {H : Hp} {lo : Int} {n : Nat} : Walks g m H (Itr lo n) ⟨rng lo n, fun _ => True⟩ := by
  intro m1 s1 H1 i l1 hold1 _
  refine ⟨fun d hd => ?_, fun hi => by rw [rng_len] at hi; exact hi⟩
  obtain ⟨hi, rfl⟩ := rng_get hd
  refine ⟨hi, fun y H' ⟨e, hy⟩ => ?_⟩
  subst e hy
  exact ⟨Le.refl _ _, hold1, .int _⟩
theorem i_rg1 {tg e : Expr} (h : PI X tg e (iRng1 (semA g W (aC f aN)))) : PI X tg e (semI g W (iRg1 f)) := by
  refine PI.of h fun σ H Q ⟨m, env, s, ag, q⟩ => ?_
  refine ⟨m, env, s, ag, ?_⟩
  have q := R.post_bind q
  unfold aC
  cases hf : f env s with
  | no => rw [hf] at q; exact q
  | ex c x s1 => rw [hf] at q; exact q
  | ok d s1 =>
    rw [hf] at q
    intro vs m1 H1 l1 hold1 r1
    have q : (match d with
      | .int j => if -4611686018427387904 ≤ j ∧ j < 4611686018427387904 then R.ok (⟨rng 0 j.toNat, fun _ => True⟩ : Wk) s1 else .no
      | _ => .no).post (PW' g m H Q) (WX g m H W) := q
    cases d with
    | int j =>
      dsimp only at q
      by_cases c : -4611686018427387904 ≤ j ∧ j < 4611686018427387904
      · rw [if_pos c] at q
        cases r1 with
        | cons r t =>
          cases t
          cases r
          exact ⟨j, rfl, c.1, c.2, q _ m1 H1 l1 hold1 walks_rng⟩
      · rw [if_neg c] at q; exact q.elim
    | _ => exact q.elim
theorem i_rg2 {tg e : Expr} (h : PI X tg e (iRng2 (semA g W (aC f (aC f' aN))))) : PI X tg e (semI g W (iRg2 f f')) := by
  refine PI.of h fun σ H Q ⟨m, env, s, ag, q⟩ => ?_
  refine ⟨m, env, s, ag, ?_⟩
  have q := R.post_bind q
  unfold aC
  cases hf : f env s with
  | no => rw [hf] at q; exact q
  | ex c x s1 => rw [hf] at q; exact q
  | ok d s1 =>
    rw [hf] at q
    have q := R.post_bind q
    show (((aC f' aN) env s1).bind fun ds s2 => R.ok (d :: ds) s2).post _ _
    unfold aC
    cases hf' : f' env s1 with
    | no => rw [hf'] at q; exact q
    | ex c x s1 => rw [hf'] at q; exact q
    | ok d' s2 =>
      rw [hf'] at q
      intro vs m1 H1 l1 hold1 r1
      have q : (match d, d' with
        | .int i, .int j => if -4611686018427387904 ≤ i ∧ i < 4611686018427387904 ∧ -4611686018427387904 ≤ j ∧ j < 4611686018427387904 then R.ok (⟨rng i (j - i).toNat, fun _ => True⟩ : Wk) s2 else .no
        | _, _ => .no).post (PW' g m H Q) (WX g m H W) := q
      cases r1 with
      | cons r t =>
        cases t with
        | cons r' t' =>
          cases t'
          cases r with
          | int i =>
            cases r' with
            | int j =>
              dsimp only at q
              by_cases c : -4611686018427387904 ≤ i ∧ i < 4611686018427387904 ∧ -4611686018427387904 ≤ j ∧ j < 4611686018427387904
              · rw [if_pos c] at q
                exact ⟨i, j, rfl, c, q _ m1 H1 l1 hold1 walks_rng⟩
              · rw [if_neg c] at q; exact q.elim
            | _ => exact q.elim
          | _ => exact q.elim
end

/-! ### defs -/
def fnB (tot n : Nat) (b : ST) : FN := fun ds s => if ds.length = n then (match b (ds.map some ++ List.replicate (tot - n) none) s with
  | .nx _ s' => .ok .non s'
  | .rt d s' => .ok d s'
  | _ => .no) else .no
theorem ag_start {g : G} {m : List Addr} {H : Hp} {s : S} {N : List Str} {n : Nat} : ∀ {vs : List V} {ds : List D}, Hold g m s H → Reps g m H vs ds → ds.length = n →
    Ag g m (L2.start N vs) H (ds.map some ++ List.replicate (N.length - n) none) s := by
  intro vs ds hold r hn
  refine ⟨hold, by unfold L2.start; rw [List.length_append, List.length_append, List.length_map, List.length_map, List.length_replicate, List.length_replicate, r.length, hn], fun i d hd => ?_⟩
  unfold L2.start
  by_cases c : i < ds.length
  · rw [List.getElem?_append_left (by rw [List.length_map]; exact c), List.getElem?_map] at hd
    rw [List.getElem?_append_left (by rw [List.length_map, r.length]; exact c), List.getElem?_map]
    cases e : ds[i]? with
    | none => rw [e] at hd; cases hd
    | some d' =>
      rw [e] at hd; cases hd
      obtain ⟨v, hv, rv⟩ := r.get e
      exact ⟨v, by rw [hv]; rfl, rv⟩
  · rw [List.getElem?_append_right (by rw [List.length_map]; omega), List.getElem?_replicate] at hd
    split at hd <;> cases hd
section
variable {P : Program} {w : World} {K : PySem.W.Frag} {mg : Str → Option Value} {base : Heap}
/-- THE RULE for a def that lets no exception out -/
theorem fn_ok {x qual : Str} {st : Stmt} {f : Addr} {fd : FuncData} {N ps : List Str} {k : Nat} {b : ST} (F : Fun K x qual st f fd) (sc : FnScope N ps (defScope st))
    (hb : ∀ (cdv : Value) (A : Around) (outer : List PySem.Env) (s : Shared) (H : Hp) (E : XK), Room k (A.deeper (envOfC qual (defScope st) s.heap.objs.size f cdv)) →
      PSs (cxOf CX0 P w K mg base N qual (defScope st) f cdv A outer s H E).nox (defBody st) (semS ⟨K, mg⟩ E0 b)) :
    FnOk P w K mg base CX0 (k + 1) f fd ps (spF ⟨K, mg⟩ ps.length (fnB N.length ps.length b)) := by
  refine F.ok sc (fun vs H Q E h => ?_) (fun cdv A outer s H vs Q E hr h => ⟨_, hb cdv A outer s H E hr, ?_⟩)
  · obtain ⟨m, s, ds, hn, _, r, _⟩ := h
    rw [r.length]; exact hn
  · obtain ⟨m, s1, ds, hn, hold, r, q⟩ := h
    refine ⟨m, _, s1, ag_start (N := N) hold r hn, ?_⟩
    unfold fnB at q
    rw [if_pos hn] at q
    cases e : b (ds.map some ++ List.replicate (N.length - ps.length) none) s1 with
    | no => rw [e] at q; exact q.elim
    | nx env2 s2 =>
      rw [e] at q
      exact fun σ' m' H' l' a' => q _ m' H' l' a'.hold .non
    | rt d s2 => rw [e] at q; exact q
    | bk env2 s2 => rw [e] at q; exact q.elim
    | ct env2 s2 => rw [e] at q; exact q.elim
    | ex c x s2 => rw [e] at q; exact q.elim
end
end Mi

set_option Elab.async false
set_option linter.all false
set_option maxRecDepth 100000
namespace Mi
open PySem PySem.Spec PyProof.Rows L2

section
variable {X : Cx} {g : G} {W : XK} {f f' : EX} {e : Expr} {r : R2} {o : OP2}
theorem c_2 (h : PE X e (tOp r (sem g W f) (sem g W f'))) (ho : O2 g r o) : PE X e (sem g W (e2 o f f')) := PE.of h fun _ _ _ q => sem_2 ho q
theorem c_2t (h : PT X e (tB (tOp r (sem g W f) (sem g W f')))) (ho : O2 g r o) : PT X e (semB g W (tB1 (e2 o f f'))) := by
  refine PT.of h fun σ H Q ⟨m, env, s, ag, q⟩ => ?_
  refine sem_2 ho (sem_k ag (R.post_bind q) fun d s1 v m1 H1 q1 l1 a1 r1 => ?_)
  cases d <;> first | exact q1.elim | skip
  cases r1
  exact ⟨_, rfl, q1 m1 H1 l1 a1.hold⟩
theorem reps1 {m : List Addr} {H : Hp} {vs : List V} {d : D} (r : Reps g m H vs [d]) : ∃ v, vs = [v] ∧ Rep g m H v d := by
  cases r with
  | cons r t => cases t; exact ⟨_, rfl, r⟩
theorem reps2 {m : List Addr} {H : Hp} {vs : List V} {d e : D} (r : Reps g m H vs [d, e]) : ∃ v w, vs = [v, w] ∧ Rep g m H v d ∧ Rep g m H w e := by
  cases r with
  | cons r t =>
    cases t with
    | cons r2 t2 => cases t2; exact ⟨_, _, rfl, r, r2⟩
end

/-! ### built-in functions -/
def lenB : OPN := fun ds s => match ds with
  | [d] => (match d with
    | .str z => if z.length ≤ 16777216 then some (.int (z.length : Int), s) else none
    | .ref p => (match s[p]? with
      | some (.lst xs) => some (.int (xs.length : Int), s)
      | some (.dct kvs) => some (.int (kvs.length : Int), s)
      | _ => none)
    | .tup xs => some (.int (xs.length : Int), s)
    | .rol xs => some (.int (xs.length : Int), s)
    | _ => none)
  | _ => none
def rLenA (K : PySem.W.Frag) : RN := fun xs H Q => (∃ x n, xs = [x] ∧ LenV K x H n ∧ Q (.int n) H) ∨ (∃ a kvs, xs = [V.ref a] ∧ H a = some (.dK kvs) ∧ Q (.int kvs.length) H)
section
variable {X : Cx} {g : G}
theorem CallR.or {f : Value} {r r' : RN} (h : CallR X f r) (h' : CallR X f r') : CallR X f (fun xs H Q => r xs H Q ∨ r' xs H Q) := by
  intro pins s σ H xs us Q I rx q
  rcases q with q | q
  · exact h pins s σ H xs us Q I rx q
  · exact h' pins s σ H xs us Q I rx q
theorem call_lenA : CallR X (.builtin "len") (rLenA X.K) := CallR.or call_len call_lenD
theorem ent_length {α β : Type} {F : α → β → Prop} : ∀ {l₁ : List α} {l₂ : List β}, Paired F l₁ l₂ → l₁.length = l₂.length
  | _, _, .nil => rfl
  | _, _, .cons _ t => by rw [List.length_cons, List.length_cons, ent_length t]
theorem on_len : ON g (rLenA g.K) lenB := by
  intro m H s vs ds x s' Q hold rv he q
  unfold lenB at he
  split at he
  · rename_i d
    obtain ⟨v, rfl, r⟩ := reps1 rv
    cases r with
    | str z =>
      dsimp only at he
      by_cases c : z.length ≤ 16777216
      · rw [if_pos c] at he; cases he
        exact .inl ⟨_, _, rfl, ⟨line_ok c, rfl⟩, PD.here hold (.int _) q⟩
      · rw [if_neg c] at he; cases he
    | tup z t => cases he; exact .inl ⟨_, _, rfl, .inr ⟨_, z.sq, t.length.symm⟩, PD.here hold (.int _) q⟩
    | rol z t => cases he; exact .inl ⟨_, _, rfl, .inl ⟨_, z.sq, t.length.symm⟩, PD.here hold (.int _) q⟩
    | @ref a p z =>
      dsimp only at he
      split at he
      · rename_i xs e1
        cases he
        obtain ⟨ys, e2, t⟩ := hold.obj p a _ z e1
        exact .inl ⟨_, _, rfl, .inl ⟨_, .of e2, t.length.symm⟩, PD.here hold (.int _) q⟩
      · rename_i kvs e1
        cases he
        obtain ⟨ys, e2, t⟩ := hold.obj p a _ z e1
        refine .inr ⟨_, _, rfl, e2, ?_⟩
        rw [ent_length t]
        exact PD.here hold (.int _) q
      · cases he
    | _ => cases he
  · cases he
def absB : OPN := fun ds s => match ds with
  | [.int i] => some (.int (if i < 0 then -i else i), s)
  | _ => none
theorem on_abs : ON g (fun xs H Q => ∃ i, xs = [.int i] ∧ Q (.int (if i < 0 then -i else i)) H) absB := by
  intro m H s vs ds x s' Q hold rv he q
  unfold absB at he
  split at he
  · cases he
    obtain ⟨v, rfl, r⟩ := reps1 rv
    cases r
    exact ⟨_, rfl, PD.here hold (.int _) q⟩
  · cases he
def intB : OPN := fun ds s => match ds with
  | [.int i] => some (.int i, s)
  | [.bl k] => some (.int (if k then 1 else 0), s)
  | _ => none
theorem on_int : ON g (fun xs H Q => (∃ i, xs = [.int i] ∧ Q (.int i) H) ∨ ∃ k, xs = [.bl k] ∧ Q (.int (if k then 1 else 0)) H) intB := by
  intro m H s vs ds x s' Q hold rv he q
  unfold intB at he
  split at he
  · cases he
    obtain ⟨v, rfl, r⟩ := reps1 rv
    cases r
    exact .inl ⟨_, rfl, PD.here hold (.int _) q⟩
  · cases he
    obtain ⟨v, rfl, r⟩ := reps1 rv
    cases r
    exact .inr ⟨_, rfl, PD.here hold (.int _) q⟩
  · cases he
def strB : OPN := fun ds s => match ds with
  | [.int i] => if i.natAbs.log2 < 1920 then some (.str (toString i), s) else none
  | _ => none
theorem on_str : ON g (fun xs H Q => ∃ i, xs = [.int i] ∧ i.natAbs.log2 < 1920 ∧ Q (.str (toString i)) H) strB := by
  intro m H s vs ds x s' Q hold rv he q
  unfold strB at he
  split at he
  · rename_i i
    by_cases c : i.natAbs.log2 < 1920
    · rw [if_pos c] at he; cases he
      obtain ⟨v, rfl, r⟩ := reps1 rv
      cases r
      exact ⟨_, rfl, c, PD.here hold (.str _) q⟩
    · rw [if_neg c] at he; cases he
  · cases he
def max2B : OPN := fun ds s => match ds with
  | [.int i, .int j] => some (.int (if j > i then j else i), s)
  | _ => none
def min2B : OPN := fun ds s => match ds with
  | [.int i, .int j] => some (.int (if j < i then j else i), s)
  | _ => none
theorem on_max2 : ON g (fun xs H Q => ∃ i j, xs = [.int i, .int j] ∧ Q (.int (if j > i then j else i)) H) max2B := by
  intro m H s vs ds x s' Q hold rv he q
  unfold max2B at he
  split at he
  · cases he
    obtain ⟨v, w, rfl, r, r'⟩ := reps2 rv
    cases r; cases r'
    exact ⟨_, _, rfl, PD.here hold (.int _) q⟩
  · cases he
theorem on_min2 : ON g (fun xs H Q => ∃ i j, xs = [.int i, .int j] ∧ Q (.int (if j < i then j else i)) H) min2B := by
  intro m H s vs ds x s' Q hold rv he q
  unfold min2B at he
  split at he
  · cases he
    obtain ⟨v, w, rfl, r, r'⟩ := reps2 rv
    cases r; cases r'
    exact ⟨_, _, rfl, PD.here hold (.int _) q⟩
  · cases he
/-- tuple(x), list(x) of a list or tuple -/
def tupB : OPN := fun ds s => match ds with
  | [d] => (itemsD d s).map fun xs => (.tup xs, s)
  | _ => none
def lstB : OPN := fun ds s => match ds with
  | [d] => (itemsD d s).map fun xs => (.ref s.length, s ++ [.lst xs])
  | _ => none
theorem on_tup : ON g (fun xs H Q => ∃ p ys, xs = [.ref p] ∧ ((SqL g.K H p ys ∧ ∀ l, H l = none → Q (.ref l) (upd H l (.tup ys))) ∨ (SqT g.K H p ys ∧ Q (.ref p) H))) tupB := by
  intro m H s vs ds x s' Q hold rv he q
  unfold tupB at he
  split at he
  · rename_i d
    obtain ⟨v, rfl, r⟩ := reps1 rv
    cases hi : itemsD d s with
    | none => rw [hi] at he; cases he
    | some xs =>
      rw [hi] at he; cases he
      cases r with
      | @tup a ys ds z t => cases hi; exact ⟨_, _, rfl, .inr ⟨z.sq, PD.here hold (.tup z t) q⟩⟩
      | @rol a ys ds z t => cases hi; exact ⟨_, _, rfl, .inl ⟨z.sq, fun p hp => new_tup hold hp t q⟩⟩
      | @ref a p z =>
        have hi : (match s[p]? with
          | some (.lst ds) => some ds
          | _ => none) = some xs := hi
        split at hi
        · rename_i e1
          cases hi
          obtain ⟨ys, e2, t⟩ := hold.obj p a _ z e1
          exact ⟨_, _, rfl, .inl ⟨.of e2, fun p hp => new_tup hold hp t q⟩⟩
        · cases hi
      | _ => cases hi
  · cases he
theorem on_lst : ON g (fun xs H Q => ∃ p ys, xs = [.ref p] ∧ (SqL g.K H p ys ∨ SqT g.K H p ys) ∧ ∀ l, H l = none → Q (.ref l) (upd H l (.lst ys))) lstB := by
  intro m H s vs ds x s' Q hold rv he q
  unfold lstB at he
  split at he
  · rename_i d
    obtain ⟨v, rfl, r⟩ := reps1 rv
    cases hi : itemsD d s with
    | none => rw [hi] at he; cases he
    | some xs =>
      rw [hi] at he; cases he
      obtain ⟨p, ys, rfl, hq, t⟩ := items_rep hold r hi
      exact ⟨p, ys, rfl, hq, fun l hl => new_lst hold hl t q⟩
  · cases he
/-- lists of ints, of bools -/
def intsD : List D → Option (List Int)
  | [] => some []
  | .int i :: ds => (intsD ds).map (i :: ·)
  | _ => none
def blsD : List D → Option (List Bool)
  | [] => some []
  | .bl i :: ds => (blsD ds).map (i :: ·)
  | _ => none
theorem ints_rep {m : List Addr} {H : Hp} : ∀ {xs : List V} {ds : List D} {ns : List Int}, Reps g m H xs ds → intsD ds = some ns → xs = ns.map V.int
  | _, _, _, .nil, h => by cases h; rfl
  | _, _, _, .cons (d := d) (ds := ds) r t, h => by
    cases r <;> first | (cases h; done) | skip
    rename_i i
    have h : (intsD ds).map (i :: ·) = some _ := h
    cases e : intsD ds with
    | none => rw [e] at h; cases h
    | some ns => rw [e] at h; cases h; rw [ints_rep t e]; rfl
theorem bls_rep {m : List Addr} {H : Hp} : ∀ {xs : List V} {ds : List D} {ns : List Bool}, Reps g m H xs ds → blsD ds = some ns → xs = ns.map V.bl
  | _, _, _, .nil, h => by cases h; rfl
  | _, _, _, .cons (d := d) (ds := ds) r t, h => by
    cases r <;> first | (cases h; done) | skip
    rename_i i
    have h : (blsD ds).map (i :: ·) = some _ := h
    cases e : blsD ds with
    | none => rw [e] at h; cases h
    | some ns => rw [e] at h; cases h; rw [bls_rep t e]; rfl
theorem ints_map (ns : List Int) : intsD (ns.map D.int) = some ns := by
  induction ns with
  | nil => rfl
  | cons n ns ih => show (intsD (ns.map D.int)).map (n :: ·) = _; rw [ih]; rfl
theorem bls_map (ns : List Bool) : blsD (ns.map D.bl) = some ns := by
  induction ns with
  | nil => rfl
  | cons n ns ih => show (blsD (ns.map D.bl)).map (n :: ·) = _; rw [ih]; rfl
theorem reps_ints {m : List Addr} {H : Hp} : ∀ (ns : List Int), Reps g m H (ns.map V.int) (ns.map D.int)
  | [] => .nil
  | n :: ns => .cons (.int n) (reps_ints ns)
def listItems (d : D) (s : S) : Option (List D) := match d with
  | .rol ds => some ds
  | .ref p => match s[p]? with
    | some (.lst ds) => some ds
    | _ => none
  | _ => none
theorem list_rep {m : List Addr} {H : Hp} {s : S} {v : V} {d : D} {ds : List D} (hold : Hold g m s H) (r : Rep g m H v d) (h : listItems d s = some ds) : ∃ p xs, v = .ref p ∧ SqL g.K H p xs ∧ Reps g m H xs ds := by
  cases r with
  | rol z q => cases h; exact ⟨_, _, rfl, z.sq, q⟩
  | @ref a i z =>
    have h : (match s[i]? with
      | some (.lst ds) => some ds
      | _ => none) = some ds := h
    split at h
    · rename_i e1
      cases h
      obtain ⟨xs, e2, q⟩ := hold.obj i a _ z e1
      exact ⟨a, xs, rfl, .of e2, q⟩
    · cases h
  | _ => cases h
def oneL {α : Type} (P : List D → Option α) (k : S → α → D × S) : OPN := fun ds s => match ds with
  | [d] => ((listItems d s).bind P).map (k s)
  | _ => none
def sortI (ns : List Int) : List Int := ns.mergeSort (fun a b => decide (a ≤ b))
def anyB : OPN := oneL blsD fun s bs => (.bl (bs.any id), s)
def allB : OPN := oneL blsD fun s bs => (.bl (bs.all id), s)
def sumB : OPN := oneL intsD fun s bs => (.int bs.sum, s)
def sortB : OPN := oneL intsD fun s ns => (.ref s.length, s ++ [.lst ((sortI ns).map D.int)])
theorem one_list {m : List Addr} {H : Hp} {s : S} {vs : List V} {ds : List D} {α : Type} {P : List D → Option α} {k : S → α → D × S} {x : D} {s' : S} (hold : Hold g m s H) (rv : Reps g m H vs ds)
    (he : oneL P k ds s = some (x, s')) : ∃ p xs es ns, vs = [.ref p] ∧ SqL g.K H p xs ∧ Reps g m H xs es ∧ P es = some ns ∧ k s ns = (x, s') := by
  unfold oneL at he
  split at he
  · rename_i d
    obtain ⟨v, rfl, r⟩ := reps1 rv
    cases hi : listItems d s with
    | none => rw [hi] at he; cases he
    | some es =>
      rw [hi] at he
      obtain ⟨p, xs, rfl, hq, t⟩ := list_rep hold r hi
      have he : (P es).map (k s) = some (x, s') := he
      cases hp : P es with
      | none => rw [hp] at he; cases he
      | some ns => rw [hp] at he; exact ⟨p, xs, es, ns, rfl, hq, t, hp, Option.some.inj he⟩
  · cases he
theorem on_any : ON g (rAny g.K) anyB := by
  intro m H s vs ds x s' Q hold rv he q
  obtain ⟨p, xs, es, ns, rfl, hq, t, hp, e⟩ := one_list hold rv he
  cases e
  exact ⟨p, ns, rfl, by rw [← bls_rep t hp]; exact hq, PD.here hold (.bl _) q⟩
theorem on_all : ON g (rAll g.K) allB := by
  intro m H s vs ds x s' Q hold rv he q
  obtain ⟨p, xs, es, ns, rfl, hq, t, hp, e⟩ := one_list hold rv he
  cases e
  exact ⟨p, ns, rfl, by rw [← bls_rep t hp]; exact hq, PD.here hold (.bl _) q⟩
theorem on_sum : ON g (rSum g.K) sumB := by
  intro m H s vs ds x s' Q hold rv he q
  obtain ⟨p, xs, es, ns, rfl, hq, t, hp, e⟩ := one_list hold rv he
  cases e
  exact ⟨p, ns, rfl, by rw [← ints_rep t hp]; exact hq, PD.here hold (.int _) q⟩
theorem sort_uniq {ns ys : List Int} (h : ys.Perm ns) (hp : ys.Pairwise (· ≤ ·)) : ys = sortI ns := by
  have h1 : (sortI ns).Perm ns := List.mergeSort_perm ns _
  have h2 : (sortI ns).Pairwise (· ≤ ·) := by
    have := List.pairwise_mergeSort (le := fun a b : Int => decide (a ≤ b)) (by intro a b c; simp only [decide_eq_true_eq]; omega) (by intro a b; simp only [Bool.or_eq_true, decide_eq_true_eq]; omega) ns
    exact this.imp fun h => of_decide_eq_true h
  exact (h.trans h1.symm).eq_of_pairwise (le := (· ≤ ·)) (fun a b _ _ h1 h2 => by omega) hp h2
theorem on_sort : ON g (rSortedI g.K) sortB := by
  intro m H s vs ds x s' Q hold rv he q
  obtain ⟨p, xs, es, ns, rfl, hq, t, hp, e⟩ := one_list hold rv he
  cases e
  refine ⟨p, ns, rfl, by rw [← ints_rep t hp]; exact hq, fun ys l h1 h2 hl => ?_⟩
  rw [sort_uniq h1 h2]
  exact new_lst hold hl (reps_ints _) q
end
end Mi

set_option Elab.async false
set_option linter.all false
set_option maxRecDepth 100000
namespace Mi
open PySem PySem.Spec PyProof.Rows L2

section
variable {g : G} {m : List Addr} {H : Hp} {s : S} {p : Nat} {a : Addr} {v : V} {d : D} {W : XK}
/-- the object p is written: what then holds -/
theorem wr_lst (hold : Hold g m s H) (z : m[p]? = some a) {xs : List V} {ds : List D} (r : Reps g m H xs ds) : Hold g m (s.set p (.lst ds)) (upd H a (.lst xs)) :=
  hold.write z ⟨xs, upd_same, r.le (Le.write hold z)⟩
theorem wr_dct (hold : Hold g m s H) (z : m[p]? = some a) {xs : List (Key × V)} {ds : List (Key × D)} (r : EntK g m H xs ds) : Hold g m (s.set p (.dct ds)) (upd H a (.dK xs)) :=
  hold.write z ⟨xs, upd_same, r.le (Le.write hold z)⟩

/-! ### methods of lists -/
def appM : OPM := fun d ds s => match d, ds with
  | .ref p, [x] => match s[p]? with
    | some (.lst xs) => if xs.length < 16777216 then some (.non, s.set p (.lst (xs ++ [x]))) else none
    | _ => none
  | _, _ => none
theorem om_app : OM g rAppend appM := by
  intro m H s v vs d ds x s' Q hold r rs he q
  unfold appM at he
  split at he
  · rename_i p y
    split at he
    · rename_i xs e1
      by_cases c : xs.length < 16777216
      · rw [if_pos c] at he; cases he
        obtain ⟨a, ys, rfl, z, e2, t⟩ := rep_lst hold r e1
        obtain ⟨w, rfl, rw1⟩ := reps1 rs
        refine ⟨a, ys, w, rfl, rfl, e2, by rw [sizeLine_eq, t.length]; exact c, ?_⟩
        exact q .non m _ (Le.write hold z) (wr_lst hold z (t.append (.cons rw1 .nil))) .non
      · rw [if_neg c] at he; cases he
    · cases he
  · cases he
def extM : OPM := fun d ds s => match d, ds with
  | .ref p, [.ref q] => match s[p]?, s[q]? with
    | some (.lst xs), some (.lst ys) => if xs.length + ys.length ≤ 16777216 then some (.non, s.set p (.lst (xs ++ ys))) else none
    | _, _ => none
  | _, _ => none
theorem om_ext : OM g rExtend extM := by
  intro m H s v vs d ds x s' Q hold r rs he q
  unfold extM at he
  split at he
  · rename_i p p'
    split at he
    · rename_i xs ys e1 e1'
      by_cases c : xs.length + ys.length ≤ 16777216
      · rw [if_pos c] at he; cases he
        obtain ⟨a, us, rfl, z, e2, t⟩ := rep_lst hold r e1
        obtain ⟨w, rfl, rw1⟩ := reps1 rs
        obtain ⟨b, ws, rfl, z', e2', t'⟩ := rep_lst hold rw1 e1'
        refine ⟨a, b, us, ws, rfl, rfl, e2, e2', line_ok (by rw [t.length, t'.length]; exact c), ?_⟩
        exact q .non m _ (Le.write hold z) (wr_lst hold z (t.append t')) .non
      · rw [if_neg c] at he; cases he
    · cases he
  · cases he
def popM : OPM := fun d ds s => match d, ds with
  | .ref p, [] => match s[p]? with
    | some (.lst xs) => match xs[xs.length - 1]? with
      | some x => some (x, s.set p (.lst xs.dropLast))
      | none => none
    | _ => none
  | _, _ => none
theorem Reps.dropLast {xs : List V} {ds : List D} (r : Reps g m H xs ds) : Reps g m H xs.dropLast ds.dropLast := by
  rw [List.dropLast_eq_take, List.dropLast_eq_take, r.length]
  exact r.take _
theorem om_pop : OM g rPop popM := by
  intro m H s v vs d ds x s' Q hold r rs he q
  unfold popM at he
  split at he
  · rename_i p
    split at he
    · rename_i xs e1
      split at he
      · rename_i y hy
        cases he
        obtain ⟨a, us, rfl, z, e2, t⟩ := rep_lst hold r e1
        cases rs
        rw [← t.length] at hy
        obtain ⟨w, hw, rw1⟩ := t.get hy
        refine ⟨a, us, w, rfl, rfl, e2, hw, ?_⟩
        exact q w m _ (Le.write hold z) (wr_lst hold z t.dropLast) (rw1.le (Le.write hold z))
      · cases he
    · cases he
  · cases he

/-! ### dicts with ints and texts as keys -/
def valD (kvs : List (Key × D)) (k : Key) : Option D := (kvs.find? fun kv => decide (kv.1 = k)).map (·.2)
def putD (kvs : List (Key × D)) (k : Key) (v : D) : List (Key × D) :=
  if (kvs.any fun kv => decide (kv.1 = k)) = true then kvs.map (fun kv => if kv.1 = k then (kv.1, v) else kv) else kvs ++ [(k, v)]
def dropD (kvs : List (Key × D)) (k : Key) : List (Key × D) := kvs.filter fun kv => decide (kv.1 ≠ k)
theorem key_rep {v : V} {d : D} {k : Key} (r : Rep g m H v d) (h : keyD d = some k) : v = kV k := by
  cases r <;> first | (cases h; done) | (cases h; rfl)
theorem val_rep {es : List (Key × V)} {kvs : List (Key × D)} {k : Key} (r : EntK g m H es kvs) : (valD kvs k = none ∧ valV es k = none) ∨ ∃ v d, valD kvs k = some d ∧ valV es k = some v ∧ Rep g m H v d := by
  unfold EntK at r
  induction r with
  | nil => exact .inl ⟨rfl, rfl⟩
  | @cons p q ps qs h t ih =>
    by_cases c : p.1 = k
    · have c' : q.1 = k := h.1.trans c
      refine .inr ⟨p.2, q.2, ?_, valV_pos c, h.2⟩
      unfold valD
      rw [List.find?_cons, decide_eq_true c']
      rfl
    · have c' : ¬ q.1 = k := fun z => c (h.1.symm.trans z)
      rw [valV_neg c]
      have e : valD (q :: qs) k = valD qs k := by
        unfold valD
        rw [List.find?_cons, decide_eq_false c']
      rw [e]
      exact ih
theorem any_rep {es : List (Key × V)} {kvs : List (Key × D)} {k : Key} (r : EntK g m H es kvs) : (es.any fun kv => decide (kv.1 = k)) = (kvs.any fun kv => decide (kv.1 = k)) := by
  unfold EntK at r
  induction r with
  | nil => rfl
  | @cons p q ps qs h t ih => rw [List.any_cons, List.any_cons, ih, h.1]
theorem put_rep {es : List (Key × V)} {kvs : List (Key × D)} {k : Key} {v : V} {d : D} (r : EntK g m H es kvs) (rv : Rep g m H v d) : EntK g m H (putK es k v) (putD kvs k d) := by
  unfold putK putD
  rw [any_rep r]
  split
  · unfold EntK at r ⊢
    rename_i hh; clear hh
    induction r with
    | nil => exact .nil
    | @cons p q ps qs h t ih =>
      rw [List.map_cons, List.map_cons]
      refine .cons ?_ ih
      by_cases c : p.1 = k
      · rw [if_pos c, if_pos (h.1.trans c)]; exact ⟨h.1, rv⟩
      · rw [if_neg c, if_neg (fun z => c (h.1.symm.trans z))]; exact h
  · unfold EntK at r ⊢
    rename_i hh; clear hh
    induction r with
    | nil => exact .cons ⟨rfl, rv⟩ .nil
    | @cons p q ps qs h t ih => exact .cons h ih
theorem drop_rep {es : List (Key × V)} {kvs : List (Key × D)} {k : Key} (r : EntK g m H es kvs) : EntK g m H (dropK es k) (dropD kvs k) := by
  unfold dropK dropD
  unfold EntK at r ⊢
  induction r with
  | nil => exact .nil
  | @cons p q ps qs h t ih =>
    rw [List.filter_cons, List.filter_cons]
    by_cases c : p.1 = k
    · rw [if_neg (by simp [c]), if_neg (by simp [h.1.trans c])]; exact ih
    · rw [if_pos (by simp [c]), if_pos (by rw [h.1]; simp [c])]; exact .cons h ih
def dctAt (d : D) (s : S) : Option (List (Key × D)) := match d with
  | .ref p => match s[p]? with
    | some (.dct kvs) => some kvs
    | _ => none
  | _ => none
theorem dct_rep {kvs : List (Key × D)} (hold : Hold g m s H) (r : Rep g m H v d) (h : dctAt d s = some kvs) : ∃ p a es, d = .ref p ∧ v = .ref a ∧ m[p]? = some a ∧ H a = some (.dK es) ∧ EntK g m H es kvs := by
  cases r with
  | @ref a p z =>
    have h : (match s[p]? with
      | some (.dct kvs) => some kvs
      | _ => none) = some kvs := h
    split at h
    · rename_i e1
      cases h
      obtain ⟨es, e2, t⟩ := hold.obj p a _ z e1
      exact ⟨p, a, es, rfl, rfl, z, e2, t⟩
    · cases h
  | _ => cases h
def dgetD : OP2 := fun d e s => match dctAt d s, keyD e with
  | some kvs, some k => (valD kvs k).map fun x => (x, s)
  | _, _ => none
theorem o2_dget : O2 g (fun x y H Q => ∃ a v, x = .ref a ∧ DGet H a y (some v) ∧ Q v H) dgetD := by
  intro m H s v w d e x s' Q hold rv rw he q
  unfold dgetD at he
  split at he
  · rename_i kvs k h1 h2
    obtain ⟨p, a, es, rfl, rfl, z, e2, t⟩ := dct_rep hold rv h1
    rcases val_rep (k := k) t with ⟨e3, _⟩ | ⟨u, d, e3, e4, r⟩
    · rw [e3] at he; cases he
    · rw [e3] at he; cases he
      have := key_rep rw h2
      subst this
      exact ⟨a, u, rfl, by rw [← e4]; exact DGet.k e2, PD.here hold r q⟩
  · cases he
def dinD (neg : Bool) : OP2 := fun e d s => match dctAt d s, keyD e with
  | some kvs, some k => some (.bl (if neg then !(valD kvs k).isSome else (valD kvs k).isSome), s)
  | _, _ => none
theorem din_ok {hold : Hold g m s H} {w : V} {e x : D} {s' : S} {neg : Bool} {Q : VK} (rv : Rep g m H v d) (rw1 : Rep g m H w e) (he : dinD neg e d s = some (x, s')) (q : PD g m H Q x s') :
    ∃ a o, v = .ref a ∧ DGet H a w o ∧ Q (.bl (if neg then !o.isSome else o.isSome)) H := by
  unfold dinD at he
  split at he
  · rename_i kvs k h1 h2
    cases he
    obtain ⟨p, a, es, rfl, rfl, z, e2, t⟩ := dct_rep hold rv h1
    have := key_rep rw1 h2
    subst this
    refine ⟨a, _, rfl, DGet.k (k := k) e2, ?_⟩
    rcases val_rep (k := k) t with ⟨e3, e4⟩ | ⟨u, d, e3, e4, r⟩
    · rw [e3] at q; rw [e4]; exact PD.here hold (.bl _) q
    · rw [e3] at q; rw [e4]; exact PD.here hold (.bl _) q
  · cases he
theorem o2_din : O2 g (fun y x H Q => ∃ a o, x = .ref a ∧ DGet H a y o ∧ Q (.bl o.isSome) H) (dinD false) := by
  intro m H s v w d e x s' Q hold rv rw he q
  exact din_ok (hold := hold) rw rv he q
theorem o2_dnotin : O2 g (fun y x H Q => ∃ a o, x = .ref a ∧ DGet H a y o ∧ Q (.bl (!o.isSome)) H) (dinD true) := by
  intro m H s v w d e x s' Q hold rv rw he q
  exact din_ok (hold := hold) rw rv he q
section
variable {X : Cx} {f f' f'' : EX} {st : Stmt} {e : Expr}
/-- d[k] = v: the value, the dict, the key -/
def sDPutD (f f' f'' : EX) : ST := fun env s => (f env s).go fun x s1 => (f' env s1).go fun d s2 => (f'' env s2).go fun k s3 => match d, dctAt d s3, keyD k with
  | .ref p, some kvs, some k => if kvs.length < 16777216 then .nx env (s3.set p (.dct (putD kvs k x))) else .no
  | _, _, _ => .no
theorem c_dput (h : PS X st (sDPut (sem g W f') (sem g W f'') (sem g W f))) : PS X st (semS g W (sDPutD f f' f'')) := by
  refine PS.of h fun B σ H ⟨m, env, s, a, q⟩ => ?_
  refine sem_k a (R.go_post q) fun x s1 v m1 H1 q1 l1 a1 r1 => ?_
  refine sem_k a1 (R.go_post (Fl.post_le l1 q1)) fun d s2 w m2 H2 q2 l2 a2 r2 => ?_
  refine sem_k a2 (R.go_post (Fl.post_le l2 q2)) fun k s3 u m3 H3 q3 l3 a3 r3 => ?_
  split at q3
  · rename_i p kvs k' h2 h1
    by_cases c : kvs.length < 16777216
    · rw [if_pos c] at q3
      obtain ⟨p', b, es, e0, rfl, z, e2, t⟩ := dct_rep a3.hold (r2.le l3) h1
      cases e0
      have := key_rep r3 h2
      subst this
      have hw := wr_dct a3.hold z (put_rep (k := k') t ((r1.le l2).le l3))
      refine ⟨b, _, rfl, DPut.k e2 (by rw [sizeLine_eq, ent_length t]; exact c), ?_⟩
      exact q3 σ m3 _ (l3.trans (Le.write a3.hold z)) (a3.go (Le.write a3.hold z) hw)
    · rw [if_neg c] at q3; exact q3.elim
  · exact q3.elim
/-- d[k] op= v, of ints: the dict, the key, the value -/
def sDAugD (o : OP2) (f' f'' f : EX) : ST := fun env s => (f' env s).go fun d s1 => (f'' env s1).go fun k s2 => (R.of (dgetD d k s2)).go fun old s2 => (f env s2).go fun x s3 => (R.of (o old x s3)).go fun y s4 => match d, dctAt d s4, keyD k with
  | .ref p, some kvs, some k => if kvs.length < 16777216 then .nx env (s4.set p (.dct (putD kvs k y))) else .no
  | _, _, _ => .no
/-- an operator in place, by values -/
def InR (X : Cx) (op : Operator) (r : R2) : Prop := InOp X op r
theorem c_daug {r : R2} {o : OP2} (h : PS X st (sDAug (sem g W f') (sem g W f'') (sem g W f) r)) (ho : O2 g r o) : PS X st (semS g W (sDAugD o f' f'' f)) := by
  refine PS.of h fun B σ H ⟨m, env, s, a, q⟩ => ?_
  refine sem_k a (R.go_post q) fun d s1 w m1 H1 q1 l1 a1 r1 => ?_
  refine sem_k a1 (R.go_post (Fl.post_le l1 q1)) fun k s2 u m2 H2 q2 l2 a2 r2 => ?_
  obtain ⟨old, s2', e0, q2⟩ := R.post_of (R.go_post q2)
  have e0' := e0
  unfold dgetD at e0
  split at e0
  · rename_i kvs k' h1 h2
    obtain ⟨p, b, es, rfl, rfl, z, e2, t⟩ := dct_rep a2.hold (r1.le l2) h1
    have := key_rep r2 h2
    subst this
    rcases val_rep (k := k') t with ⟨e3, _⟩ | ⟨ov, od, e3, e4, r⟩
    · rw [e3] at e0; cases e0
    · rw [e3] at e0; cases e0
      refine ⟨b, ov, rfl, by rw [← e4]; exact DGet.k e2, ?_⟩
      refine sem_k a2 (R.go_post (Fl.post_le l2 q2)) fun x s3 xv m3 H3 q3 l3 a3 r3 => ?_
      obtain ⟨y, s4, e5, q4⟩ := R.post_of (R.go_post q3)
      refine ho m3 H3 s3 ov xv _ x y s4 _ a3.hold (r.le l3) r3 e5 fun yv m4 H4 l4 hold4 r4 => ?_
      split at q4
      · rename_i p' kvs' k'' e6 e7 e8
        cases e6
        rw [h2] at e8; cases e8
        by_cases c : kvs'.length < 16777216
        · rw [if_pos c] at q4
          have r1' := (((r1.le l2).le l3).le l4)
          obtain ⟨p'', b', es', e9, e10, z', e11, t'⟩ := dct_rep hold4 r1' e7
          cases e9
          cases e10
          have hw := wr_dct hold4 z' (put_rep (k := k') t' r4)
          refine ⟨_, DPut.k e11 (by rw [sizeLine_eq, ent_length t']; exact c), ?_⟩
          exact q4 σ m4 _ (l3.trans (l4.trans (Le.write hold4 z'))) (a3.go (l4.trans (Le.write hold4 z')) hw)
        · rw [if_neg c] at q4; exact q4.elim
      · exact q4.elim
  · cases e0
/-- op= on ints by the operator's own rule -/
def rInI (op : Int → Int → Int) : R2 := fun x y H Q => ∃ i j, x = .int i ∧ y = .int j ∧ Q (.int (op i j)) H
theorem o2_addI : O2 g rAdd (opI (fun _ _ => true) fun i j => .int (i + j)) := by
  intro m H s v w d e x s' Q hold rv rw he q
  obtain ⟨i, j, rfl, rfl, c, rfl, rfl⟩ := opI_some he
  exact ⟨i, j, rep_int rv, rep_int rw, PD.here hold (.int _) q⟩
theorem o2_subI : O2 g rSub (opI (fun _ _ => true) fun i j => .int (i - j)) := by
  intro m H s v w d e x s' Q hold rv rw he q
  obtain ⟨i, j, rfl, rfl, c, rfl, rfl⟩ := opI_some he
  exact ⟨i, j, rep_int rv, rep_int rw, PD.here hold (.int _) q⟩
abbrev addI : OP2 := opI (fun _ _ => true) fun i j => .int (i + j)
/-- x op= e -/
def sAug (i : Nat) (o : OP2) (f : EX) : ST := fun env s => match env[i]? with
  | some (some d) => (f env s).go fun e s1 => (R.of (o d e s1)).go fun x s2 => .nx (env.set i (some x)) s2
  | _ => .no
theorem c_aug {i : Nat} {r : R2} {o : OP2} (h : PS X st (tAug i (sem g W f) r)) (ho : O2 g r o) : PS X st (semS g W (sAug i o f)) := by
  refine PS.of h fun B σ H ⟨m, env, s, a, q⟩ => ?_
  unfold sAug at q
  split at q
  · rename_i d hd
    obtain ⟨x, hx, rx⟩ := a.val i d hd
    refine ⟨x, hx, ?_⟩
    refine sem_k a (R.go_post q) fun e s1 v m1 H1 q1 l1 a1 r1 => ?_
    obtain ⟨y, s2, e1, q2⟩ := R.post_of (R.go_post q1)
    refine ho m1 H1 s1 x v d e y s2 _ a1.hold (rx.le l1) r1 e1 fun yv m2 H2 l2 hold2 r2 => ?_
    exact q2 _ m2 H2 (l1.trans l2) ((a1.go l2 hold2).set r2 i)
  · exact q.elim
theorem ip_of {op : Operator} {r : R2} (h : OpR X (inplaceOp op) r) : PIp X op r := fun pins s σ H x y v u Q I rx ry q => h pins s σ H x y v u Q I rx ry q
/-- xs[i] = v: the value, the list, the index -/
def setLD (d k x : D) (s : S) : Option S := match d, k with
  | .ref p, .int i => match s[p]? with
    | some (.lst xs) => match ixN xs.length i with
      | some j => some (s.set p (.lst (xs.set j x)))
      | none => none
    | _ => none
  | _, _ => none
def sLPut (f f' f'' : EX) : ST := fun env s => (f env s).go fun x s1 => (f' env s1).go fun d s2 => (f'' env s2).go fun k s3 => match setLD d k x s3 with
  | some s4 => .nx env s4
  | none => .no
theorem setL_ok {m : List Addr} {H : Hp} {s s' : S} {v w u : V} {d k x : D} {Q : Hp → Prop} (hold : Hold g m s H) (r : Rep g m H v d) (r' : Rep g m H w k) (r'' : Rep g m H u x) (h : setLD d k x s = some s')
    (q : ∀ H', Le m H m H' → Hold g m s' H' → Q H') : rSetL v w u H Q := by
  unfold setLD at h
  split at h
  · rename_i p i
    split at h
    · rename_i xs e1
      split at h
      · rename_i j e2
        cases h
        obtain ⟨a, ys, rfl, z, e3, t⟩ := rep_lst hold r e1
        refine ⟨a, ys, i, j, rfl, rep_int r', e3, by rw [t.length]; exact e2, ?_⟩
        exact q _ (Le.write hold z) (wr_lst hold z (t.set r'' j))
      · cases h
    · cases h
  · cases h
theorem c_lput (h : PS X st (tAsg (sem g W f) (gSub (sem g W f') (sem g W f'') rSetL))) : PS X st (semS g W (sLPut f f' f'')) := by
  refine PS.of h fun B σ H ⟨m, env, s, a, q⟩ => ?_
  refine sem_k a (R.go_post q) fun x s1 v m1 H1 q1 l1 a1 r1 => ?_
  refine sem_k a1 (R.go_post (Fl.post_le l1 q1)) fun d s2 w m2 H2 q2 l2 a2 r2 => ?_
  refine sem_k a2 (R.go_post (Fl.post_le l2 q2)) fun k s3 u m3 H3 q3 l3 a3 r3 => ?_
  split at q3
  · rename_i s4 e1
    exact setL_ok a3.hold (r2.le l3) r3 ((r1.le l2).le l3) e1 fun H' l' h' => q3 σ m3 H' (l3.trans l') (a3.go l' h')
  · exact q3.elim
end
end

/-! ### displays of dicts -/
def evPs : List (EX × EX) → Env → S → R (List (D × D))
  | [], _, s => .ok [] s
  | (fk, fv) :: r, env, s => (fk env s).bind fun k s1 => (fv env s1).bind fun v s2 => (evPs r env s2).bind fun ps s3 => .ok ((k, v) :: ps) s3
def keyed : List (D × D) → Option (List (Key × D))
  | [] => some []
  | (k, v) :: r => match keyD k, keyed r with
    | some k', some r' => some ((k', v) :: r')
    | _, _ => none
def mergeD (kvs more : List (Key × D)) : List (Key × D) := more.foldl (fun acc kv => putD acc kv.1 kv.2) kvs
def eDct (trs : List (EX × EX)) : EX := fun env s => (evPs trs env s).bind fun ps s1 => match keyed ps with
  | some kvs => if kvs.length ≤ 15 then .ok (.ref s1.length) (s1 ++ [.dct (mergeD [] kvs)]) else .no
  | none => .no
def RepPs (g : G) (m : List Addr) (H : Hp) : List (V × V) → List (D × D) → Prop := Paired fun p q => Rep g m H p.1 q.1 ∧ Rep g m H p.2 q.2
section
variable {X : Cx} {g : G} {W : XK}
theorem pairs_ok {m : List Addr} {H : Hp} {σ : L2.St} {env : Env} {K : List (V × V) → Hp → Prop} : ∀ (trs : List (EX × EX)) {s : S} {P : List (D × D) → S → Prop}, Ag g m σ H env s → (evPs trs env s).post P (WX g m H W) →
    (∀ ps s1 vs m1 H1, P ps s1 → Le m H m1 H1 → Ag g m1 σ H1 env s1 → RepPs g m1 H1 vs ps → K vs H1) → tPairs (trs.map fun p => (sem g W p.1, sem g W p.2)) σ H K := by
  intro trs
  induction trs generalizing m H K with
  | nil => intro s P a q k; exact k [] s [] m H q (Le.refl _ _) a .nil
  | cons p r ih =>
    intro s P a q k
    obtain ⟨fk, fv⟩ := p
    refine sem_k a (R.post_bind q) fun kd s1 kv m1 H1 q1 l1 a1 r1 => ?_
    refine sem_k a1 (R.post_mono (R.post_bind q1) (fun _ _ z => z) fun _ _ _ z => WX.le l1 z) fun d s2 v m2 H2 q2 l2 a2 r2 => ?_
    refine ih a2 (R.post_mono (R.post_bind q2) (fun _ _ z => z) fun _ _ _ z => WX.le (l1.trans l2) z) fun ps s3 vs m3 H3 q3 l3 a3 r3 => ?_
    exact k _ s3 ((kv, v) :: vs) m3 H3 q3 (l1.trans (l2.trans l3)) a3 (.cons ⟨(r1.le l2).le l3, r2.le l3⟩ r3)
theorem keyed_rep {m : List Addr} {H : Hp} : ∀ {vs : List (V × V)} {ps : List (D × D)} {kvs : List (Key × D)}, RepPs g m H vs ps → keyed ps = some kvs → ∃ es : List (Key × V), vs = es.map (fun kv => (kV kv.1, kv.2)) ∧ EntK g m H es kvs
  | _, _, _, .nil, h => by cases h; exact ⟨[], rfl, .nil⟩
  | _, _, _, .cons (a := p) (b := q) r t, h => by
    obtain ⟨pk, pv⟩ := p
    obtain ⟨qk, qv⟩ := q
    unfold keyed at h
    split at h
    · rename_i k' r' h1 h2
      cases h
      obtain ⟨es, rfl, t'⟩ := keyed_rep t h2
      have := key_rep r.1 h1
      refine ⟨(k', pv) :: es, ?_, .cons ⟨rfl, r.2⟩ t'⟩
      rw [List.map_cons]
      have this : pk = kV k' := this
      show (pk, pv) :: _ = (kV k', pv) :: _
      rw [this]
    · cases h
theorem merge_rep {m : List Addr} {H : Hp} : ∀ {es : List (Key × V)} {kvs : List (Key × D)} {es0 : List (Key × V)} {kvs0 : List (Key × D)}, EntK g m H es kvs → EntK g m H es0 kvs0 → EntK g m H (mergeK es0 es) (mergeD kvs0 kvs) := by
  intro es kvs es0 kvs0 r
  unfold EntK at r
  induction r generalizing es0 kvs0 with
  | nil => intro q; exact q
  | @cons p q ps qs h t ih =>
    intro r0
    show EntK g m H (mergeK (putK es0 p.1 p.2) ps) (mergeD (putD kvs0 q.1 q.2) qs)
    refine ih ?_
    rw [h.1]
    exact put_rep r0 h.2
theorem s_dct {pos : Pos} {keys : List (Option Expr)} {values : List Expr} {trs : List (EX × EX)} (h : PPs X pos keys values (trs.map fun p => (sem g W p.1, sem g W p.2))) (hall : keys.all (·.isSome) = true) (hl : keys.length = values.length) (h0 : keys ≠ [])
    (h15 : keys.length ≤ 15) : PE X (.Dict keys values pos) (sem g W (eDct trs)) := by
  refine PE.of (pe_disp h hall hl h0 h15) fun σ H Q ⟨m, env, s, ag, q⟩ => ?_
  intro p hp
  have ag0 : Ag g m σ (upd H p (.dK [])) env s := ag.go (Le.aside ag.hold hp) (ag.hold.aside hp)
  have l0 : Le m H m (upd H p (.dK [])) := Le.aside ag.hold hp
  refine pairs_ok trs ag0 (R.post_mono (R.post_bind q) (fun _ _ z => z) fun _ _ _ z => WX.le l0 z) fun ps s1 vs m1 H1 q1 l1 a1 r1 => ?_
  have hp1 : p ∉ m := ag.hold.free hp
  have e1 : H1 p = some (.dK []) := l1.rest p _ hp1 upd_same
  have hp2 : p ∉ m1 := l1.nin hp1 upd_same
  refine ⟨e1, ?_⟩
  split at q1
  · rename_i kvs hk
    by_cases c : kvs.length ≤ 15
    · rw [if_pos c] at q1
      obtain ⟨es, rfl, t⟩ := keyed_rep r1 hk
      refine ⟨es, rfl, by rw [ent_length t]; exact c, ?_⟩
      have n1 : ∀ xs : List V, HO.dK [] ≠ .tup xs := fun _ z => by cases z
      have n2 : ∀ (ob : Obj) (v : HO), HO.dK [] ≠ .frz ob v := fun _ _ z => by cases z
      have n3 : ∀ y : Addr, HO.dK [] ≠ .own y := fun _ z => by cases z
      refine q1 (.ref p) (m1 ++ [p]) _ (Le.join hp l1 hp2) (a1.hold.join hp2 e1 n1 n2 n3 ⟨_, upd_same, (merge_rep t .nil).lr (Lr.join hp2 e1 n1 n2)⟩) (.ref (by rw [← a1.hold.len, List.getElem?_append_right (Nat.le_refl _), Nat.sub_self]; rfl))
    · rw [if_neg c] at q1; exact q1.elim
  · exact q1.elim
end
end Mi

set_option Elab.async false
set_option linter.all false
set_option maxRecDepth 100000
namespace Mi
open PySem PySem.Spec PyProof.Rows L2

def wipeE (env : Env) : List Nat → Env
  | [] => env
  | v :: vs => (wipeE env vs).set v none
theorem wipe_get (σ : L2.St) (i : Nat) : ∀ vs : List Nat, (wipe σ vs)[i]? = if i ∈ vs then σ[i]?.map (fun _ => none) else σ[i]?
  | [] => by simp [wipe]
  | v :: vs => by
    unfold wipe
    by_cases c : v = i
    · subst c
      by_cases h : v < σ.length
      · rw [List.getElem?_set_self (by rw [wipe_length]; exact h), if_pos List.mem_cons_self, List.getElem?_eq_getElem h]; rfl
      · rw [List.getElem?_eq_none (by rw [List.length_set, wipe_length]; omega), if_pos List.mem_cons_self, List.getElem?_eq_none (by omega)]; rfl
    · rw [List.getElem?_set_ne c, wipe_get σ i vs]
      have : i ∈ v :: vs ↔ i ∈ vs := ⟨fun h => (List.mem_cons.mp h).elim (fun z => absurd z.symm c) id, fun h => List.mem_cons_of_mem _ h⟩
      by_cases k : i ∈ vs
      · rw [if_pos k, if_pos (this.mpr k)]
      · rw [if_neg k, if_neg (fun z => k (this.mp z))]
theorem wipe_idem (σ : L2.St) (vs : List Nat) : wipe (wipe σ vs) vs = wipe σ vs := by
  apply List.ext_getElem?
  intro i
  rw [wipe_get, wipe_get]
  split
  · cases σ[i]? <;> rfl
  · rfl
theorem wipe_set {σ : L2.St} {vs : List Nat} {i : Nat} {x : Option V} (h : i ∈ vs) : wipe (σ.set i x) vs = wipe σ vs := by
  apply List.ext_getElem?
  intro j
  rw [wipe_get, wipe_get]
  by_cases c : i = j
  · subst c
    rw [if_pos h, if_pos h]
    by_cases k : i < σ.length
    · rw [List.getElem?_set_self k, List.getElem?_eq_getElem k]; rfl
    · rw [List.getElem?_eq_none (by rw [List.length_set]; omega), List.getElem?_eq_none (by omega)]
  · rw [List.getElem?_set_ne c]
theorem wipeE_length (env : Env) : ∀ vs, (wipeE env vs).length = env.length
  | [] => rfl
  | v :: vs => by unfold wipeE; rw [List.length_set, wipeE_length env vs]
theorem wipeE_some {env : Env} {i : Nat} {d : D} : ∀ {vs : List Nat}, (wipeE env vs)[i]? = some (some d) → env[i]? = some (some d) ∧ i ∉ vs
  | [], h => ⟨h, by simp⟩
  | v :: vs, h => by
    unfold wipeE at h
    by_cases hi : v = i
    · subst hi
      by_cases hv : v < (wipeE env vs).length
      · rw [List.getElem?_set_self hv] at h; cases h
      · rw [List.getElem?_eq_none (by simpa using hv)] at h; cases h
    · rw [List.getElem?_set_ne hi] at h
      obtain ⟨h1, h2⟩ := wipeE_some h
      exact ⟨h1, by simp only [List.mem_cons, not_or]; exact ⟨fun e => hi e.symm, h2⟩⟩
theorem Ag.wipe {g : G} {m : List Addr} {σ : L2.St} {H : Hp} {env : Env} {s : S} (a : Ag g m σ H env s) (vs : List Nat) : Ag g m (L2.wipe σ vs) H (wipeE env vs) s := by
  refine ⟨a.hold, by rw [wipeE_length, wipe_length]; exact a.len, fun i d h => ?_⟩
  obtain ⟨h1, h2⟩ := wipeE_some h
  obtain ⟨v, e, r⟩ := a.val i d h1
  exact ⟨v, by rw [wipe_get, if_neg h2]; exact e, r⟩
def T.vars : T → List Nat
  | .n i => [i]
  | .t is => is
section
variable {X : Cx} {g : G} {W : XK}
theorem setAll_ok2 {m : List Addr} {H : Hp} {s : S} {vs0 : List Nat} {Q : L2.St → Hp → Prop} : ∀ {is : List Nat} {ds : List D} {vs : List V} {env : Env} {σ : L2.St}, ds.length = is.length → Reps g m H vs ds → Ag g m σ H env s → (∀ i ∈ is, i ∈ vs0) →
    (∀ σ', Ag g m σ' H (setAll is ds env) s → wipe σ' vs0 = wipe σ vs0 → Q σ' H) → gNs is vs σ H Q
  | [], [], _, env, σ, _, .nil, a, _, k => ⟨rfl, k σ a rfl⟩
  | i :: is, d :: ds, _, env, σ, h, .cons (v := v) (vs := vs) r t, a, hv, k => ⟨v, vs, rfl, setAll_ok2 (by simpa using h) t (a.set r i) (fun j hj => hv j (List.mem_cons_of_mem _ hj)) fun σ' a' e => k σ' a' (e.trans (wipe_set (hv i List.mem_cons_self)))⟩
  | [], _ :: _, _, _, _, h, _, _, _, _ => by simp at h
  | _ :: _, [], _, _, _, h, _, _, _, _ => by simp at h
theorem asgT_ok2 {t : T} {m : List Addr} {H : Hp} {s : S} {vs0 : List Nat} {Q : L2.St → Hp → Prop} {d : D} {v : V} {env env' : Env} {σ : L2.St} (a : Ag g m σ H env s) (r : Rep g m H v d) (h : asgT t d env = some env') (hv : ∀ i ∈ t.vars, i ∈ vs0)
    (k : ∀ σ', Ag g m σ' H env' s → wipe σ' vs0 = wipe σ vs0 → Q σ' H) : gT g.K t v σ H Q := by
  cases t with
  | n i => cases h; exact k _ (a.set r i) (wipe_set (hv i List.mem_cons_self))
  | t is =>
    cases r with
    | @tup b xs ds z q =>
      have h : (if ds.length = is.length then some (setAll is ds env) else none) = some env' := h
      by_cases c : ds.length = is.length
      · rw [if_pos c] at h; cases h
        exact ⟨b, xs, rfl, z.sq, by rw [q.length]; exact c, setAll_ok2 c q a hv k⟩
      · rw [if_neg c] at h; cases h
    | _ => cases h

/-! an object aside that is written -/
theorem Lr.turn {m : List Addr} {H : Hp} {p : Addr} {x u : HO} (e : H p = some x) (h1 : ∀ xs, x ≠ .tup xs) (h2 : ∀ ob v, x ≠ .frz ob v) : Lr m H m (upd H p u) := by
  refine ⟨List.prefix_refl m, fun a xs h q => ?_, fun a ob w h q => ?_⟩
  · have n : a ≠ p := fun z => by subst z; rw [e] at q; exact h1 xs (Option.some.inj q)
    exact ⟨by rw [upd_ne n]; exact q, h⟩
  · have n : a ≠ p := fun z => by subst z; rw [e] at q; exact h2 ob w (Option.some.inj q)
    exact ⟨by rw [upd_ne n]; exact q, h⟩
theorem Hold.turn {m : List Addr} {s : S} {H : Hp} {p : Addr} {x u : HO} (h : Hold g m s H) (hp : p ∉ m) (e : H p = some x) (h1 : ∀ xs, x ≠ .tup xs) (h2 : ∀ ob v, x ≠ .frz ob v) (h3 : ∀ y, x ≠ .own y) : Hold g m s (upd H p u) := by
  refine ⟨h.len, h.nd, fun q b o' e1 e2 => ?_⟩
  have r := h.obj q b o' e1 e2
  have nb : b ≠ p := fun z => hp (z ▸ List.mem_of_getElem? e1)
  exact r.lr_of (Lr.turn e h1 h2) (upd_ne nb) fun d (q' : _ = some (HO.own b)) => by rw [upd_ne (fun z => by rw [z, e] at q'; exact h3 b (Option.some.inj q'))]; exact q'
theorem Le.turn {m m' : List Addr} {H H' : Hp} {p : Addr} {x u : HO} (l : Le m (upd H p x) m' H') (hp : p ∉ m') : Le m (upd H p u) m' (upd H' p u) := by
  refine ⟨l.pre, fun a o ha e => ?_, fun a ha hn => ?_⟩
  · by_cases c : a = p
    · subst c; rw [upd_same] at e ⊢; exact e
    · rw [upd_ne c] at e ⊢
      exact l.rest a o ha (by rw [upd_ne c]; exact e)
  · have n : a ≠ p := fun z => hp (z ▸ ha)
    have := l.fresh a ha hn
    rw [upd_ne n] at this ⊢
    exact this
theorem upd_self {H : Hp} {p : Addr} {x : HO} (e : H p = some x) : upd H p x = H := by
  funext a
  by_cases c : a = p
  · subst c; rw [upd_same, e]
  · rw [upd_ne c]

/-! ### comprehensions -/
open Classical in
noncomputable def compL (t : T) (vs : List Nat) (c : EB) (e : EX) (ok : S → Prop) (env : Env) : List D → S → R (List D)
  | [], s => if ok s then .ok [] s else .no
  | d :: ds, s => if ok s then (match asgT t d (wipeE env vs) with
    | none => .no
    | some env1 => match c env1 s with
      | .ok true s1 => (match e env1 s1 with
        | .ok y s2 => (match compL t vs c e ok env ds s2 with
          | .ok ys s3 => .ok (y :: ys) s3
          | _ => .no)
        | _ => .no)
      | .ok false s1 => compL t vs c e ok env ds s1
      | _ => .no) else .no
noncomputable def eLc (it : EI) (t : T) (vs : List Nat) (c : EB) (e : EX) : EX := fun env s => (it env s).bind fun w s1 => if w.items.length ≤ 16777216 then
  (match compL t vs c e w.ok env w.items s1 with
  | .ok ys s2 => .ok (.ref s2.length) (s2 ++ [.lst ys])
  | _ => .no) else .no
def yes : EB := fun _ s => .ok true s
theorem c_lc {it : EI} {t : T} {vs : List Nat} {c : EB} {e : EX} {tt : TT} {σ : L2.St} {H : Hp} {Q : VK} (hv : ∀ i ∈ t.vars, i ∈ vs) (htt : ∀ σ H Q, semB g E0 c σ H Q → tt σ H Q) (h : sem g W (eLc it t vs c e) σ H Q) : tLc (semI g W it) (gT g.K t) tt (sem g E0 e) vs σ H Q := by
  obtain ⟨m, env, s, ag, q⟩ := h
  refine semI_k ag (R.post_bind q) fun w s1 J m1 H1 q1 l1 a1 hw => ?_
  by_cases hlen : w.items.length ≤ 16777216
  · rw [if_pos hlen] at q1
    intro D0 hD
    have n1 : ∀ ys xs : List V, HO.lst ys ≠ .tup xs := fun _ _ z => by cases z
    have n2 : ∀ (ys : List V) (ob : Obj) (v : HO), HO.lst ys ≠ .frz ob v := fun _ _ _ z => by cases z
    have n3 : ∀ (ys : List V) (y : Addr), HO.lst ys ≠ .own y := fun _ _ z => by cases z
    have hD1 : D0 ∉ m1 := a1.hold.free hD
    refine ⟨fun i n H' => n = w.items.length - i ∧ i ≤ w.items.length ∧ ∃ m' s' acc accV, Le m1 (upd H1 D0 (.lst accV)) m' H' ∧ Hold g m' s' H' ∧ Reps g m' H' accV acc ∧ acc.length ≤ i ∧
      (match compL t vs c e w.ok env (w.items.drop i) s' with
        | .ok ys s2 => PD g m1 H1 Q (.ref s2.length) (s2 ++ [.lst (acc ++ ys)])
        | _ => False), ⟨w.items.length, by simp, Nat.zero_le _, m1, s1, [], [], Le.refl _ _, a1.hold.aside hD, .nil, Nat.zero_le _, ?_⟩, ?_⟩
    · rw [List.drop_zero]
      split at q1
      · rename_i ys s2 e1
        exact PD.le l1 q1
      · exact q1.elim
    · rintro i n H2 ⟨rfl, hi, m2, s2, acc, accV, l2, h2, r2, hacc, q2⟩
      have hD2 : D0 ∉ m2 := l2.nin hD1 upd_same
      have eD : H2 D0 = some (.lst accV) := l2.rest D0 _ hD1 upd_same
      have l2' : Le m1 H1 m2 H2 := (Le.aside a1.hold hD).trans l2
      have l02 : Le m H m2 H2 := l1.trans l2'
      by_cases hlt : i < w.items.length
      · rw [List.drop_eq_getElem_cons hlt] at q2
        unfold compL at q2
        by_cases hok : w.ok s2
        · rw [if_pos hok] at q2
          have hg := (hw m2 s2 H2 i l2' h2 hok).1 w.items[i] (List.getElem?_eq_getElem hlt)
          refine .inr ⟨hg.1, fun H' => i + 1 ≤ w.items.length ∧ ∃ m' s' acc accV, Le m1 (upd H1 D0 (.lst accV)) m' H' ∧ Hold g m' s' H' ∧ Reps g m' H' accV acc ∧ acc.length ≤ i + 1 ∧
            (match compL t vs c e w.ok env (w.items.drop (i + 1)) s' with
              | .ok ys s2 => PD g m1 H1 Q (.ref s2.length) (s2 ++ [.lst (acc ++ ys)])
              | _ => False), fun H' z => ⟨w.items.length - (i + 1), by omega, rfl, z⟩, fun x H3 hy => ?_⟩
          obtain ⟨l3, h3, r3⟩ := hg.2 x H3 hy
          have a3 : Ag g m2 σ H3 env s2 := (ag.go (l02.trans l3) h3)
          cases e1 : asgT t w.items[i] (wipeE env vs) with
          | none => rw [e1] at q2; exact q2.elim
          | some env3 =>
            rw [e1] at q2
            refine asgT_ok2 (vs0 := vs) (a3.wipe vs) r3 e1 hv fun σ4 a4 ew => ⟨ew.trans (wipe_idem σ vs), htt _ _ _ ?_⟩
            dsimp only at q2
            cases e2 : c env3 s2 with
            | no => rw [e2] at q2; exact q2.elim
            | ex cc x s5 => rw [e2] at q2; exact q2.elim
            | ok b s5 =>
              rw [e2] at q2
              refine ⟨m2, env3, s2, a4, ?_⟩
              rw [e2]
              intro m5 H5 l5 h5
              have l25 : Le m1 (upd H1 D0 (.lst accV)) m5 H5 := l2.trans (l3.trans l5)
              cases b with
              | false =>
                refine iteF ⟨hlt, m5, s5, acc, accV, l25, h5, r2.le (l3.trans l5), by omega, q2⟩
              | true =>
                refine iteT ?_
                dsimp only at q2
                cases e3 : e env3 s5 with
                | no => rw [e3] at q2; exact q2.elim
                | ex cc x s6 => rw [e3] at q2; exact q2.elim
                | ok y s6 =>
                  rw [e3] at q2
                  refine ⟨m5, env3, s5, a4.go l5 h5, ?_⟩
                  rw [e3]
                  intro yv m6 H6 l6 h6 r6
                  have l26 : Le m1 (upd H1 D0 (.lst accV)) m6 H6 := l25.trans l6
                  have hD6 : D0 ∉ m6 := l26.nin hD1 upd_same
                  have eD6 : H6 D0 = some (.lst accV) := l26.rest D0 _ hD1 upd_same
                  have r2' := r2.le (l3.trans (l5.trans l6))
                  refine ⟨accV, eD6, ?_, hlt, m6, s6, acc ++ [y], accV ++ [yv], l26.turn hD6, h6.turn hD6 eD6 (n1 _) (n2 _) (n3 _), (r2'.append (.cons r6 .nil)).lr (Lr.turn eD6 (n1 _) (n2 _)), ?_, ?_⟩
                  · rw [r2.length, sizeLine_eq]
                    show acc.length < 16777216
                    omega
                  · rw [List.length_append, List.length_singleton]; omega
                  · dsimp only at q2
                    cases e4 : compL t vs c e w.ok env (List.drop (i + 1) w.items) s6 with
                    | no => rw [e4] at q2; exact q2.elim
                    | ex cc x s7 => rw [e4] at q2; exact q2.elim
                    | ok ys s7 =>
                      rw [e4] at q2
                      dsimp only at q2 ⊢
                      rw [List.append_assoc]
                      exact q2
        · rw [if_neg hok] at q2; exact q2.elim
      · have e0 : i = w.items.length := by omega
        subst e0
        rw [List.drop_length] at q2
        unfold compL at q2
        by_cases hok : w.ok s2
        · rw [if_pos hok] at q2
          refine .inl ⟨(hw m2 s2 H2 _ l2' h2 hok).2 (Nat.le_refl _), ?_⟩
          dsimp only at q2
          rw [List.append_nil] at q2
          have hj : upd H2 D0 (.lst accV) = H2 := upd_self eD
          have := q2 (.ref D0) (m2 ++ [D0]) (upd H2 D0 (.lst accV)) (Le.join hD l2 hD2) (h2.join hD2 eD (n1 _) (n2 _) (n3 _) ⟨accV, upd_same, r2.lr (Lr.join hD2 eD (n1 _) (n2 _))⟩) (.ref (by rw [← h2.len, List.getElem?_append_right (Nat.le_refl _), Nat.sub_self]; rfl))
          rw [hj] at this
          exact this
        · rw [if_neg hok] at q2; exact q2.elim
  · rw [if_neg hlen] at q1; exact q1.elim
theorem s_lc {ex : Expr} {it : EI} {t : T} {vs : List Nat} {c : EB} {e : EX} (h : PE X ex (tLc (semI g W it) (gT g.K t) (semB g E0 c) (sem g E0 e) vs)) (hv : ∀ i ∈ t.vars, i ∈ vs) : PE X ex (sem g W (eLc it t vs c e)) :=
  PE.of h fun σ H Q q => c_lc hv (fun _ _ _ z => z) q
theorem s_lc0 {ex : Expr} {it : EI} {t : T} {vs : List Nat} {e : EX} (h : PE X ex (tLc (semI g W it) (gT g.K t) tYes (sem g E0 e) vs)) (hv : ∀ i ∈ t.vars, i ∈ vs) : PE X ex (sem g W (eLc it t vs yes e)) :=
  PE.of h fun σ H Q q => c_lc hv (fun σ H Q ⟨m, env, s, ag, q⟩ => q m H (Le.refl _ _) ag.hold) q
theorem c_setLc {st : Stmt} {i : Nat} {it : EI} {t : T} {vs : List Nat} {c : EB} {e : EX} (h : PS X st (tAsg (tLc (semI g W it) (gT g.K t) (semB g E0 c) (sem g E0 e) vs) (gName i))) (hv : ∀ i ∈ t.vars, i ∈ vs) : PS X st (semS g W (sSet i (eLc it t vs c e))) :=
  c_set (PS.of h fun B σ H q => c_lc hv (fun _ _ _ z => z) q)
theorem c_setLc0 {st : Stmt} {i : Nat} {it : EI} {t : T} {vs : List Nat} {e : EX} (h : PS X st (tAsg (tLc (semI g W it) (gT g.K t) tYes (sem g E0 e) vs) (gName i))) (hv : ∀ i ∈ t.vars, i ∈ vs) : PS X st (semS g W (sSet i (eLc it t vs yes e))) :=
  c_set (PS.of h fun B σ H q => c_lc hv (fun σ H Q ⟨m, env, s, ag, q⟩ => q m H (Le.refl _ _) ag.hold) q)
end
end Mi

set_option Elab.async false
set_option linter.all false
set_option maxRecDepth 100000
namespace Mi
open PySem PySem.Spec PyProof.Rows L2

/-! ### a dict comprehension stored in a name (as ps_setLc) -/
section
variable {X : Cx}
theorem ps_setDc {i : Nat} {y : Str} {py : Pos} {kx vx tg iter : Expr} {ifs : List Expr} {scope : Scope} {own : List (Str × Nat)} {pos spos : Pos} {wi : TI} {g : TG} {tt : TT} {tk tv : TE} (hc : X.calm = true) (hN : X.N.Nodup) (hy : X.N[i]? = some y) (hyl : X.env.scope.names.lookup y = some .local)
    (hsw : swapsWith (.DictComp kx vx [⟨tg, iter, ifs, 0⟩] scope pos) (some (.Name y py)) spos.line X.env = pure true) (hi : PI X tg iter wi) (ok : BlkOk X.N X.env.scope scope own)
    (hg : ∀ (s : Shared) (H : Hp) (C : Addr) (cl : List (Str × Addr)) (fp : List Addr), PG (X.blk s H scope (compEnvC scope cl C X.env) fp) tg g) (ht : ∀ (s : Shared) (H : Hp) (C : Addr) (cl : List (Str × Addr)) (fp : List Addr), PTs (X.blk s H scope (compEnvC scope cl C X.env) fp) ifs tt)
    (hk : ∀ (s : Shared) (H : Hp) (C : Addr) (cl : List (Str × Addr)) (fp : List Addr), PE (X.blk s H scope (compEnvC scope cl C X.env) fp) kx tk)
    (he : ∀ (s : Shared) (H : Hp) (C : Addr) (cl : List (Str × Addr)) (fp : List Addr), PE (X.blk s H scope (compEnvC scope cl C X.env) fp) vx tv) (hs : ∀ x, foldedSetIterable iter X.env x = pure x := by intro _; rfl) :
    PS X (.Assign [.Name y py] (.DictComp kx vx [⟨tg, iter, ifs, 0⟩] scope pos) spos) (tAsg (tDc wi g tt tk tv (own.map (·.2))) (gName i)) := by
  refine ⟨fun pins s σ H D I h => ?_⟩
  rw [exec_Assign_Name_used _ _ _ _ hsw]
  refine wpAny_bind (wpAny_standAt (wpAny_bind ?_))
  show wpAny _ X.A (do let _ ← comprehension (.DictComp kx vx [⟨tg, iter, ifs, 0⟩] scope pos) scope X.env (firstIterPos [⟨tg, iter, ifs, 0⟩] pos) newDict false (eval iter X.env) (some (assign (.Name y py) X.env))) _ _ s
  have h : tDc wi g tt tk tv (own.map (·.2)) σ H (fun x H1 => gName i x σ H1 D.nx) := h
  refine wpAny_bind (thn (dc_core (Qf := fun _ s' => SP X pins D .next s') hc hN I hi ok hg ht hk he hs h fun L C s' m H' I' q hn f => ?_) fun _ s' hq => wpAny_pure (wpAny_pure hq))
  show wpAny _ _ (assign (.Name y py) X.env (.ref L)) _ _ _
  refine wpAny_assign_Name (store_ok2 (v := V.ref L) I' hN hy (.inl hyl) rfl (fun s2 I2 ⟨a, sb, ha⟩ => ?_) (.inr hyl))
  obtain ⟨f0, f1, f2, f3, f4, f5⟩ := f
  have haC : C ≠ a := by
    rcases ha with z | z
    · rw [z]; exact f1
    · exact fun e => f4 y a z e.symm
  refine ⟨m, hn.sameBut sb haC, fun h3 sb3 => ?_⟩
  exact ⟨_, H', I2.turned (t' := s2.toks) (fun b o hb e => (sb3.2 b hb).trans e) f0 f1 f3 f4 f5, q⟩
end

open Classical in
noncomputable def compD (t : T) (vs : List Nat) (c : EB) (ek ev : EX) (ok : S → Prop) (env : Env) : List D → List (Key × D) → S → R (List (Key × D))
  | [], acc, s => if ok s then .ok acc s else .no
  | d :: ds, acc, s => if ok s then (match asgT t d (wipeE env vs) with
    | none => .no
    | some env1 => match c env1 s with
      | .ok true s1 => (match ek env1 s1 with
        | .ok k s2 => (match ev env1 s2 with
          | .ok y s3 => (match keyD k with
            | some k' => compD t vs c ek ev ok env ds (putD acc k' y) s3
            | none => .no)
          | _ => .no)
        | _ => .no)
      | .ok false s1 => compD t vs c ek ev ok env ds acc s1
      | _ => .no) else .no
noncomputable def eDc (it : EI) (t : T) (vs : List Nat) (c : EB) (ek ev : EX) : EX := fun env s => (it env s).bind fun w s1 => if w.items.length ≤ 16777216 then
  (match compD t vs c ek ev w.ok env w.items [] s1 with
  | .ok kvs s2 => .ok (.ref s2.length) (s2 ++ [.dct kvs])
  | _ => .no) else .no
theorem putD_length (kvs : List (Key × D)) (k : Key) (v : D) : (putD kvs k v).length ≤ kvs.length + 1 := by
  unfold putD
  split
  · rw [List.length_map]; omega
  · rw [List.length_append]; exact Nat.le_refl _
section
variable {X : Cx} {g : G} {W : XK}
theorem c_dc {it : EI} {t : T} {vs : List Nat} {c : EB} {ek ev : EX} {tt : TT} {σ : L2.St} {H : Hp} {Q : VK} (hv : ∀ i ∈ t.vars, i ∈ vs) (htt : ∀ σ H Q, semB g E0 c σ H Q → tt σ H Q) (h : sem g W (eDc it t vs c ek ev) σ H Q) :
    tDc (semI g W it) (gT g.K t) tt (sem g E0 ek) (sem g E0 ev) vs σ H Q := by
  obtain ⟨m, env, s, ag, q⟩ := h
  refine semI_k ag (R.post_bind q) fun w s1 J m1 H1 q1 l1 a1 hw => ?_
  by_cases hlen : w.items.length ≤ 16777216
  · rw [if_pos hlen] at q1
    intro D0 hD
    have n1 : ∀ (ys : List (Key × V)) (xs : List V), HO.dK ys ≠ .tup xs := fun _ _ z => by cases z
    have n2 : ∀ (ys : List (Key × V)) (ob : Obj) (v : HO), HO.dK ys ≠ .frz ob v := fun _ _ _ z => by cases z
    have n3 : ∀ (ys : List (Key × V)) (y : Addr), HO.dK ys ≠ .own y := fun _ _ z => by cases z
    have hD1 : D0 ∉ m1 := a1.hold.free hD
    refine ⟨fun i n H' => n = w.items.length - i ∧ i ≤ w.items.length ∧ ∃ m' s' acc accV, Le m1 (upd H1 D0 (.dK accV)) m' H' ∧ Hold g m' s' H' ∧ EntK g m' H' accV acc ∧ acc.length ≤ i ∧
      (match compD t vs c ek ev w.ok env (w.items.drop i) acc s' with
        | .ok ys s2 => PD g m1 H1 Q (.ref s2.length) (s2 ++ [.dct ys])
        | _ => False), ⟨w.items.length, by simp, Nat.zero_le _, m1, s1, [], [], Le.refl _ _, a1.hold.aside hD, .nil, Nat.zero_le _, ?_⟩, ?_⟩
    · rw [List.drop_zero]
      split at q1
      · rename_i ys s2 e1
        exact PD.le l1 q1
      · exact q1.elim
    · rintro i n H2 ⟨rfl, hi, m2, s2, acc, accV, l2, h2, r2, hacc, q2⟩
      have hD2 : D0 ∉ m2 := l2.nin hD1 upd_same
      have eD : H2 D0 = some (.dK accV) := l2.rest D0 _ hD1 upd_same
      have l2' : Le m1 H1 m2 H2 := (Le.aside a1.hold hD).trans l2
      have l02 : Le m H m2 H2 := l1.trans l2'
      by_cases hlt : i < w.items.length
      · rw [List.drop_eq_getElem_cons hlt] at q2
        unfold compD at q2
        by_cases hok : w.ok s2
        · rw [if_pos hok] at q2
          have hg := (hw m2 s2 H2 i l2' h2 hok).1 w.items[i] (List.getElem?_eq_getElem hlt)
          refine .inr ⟨hg.1, fun H' => i + 1 ≤ w.items.length ∧ ∃ m' s' acc accV, Le m1 (upd H1 D0 (.dK accV)) m' H' ∧ Hold g m' s' H' ∧ EntK g m' H' accV acc ∧ acc.length ≤ i + 1 ∧
            (match compD t vs c ek ev w.ok env (w.items.drop (i + 1)) acc s' with
              | .ok ys s2 => PD g m1 H1 Q (.ref s2.length) (s2 ++ [.dct ys])
              | _ => False), fun H' z => ⟨w.items.length - (i + 1), by omega, rfl, z⟩, fun x H3 hy => ?_⟩
          obtain ⟨l3, h3, r3⟩ := hg.2 x H3 hy
          have a3 : Ag g m2 σ H3 env s2 := (ag.go (l02.trans l3) h3)
          cases e1 : asgT t w.items[i] (wipeE env vs) with
          | none => rw [e1] at q2; exact q2.elim
          | some env3 =>
            rw [e1] at q2
            refine asgT_ok2 (vs0 := vs) (a3.wipe vs) r3 e1 hv fun σ4 a4 ew => ⟨ew.trans (wipe_idem σ vs), htt _ _ _ ?_⟩
            dsimp only at q2
            cases e2 : c env3 s2 with
            | no => rw [e2] at q2; exact q2.elim
            | ex cc x s5 => rw [e2] at q2; exact q2.elim
            | ok b s5 =>
              rw [e2] at q2
              refine ⟨m2, env3, s2, a4, ?_⟩
              rw [e2]
              intro m5 H5 l5 h5
              have l25 : Le m1 (upd H1 D0 (.dK accV)) m5 H5 := l2.trans (l3.trans l5)
              cases b with
              | false =>
                refine iteF ⟨hlt, m5, s5, acc, accV, l25, h5, r2.le (l3.trans l5), by omega, q2⟩
              | true =>
                refine iteT ?_
                dsimp only at q2
                cases e3 : ek env3 s5 with
                | no => rw [e3] at q2; exact q2.elim
                | ex cc x s6 => rw [e3] at q2; exact q2.elim
                | ok kd s6 =>
                  rw [e3] at q2
                  dsimp only at q2
                  refine ⟨m5, env3, s5, a4.go l5 h5, ?_⟩
                  rw [e3]
                  intro kv m6 H6 l6 h6 r6
                  refine ⟨m6, env3, s6, a4.go (l5.trans l6) h6, ?_⟩
                  cases e4 : ev env3 s6 with
                  | no => rw [e4] at q2; exact q2.elim
                  | ex cc x s6 => rw [e4] at q2; exact q2.elim
                  | ok y s7 =>
                    rw [e4] at q2
                    dsimp only at q2
                    intro yv m7 H7 l7 h7 r7
                    have l27 : Le m1 (upd H1 D0 (.dK accV)) m7 H7 := l25.trans (l6.trans l7)
                    have hD7 : D0 ∉ m7 := l27.nin hD1 upd_same
                    have eD7 : H7 D0 = some (.dK accV) := l27.rest D0 _ hD1 upd_same
                    have r2' := r2.le (l3.trans (l5.trans (l6.trans l7)))
                    cases hk : keyD kd with
                    | none => rw [hk] at q2; exact q2.elim
                    | some k' =>
                      rw [hk] at q2
                      dsimp only at q2
                      have := key_rep (r6.le l7) hk
                      subst this
                      have hl := putD_length acc k' y
                      refine ⟨accV, k', rfl, eD7, ?_, hlt, m7, s7, putD acc k' y, putK accV k' yv, l27.turn hD7, h7.turn hD7 eD7 (n1 _) (n2 _) (n3 _), (put_rep r2' r7).lr (Lr.turn eD7 (n1 _) (n2 _)), by omega, q2⟩
                      rw [ent_length r2', sizeLine_eq]
                      show acc.length < 16777216
                      omega
        · rw [if_neg hok] at q2; exact q2.elim
      · have e0 : i = w.items.length := by omega
        subst e0
        rw [List.drop_length] at q2
        unfold compD at q2
        by_cases hok : w.ok s2
        · rw [if_pos hok] at q2
          refine .inl ⟨(hw m2 s2 H2 _ l2' h2 hok).2 (Nat.le_refl _), ?_⟩
          dsimp only at q2
          have hj : upd H2 D0 (.dK accV) = H2 := upd_self eD
          have := q2 (.ref D0) (m2 ++ [D0]) (upd H2 D0 (.dK accV)) (Le.join hD l2 hD2) (h2.join hD2 eD (n1 _) (n2 _) (n3 _) ⟨accV, upd_same, r2.lr (Lr.join hD2 eD (n1 _) (n2 _))⟩) (.ref (by rw [← h2.len, List.getElem?_append_right (Nat.le_refl _), Nat.sub_self]; rfl))
          rw [hj] at this
          exact this
        · rw [if_neg hok] at q2; exact q2.elim
  · rw [if_neg hlen] at q1; exact q1.elim
theorem s_dc0 {ex : Expr} {it : EI} {t : T} {vs : List Nat} {ek ev : EX} (h : PE X ex (tDc (semI g W it) (gT g.K t) tYes (sem g E0 ek) (sem g E0 ev) vs)) (hv : ∀ i ∈ t.vars, i ∈ vs) : PE X ex (sem g W (eDc it t vs yes ek ev)) :=
  PE.of h fun σ H Q q => c_dc hv (fun σ H Q ⟨m, env, s, ag, q⟩ => q m H (Le.refl _ _) ag.hold) q
theorem c_setDc0 {st : Stmt} {i : Nat} {it : EI} {t : T} {vs : List Nat} {ek ev : EX} (h : PS X st (tAsg (tDc (semI g W it) (gT g.K t) tYes (sem g E0 ek) (sem g E0 ev) vs) (gName i))) (hv : ∀ i ∈ t.vars, i ∈ vs) : PS X st (semS g W (sSet i (eDc it t vs yes ek ev))) :=
  c_set (PS.of h fun B σ H q => c_dc hv (fun σ H Q ⟨m, env, s, ag, q⟩ => q m H (Le.refl _ _) ag.hold) q)

/-! ### {} -/
def eDn : EX := fun _ s => .ok (.ref s.length) (s ++ [.dct []])
theorem s_dn {ex : Expr} (h : PE X ex tDNewK) : PE X ex (sem g W eDn) := by
  refine PE.of h fun σ H Q ⟨m, env, s, ag, q⟩ => ?_
  intro p hp
  exact q (.ref p) (m ++ [p]) _ (Le.new ag.hold hp) (ag.hold.new hp ⟨[], upd_same, .nil⟩) (.ref (by rw [← ag.hold.len, List.getElem?_append_right (Nat.le_refl _), Nat.sub_self]; rfl))

/-! ### isinstance, with a built-in class -/
def tyN (d : D) (s : S) : Option String := match d with
  | .non => some "NoneType"
  | .bl _ => some "bool"
  | .int _ => some "int"
  | .str _ => some "str"
  | .tup _ => some "tuple"
  | .rol _ => some "list"
  | .ref p => match s[p]? with
    | some (.lst _) => some "list"
    | some (.dct _) => some "dict"
    | some (.dtt _) => some "dict"
    | _ => none
  | _ => none
theorem tyX_of {m : List Addr} {H : Hp} {s : S} {v : V} {d : D} {n : String} (hold : Hold g m s H) (r : Rep g m H v d) (h : tyN d s = some n) : TyX g.K H v (.type n) := by
  cases r with
  | non => cases h; exact .base .non
  | bl b => cases h; exact .base (.bl b)
  | int i => cases h; exact .base (.int i)
  | str x => cases h; exact .base (.str x)
  | ty y => cases h
  | glo z => cases h
  | tup z t =>
    cases h
    rcases z with ⟨z, _⟩ | ⟨o, its, n, e, c, _⟩
    · exact .base (.tup z)
    · exact .kTuple e c
  | rol z t =>
    cases h
    rcases z with ⟨⟨o, z⟩, _⟩ | ⟨o, its, n, e, c, _⟩
    · exact .base (.frz z)
    · exact .kList e c
  | @ref a p z =>
    have h : (match s[p]? with
      | some (.lst _) => some "list"
      | some (.dct _) => some "dict"
      | some (.dtt _) => some "dict"
      | _ => none) = some n := h
    split at h
    · rename_i e1; cases h; obtain ⟨ys, e2, t⟩ := hold.obj p a _ z e1; exact .base (.lst e2)
    · rename_i e1; cases h; obtain ⟨ys, e2, t⟩ := hold.obj p a _ z e1; exact .base (.dK e2)
    · rename_i e1; cases h; obtain ⟨ys, e2, t⟩ := hold.obj p a _ z e1; exact .base (.dT e2)
    · cases h
/-- the answers that are asked here -/
def isB (a b : String) : Option Bool :=
  if b = "int" then some (a == "int" || a == "bool") else if b = "bool" then some (a == "bool") else if b = "str" then some (a == "str") else if b = "tuple" then some (a == "tuple") else if b = "list" then some (a == "list") else none
def isiB : OPN := fun ds s => match ds with
  | [d, .ty c] => match tyN d s with
    | some n => (isB n c).map fun b => (.bl b, s)
    | none => none
  | _ => none
theorem tyN_mem {d : D} {s : S} {n : String} (h : tyN d s = some n) : n = "NoneType" ∨ n = "bool" ∨ n = "int" ∨ n = "str" ∨ n = "tuple" ∨ n = "list" ∨ n = "dict" := by
  unfold tyN at h
  split at h <;> first | (cases h; simp; done) | skip
  split at h <;> first | (cases h; simp; done) | skip
  all_goals cases h
theorem isB_ok {d : D} {s : S} {n c : String} {b : Bool} (K : PySem.W.Frag) (hn : tyN d s = some n) (h : isB n c = some b) : PySem.W.kitOne K (.type n) (.type c) = some b := by
  refine kit_ty ?_
  unfold isB at h
  rcases tyN_mem hn with rfl | rfl | rfl | rfl | rfl | rfl | rfl <;>
  · split at h
    · rename_i e; subst e; cases h; decide +kernel
    · split at h
      · rename_i e; subst e; cases h; decide +kernel
      · split at h
        · rename_i e; subst e; cases h; decide +kernel
        · split at h
          · rename_i e; subst e; cases h; decide +kernel
          · split at h
            · rename_i e; subst e; cases h; decide +kernel
            · cases h
theorem on_isi : ON g (rIsi g.K) isiB := by
  intro m H s vs ds x s' Q hold rv he q
  unfold isiB at he
  split at he
  · rename_i d c
    obtain ⟨v, w, rfl, r, r'⟩ := reps2 rv
    cases r'
    split at he
    · rename_i n hn
      cases hb : isB n c with
      | none => rw [hb] at he; cases he
      | some b =>
        rw [hb] at he; cases he
        exact ⟨v, .ty c, .type n, .type c, b, rfl, .ty c, tyX_of hold r hn, isB_ok g.K hn hb, PD.here hold (.bl _) q⟩
    · cases he
  · cases he
theorem s_ty {x : Str} {n : String} {pos : Pos} (hg : Gl X x) (hm : X.mg x = none) (hv : bootBuiltins x = some (.type n)) (hn : x ≠ "__name__" := by decide) (hd : (x == ("__debug__" : Str)) = false := by decide) : PE X (.Name x pos) (sem g W (cn (.ty n))) :=
  s_con (pe_bltn hg hm hv (v := .ty n) rfl hn hd) fun _ _ => .ty n

/-! ### list(range(..)), tuple(range(..)) -/
def eLRg1 (f : EX) : EX := fun env s => (f env s).bind fun d s1 => match d with
  | .int n => if 0 ≤ n ∧ n ≤ 16777216 then .ok (.ref s1.length) (s1 ++ [.lst (rng 0 n.toNat)]) else .no
  | _ => .no
def eTRg1 (f : EX) : EX := fun env s => (f env s).bind fun d s1 => match d with
  | .int n => if 0 ≤ n ∧ n ≤ 16777216 then .ok (.tup (rng 0 n.toNat)) s1 else .no
  | _ => .no
theorem reps_rng {m : List Addr} {H : Hp} {n : Int} : Reps g m H (rgV 0 n) (rng 0 n.toNat) := by
  unfold rgV rng
  rw [Int.sub_zero]
  generalize List.range n.toNat = l
  induction l with
  | nil => exact .nil
  | cons i l ih => exact .cons (.int _) ih
theorem s_lrg1 {ex : Expr} {f : EX} (h : PE X ex (tLstRg (tRg1 (sem g W f)))) : PE X ex (sem g W (eLRg1 f)) := by
  refine PE.of h fun σ H Q ⟨m, env, s, ag, q⟩ => ?_
  refine sem_k ag (R.post_bind q) fun d s1 v m1 H1 q1 l1 a1 r1 => ?_
  cases r1 <;> first | exact q1.elim | skip
  rename_i n
  dsimp only at q1
  by_cases c : 0 ≤ n ∧ n ≤ 16777216
  · rw [if_pos c] at q1
    exact ⟨n, rfl, RgOk.of_le (Int.le_refl 0) c.2 (by omega) c.1, fun p hp => new_lst a1.hold hp reps_rng (PD.le l1 q1)⟩
  · rw [if_neg c] at q1; exact q1.elim
theorem s_trg1 {ex : Expr} {f : EX} (h : PE X ex (tTupRg (tRg1 (sem g W f)))) : PE X ex (sem g W (eTRg1 f)) := by
  refine PE.of h fun σ H Q ⟨m, env, s, ag, q⟩ => ?_
  refine sem_k ag (R.post_bind q) fun d s1 v m1 H1 q1 l1 a1 r1 => ?_
  cases r1 <;> first | exact q1.elim | skip
  rename_i n
  dsimp only at q1
  by_cases c : 0 ≤ n ∧ n ≤ 16777216
  · rw [if_pos c] at q1
    exact ⟨n, rfl, RgOk.of_le (Int.le_refl 0) c.2 (by omega) c.1, fun p hp => new_tup a1.hold hp reps_rng (PD.le l1 q1)⟩
  · rw [if_neg c] at q1; exact q1.elim

/-! ### sorted(d), d a dict with fewer than 64 keys, all ints -/
def keyInts : List (Key × D) → Option (List Int)
  | [] => some []
  | (.inl i, _) :: r => (keyInts r).map (i :: ·)
  | _ => none
def sortDB : OPN := fun ds s => match ds with
  | [d] => match dctAt d s with
    | some kvs => match keyInts kvs with
      | some ns => if ns.length < 64 then some (.ref s.length, s ++ [.lst ((sortI ns).map D.int)]) else none
      | none => none
    | none => none
  | _ => none
theorem keyInts_rep {m : List Addr} {H : Hp} : ∀ {es : List (Key × V)} {kvs : List (Key × D)} {ns : List Int}, EntK g m H es kvs → keyInts kvs = some ns → es.map (·.1) = ns.map Sum.inl
  | _, _, _, .nil, h => by cases h; rfl
  | _, _, _, .cons (a := p) (b := q) (l₂ := kvs) r t, h => by
    obtain ⟨pk, pv⟩ := p
    obtain ⟨qk, qv⟩ := q
    cases qk with
    | inr y => cases h
    | inl i =>
      have h : (keyInts kvs).map (i :: ·) = some _ := h
      cases e : keyInts kvs with
      | none => rw [e] at h; cases h
      | some ns =>
        rw [e] at h; cases h
        rw [List.map_cons, List.map_cons, keyInts_rep t e]
        have : pk = Sum.inl i := r.1.symm
        rw [this]
theorem on_sortD : ON g (fun xs H Q => ∃ (a : Addr) (kvs : List (Key × V)) (ks : List Int), xs = [.ref a] ∧ Rd H a (.dK kvs) ∧ kvs.map (·.1) = ks.map Sum.inl ∧ ks.length < 64 ∧
    ∀ (ys : List Int) (p : Addr), ys.Perm ks → ys.Pairwise (· ≤ ·) → H p = none → Q (.ref p) (upd H p (.lst (ys.map V.int)))) sortDB := by
  intro m H s vs ds x s' Q hold rv he q
  unfold sortDB at he
  split at he
  · rename_i d
    obtain ⟨v, rfl, r⟩ := reps1 rv
    split at he
    · rename_i kvs h1
      obtain ⟨p, a, es, rfl, rfl, z, e2, t⟩ := dct_rep hold r h1
      split at he
      · rename_i ns h2
        by_cases c : ns.length < 64
        · rw [if_pos c] at he; cases he
          refine ⟨a, es, ns, rfl, .inl e2, keyInts_rep t h2, c, fun ys l h1 h2 hl => ?_⟩
          rw [sort_uniq h1 h2]
          exact new_lst hold hl (reps_ints _) q
        · rw [if_neg c] at he; cases he
      · cases he
    · cases he
  · cases he

/-! ### what stands in the written part: tuples, dicts with text keys -/
/-- a tuple of the module -/
theorem s_gt {x : Str} {a : Addr} {ds : List D} {pos : Pos} {o : Obj} {its : Array Value} {n : Nat} {xs : List V} (hg : Gl X x) (hm : X.mg x = some (.ref a)) (e : X.K.lookup a = some o) (hc : o.cls = .type "tuple") (hd : o.data = .seq its n) (hz : its.size ≤ sizeLine) (hv : Vals xs its.toList)
    (r : ∀ m H, Reps ⟨X.K, X.mg⟩ m H xs ds) (hdb : (x == ("__debug__" : Str)) = false := by decide) : PE X (.Name x pos) (sem ⟨X.K, X.mg⟩ W (cn (.tup ds))) :=
  s_con (pe_glob hg hm (v := .ref a) rfl hdb) fun m H => .tup (.inr ⟨o, its, n, e, hc, hd, hz, hv⟩) (r m H)
/-- an int of the module -/
theorem s_gi {x : Str} {i : Int} {t : Tok} {pos : Pos} (hg : Gl X x) (hm : X.mg x = some (.int i t)) (hdb : (x == ("__debug__" : Str)) = false := by decide) : PE X (.Name x pos) (sem g W (cn (.int i))) :=
  s_con (pe_glob hg hm (v := .int i) ⟨t, rfl⟩ hdb) fun m H => .int i
/-- an object of the module as a value -/
theorem s_go {x : Str} {a : Addr} {pos : Pos} (hg : Gl X x) (hm : X.mg x = some (.ref a)) (hdb : (x == ("__debug__" : Str)) = false := by decide) : PE X (.Name x pos) (sem ⟨X.K, X.mg⟩ W (cn (.glo x))) :=
  s_con (pe_glob hg hm (v := .ref a) rfl hdb) fun m H => .glo hm
/-- the dict x of the module: its entries -/
structure GD (K : PySem.W.Frag) (w : World) (mg : Str → Option Value) (x : Str) (kvs : List (Str × D)) : Prop where
  ex : ∃ (a : Addr) (es : Array DictEntry) (n : Nat), mg x = some (.ref a) ∧ KDict K w a es n ∧
    Paired (fun (e : DictEntry) (kv : Str × D) => (∃ t, e.key = .str kv.1 t) ∧ ∃ v, RelV v e.val ∧ ∀ m H, Rep ⟨K, mg⟩ m H v kv.2) es.toList kvs
def lookG (kvs : List (Str × D)) (z : Str) : Option D := (kvs.find? fun kv => decide (kv.1 = z)).map (·.2)
theorem gd_find {K : PySem.W.Frag} {mg : Str → Option Value} {z : Str} : ∀ {es : List DictEntry} {kvs : List (Str × D)}, Paired (fun (e : DictEntry) (kv : Str × D) => (∃ t, e.key = .str kv.1 t) ∧ ∃ v, RelV v e.val ∧ ∀ m H, Rep ⟨K, mg⟩ m H v kv.2) es kvs →
    (lookG kvs z = none ∧ es.find? (fun e => e.key.isStr z) = none) ∨ ∃ e v d, lookG kvs z = some d ∧ es.find? (fun e => e.key.isStr z) = some e ∧ RelV v e.val ∧ ∀ m H, Rep ⟨K, mg⟩ m H v d
  | _, _, .nil => .inl ⟨rfl, rfl⟩
  | _, _, .cons (a := e) (b := kv) (l₁ := es) (l₂ := kvs) r t => by
    obtain ⟨⟨tk, hk⟩, v, rv, rep⟩ := r
    have hs : e.key.isStr z = decide (kv.1 = z) := by
      rw [hk]
      show (kv.1 == z) = _
      exact Bool.beq_eq_decide_eq kv.1 z
    unfold lookG
    rw [List.find?_cons, List.find?_cons, hs]
    by_cases c : kv.1 = z
    · rw [decide_eq_true c]
      exact .inr ⟨e, v, kv.2, rfl, rfl, rv, rep⟩
    · rw [decide_eq_false c]
      exact gd_find t
theorem gd_norefs {K : PySem.W.Frag} {mg : Str → Option Value} : ∀ {es : List DictEntry} {kvs : List (Str × D)}, Paired (fun (e : DictEntry) (kv : Str × D) => (∃ t, e.key = .str kv.1 t) ∧ ∃ v, RelV v e.val ∧ ∀ m H, Rep ⟨K, mg⟩ m H v kv.2) es kvs → es.any (·.refKey) = false
  | _, _, .nil => rfl
  | _, _, .cons (a := e) r t => by
    obtain ⟨⟨tk, hk⟩, _⟩ := r
    rw [List.any_cons, gd_norefs t, Bool.or_false]
    unfold DictEntry.refKey
    rw [hk]
def ginD (x : Str) (kvs : List (Str × D)) (neg : Bool) : OP2 := fun d e s => match d, e with
  | .str z, .glo y => if y = x then some (.bl (if neg then !(lookG kvs z).isSome else (lookG kvs z).isSome), s) else none
  | _, _ => none
def gixD (x : Str) (kvs : List (Str × D)) : OP2 := fun d e s => match d, e with
  | .glo y, .str z => if y = x then (lookG kvs z).map fun v => (v, s) else none
  | _, _ => none
theorem gd_ns {K : PySem.W.Frag} {w : World} {mg : Str → Option Value} {x : Str} {kvs : List (Str × D)} (h : GD K w mg x kvs) (z : Str) : ∃ a es n, mg x = some (.ref a) ∧ KDict K w a es n ∧ ((lookG kvs z = none ∧ PySem.W.nsIn K a z = some none) ∨ ∃ u v d, lookG kvs z = some d ∧ PySem.W.nsIn K a z = some (some u) ∧ RelV v u ∧ ∀ m H, Rep ⟨K, mg⟩ m H v d) := by
  obtain ⟨a, es, n, hm, kd, p⟩ := h.ex
  refine ⟨a, es, n, hm, kd, ?_⟩
  have e : PySem.W.nsIn K a z = match es.toList.find? (fun e => e.key.isStr z) with
      | some e => some (some e.val)
      | none => if es.toList.any (·.refKey) then none else some none := by
    unfold PySem.W.nsIn
    rw [kd.at_]
    rfl
  rcases gd_find (z := z) p with ⟨h1, h2⟩ | ⟨en, v, d, h1, h2, h3, h4⟩
  · rw [h2, gd_norefs p] at e
    exact .inl ⟨h1, e⟩
  · rw [h2] at e
    exact .inr ⟨en.val, v, d, h1, e, h3, h4⟩
theorem s_gin {x : Str} {kvs : List (Str × D)} {a b : Expr} {pos : Pos} {f f' : EX} (h : GD X.K X.w X.mg x kvs) (ha : PE X a (sem ⟨X.K, X.mg⟩ W f)) (hb : PE X b (sem ⟨X.K, X.mg⟩ W f')) (hm : behindInMarks .In b = false := by rfl) :
    PE X (.Compare a [.In] [b] pos) (sem ⟨X.K, X.mg⟩ W (e2 (ginD x kvs false) f f')) := by
  obtain ⟨ad, es, n, hmg, kd, _⟩ := gd_ns h ""
  refine s_cmp (op_in_kd kd) ?_ ha hb hm
  intro m H s v w d e y s' Q hold rv rw1 he q
  unfold ginD at he
  split at he
  · rename_i z y'
    by_cases c : y' = x
    · rw [if_pos c] at he; cases he
      subst c
      cases rv
      cases rw1 with
      | @glo a' _ hm' =>
        obtain ⟨ad', es', n', hmg', kd', h2⟩ := gd_ns h z
        rw [hmg] at hmg'; cases hmg'
        have hm' : X.mg _ = some (.ref a') := hm'
        rw [hmg] at hm'; cases hm'
        rcases h2 with ⟨h3, h4⟩ | ⟨u, v, d, h3, h4, _⟩
        · exact ⟨z, none, rfl, rfl, h4, by rw [h3] at q; exact PD.here hold (.bl _) q⟩
        · exact ⟨z, some u, rfl, rfl, h4, by rw [h3] at q; exact PD.here hold (.bl _) q⟩
    · rw [if_neg c] at he; cases he
  · cases he
theorem ix_kd {d : Addr} {es : Array DictEntry} {n : Nat} (kd : KDict X.K X.w d es n) : IxR X (fun x y H Q => ∃ (z : Str) (u0 : Value) (v0 : V), x = .ref d ∧ y = .str z ∧ PySem.W.nsIn X.K d z = some (some u0) ∧ RelV v0 u0 ∧ Q v0 H) := by
  intro value slice pins s σ H x y v u Q I rx ry q hs
  have ty : s.TypeIs v "dict" := by
    obtain ⟨z, u0, v0, rfl, _⟩ := q
    cases rx
    exact kd_type kd I
  exact tail_any ty slot_dict_getitem.lookup (op_item_kd kd pins s σ H x y v u Q I rx ry q) hs
theorem s_gix {x : Str} {kvs : List (Str × D)} {a b : Expr} {pos : Pos} {f f' : EX} (h : GD X.K X.w X.mg x kvs) (ha : PE X a (sem ⟨X.K, X.mg⟩ W f)) (hb : PE X b (sem ⟨X.K, X.mg⟩ W f')) (hs : PlainIx b) :
    PE X (.Subscript a b pos) (sem ⟨X.K, X.mg⟩ W (e2 (gixD x kvs) f f')) := by
  obtain ⟨ad, es, n, hmg, kd, _⟩ := gd_ns h ""
  refine s_ix (ix_kd kd) ?_ ha hb hs
  intro m H s v w d e y s' Q hold rv rw1 he q
  unfold gixD at he
  split at he
  · rename_i y' z
    by_cases c : y' = x
    · rw [if_pos c] at he
      subst c
      cases rw1
      cases rv with
      | @glo a' _ hm' =>
        obtain ⟨ad', es', n', hmg', kd', h2⟩ := gd_ns h z
        rw [hmg] at hmg'; cases hmg'
        have hm' : X.mg _ = some (.ref a') := hm'
        rw [hmg] at hm'; cases hm'
        rcases h2 with ⟨h3, h4⟩ | ⟨u, v, d, h3, h4, h5, h6⟩
        · rw [h3] at he; cases he
        · rw [h3] at he; cases he
          exact ⟨z, u, v, rfl, rfl, h4, h5, PD.here hold (h6 m H) q⟩
    · rw [if_neg c] at he; cases he
  · cases he
end
end Mi

set_option Elab.async false
set_option linter.all false
set_option maxRecDepth 100000
namespace Mi
open PySem PySem.Spec PyProof.Rows L2

section
variable {X : Cx} {g : G} {W : XK}
def iSeqV (K : PySem.W.Frag) (tl : TE) : TI := fun σ H R => tl σ H fun x H1 => ∃ a, x = .ref a ∧ (((∃ xs, SqL K H1 a xs) ∧ R (Itl K a) H1) ∨ ((∃ xs, SqT K H1 a xs) ∧ R (Itt K a) H1))
theorem pi_seq {tg l : Expr} {tl : TE} (hl : PE X l tl) : PI X tg l (iSeqV X.K tl) := by
  refine ⟨fun pins s σ H R I h => ?_⟩
  refine thn (hl.run pins s σ H _ I h) fun v s1 ⟨x, H1, I1, r1, q1⟩ => ?_
  obtain ⟨a, e, q⟩ := q1
  subst e
  cases r1
  rcases q with ⟨⟨xs, hq⟩, q⟩ | ⟨⟨xs, hq⟩, q⟩
  · obtain ⟨its, rv, p, hz⟩ := I1.list hq
    refine wpAny_pyIter_list p.isList ?_
    refine ⟨s1.heap.objs.size, [s1.heap.objs.size], _, _, H1, rfl, I1.kept (t' := s1.toks) fun b o e => Heap.get?_push_of_some _ e, turn_list a _, ⟨_, Heap.get?_push_size _ rfl, rfl, rfl⟩, fun b hb => ?_, q⟩
    have e : b = s1.heap.objs.size := by simpa using hb
    subst e
    exact I1.fpOk (Nat.le_refl _) (I1.hok.fresh (Nat.le_refl _))
  · obtain ⟨its, rv, p, hz⟩ := I1.tuple hq
    refine wpAny_pyIter_tuple (show s1.heap.IsTuple a its.toArray from p) ?_
    refine ⟨s1.heap.objs.size, [s1.heap.objs.size], _, _, H1, rfl, I1.kept (t' := s1.toks) fun b o e => Heap.get?_push_of_some _ e, turn_tuple a _, ⟨_, Heap.get?_push_size _ rfl, rfl, rfl⟩, fun b hb => ?_, q⟩
    have e : b = s1.heap.objs.size := by simpa using hb
    subst e
    exact I1.fpOk (Nat.le_refl _) (I1.hok.fresh (Nat.le_refl _))
theorem i_seq {tg e : Expr} {f : EX} (h : PE X e (sem ⟨X.K, X.mg⟩ W f)) : PI X tg e (semI ⟨X.K, X.mg⟩ W (iSeq f)) := by
  refine PI.of (pi_seq h) fun σ H Q ⟨m, env, s, ag, q⟩ => ?_
  refine sem_k ag (R.post_bind q) fun d s1 v m1 H1 q1 l1 a1 r1 => ?_
  cases r1 with
  | tup z r => exact ⟨_, rfl, .inr ⟨⟨_, z.sq⟩, q1 _ m1 H1 l1 a1.hold (walks_tup z r)⟩⟩
  | rol z r => exact ⟨_, rfl, .inl ⟨⟨_, z.sq⟩, q1 _ m1 H1 l1 a1.hold (walks_rol z r)⟩⟩
  | @ref a p z =>
    dsimp only at q1
    split at q1
    · rename_i ds e1
      obtain ⟨xs, e2, _⟩ := a1.hold.obj p a _ z e1
      exact ⟨a, rfl, .inl ⟨⟨xs, .of e2⟩, q1 _ m1 H1 l1 a1.hold (walks_ref z)⟩⟩
    · exact q1.elim
  | _ => exact q1.elim
theorem sem_chain {r r' : R2} {o o' : OP2} {f f' f'' : EX} (ho : O2 g r o) (ho' : O2 g r' o') {σ : L2.St} {H : Hp} {Q : VK} (h : sem g W (eCh o o' f f' f'') σ H Q) : tChain r r' (sem g W f) (sem g W f') (sem g W f'') σ H Q := by
  obtain ⟨m, env, s, ag, q⟩ := h
  refine sem_k ag (R.post_bind q) fun d s1 v m1 H1 q1 l1 a1 r1 => ?_
  refine sem_k a1 (R.post_mono (R.post_bind q1) (fun _ _ z => z) fun _ _ _ z => WX.le l1 z) fun e s2 w m2 H2 q2 l2 a2 r2 => ?_
  obtain ⟨k, s3, e1, q3⟩ := R.post_of (R.post_bind q2)
  refine ho m2 H2 s2 v w d e k s3 _ a2.hold (r1.le l2) r2 e1 fun u m3 H3 l3 hold3 r3 => ?_
  have a3 := a2.go l3 hold3
  cases r3 <;> first | exact q3.elim | skip
  rename_i kb
  refine ⟨kb, rfl, ?_⟩
  cases kb with
  | false => exact iteF (q3 _ m3 H3 (l1.trans (l2.trans l3)) hold3 (.bl false))
  | true =>
    refine iteT ?_
    refine sem_k a3 (R.post_mono (R.post_bind q3) (fun _ _ z => z) fun _ _ _ z => WX.le (l1.trans (l2.trans l3)) z) fun c s4 x m4 H4 q4 l4 a4 r4 => ?_
    obtain ⟨k2, s5, e2, q5⟩ := R.post_of (R.post_bind q4)
    refine ho' m4 H4 s4 w x e c k2 s5 _ a4.hold (r2.le (l3.trans l4)) r4 e2 fun u m5 H5 l5 hold5 r5 => ?_
    cases k2 <;> first | exact q5.elim | skip
    cases r5
    exact q5 _ m5 H5 (l1.trans (l2.trans (l3.trans (l4.trans l5)))) hold5 (.bl _)
theorem s_chain {r r' : R2} {o o' : OP2} {a : Expr} {f f' f'' : EX} (h : PE X a (tChain r r' (sem g W f) (sem g W f') (sem g W f''))) (ho : O2 g r o) (ho' : O2 g r' o') : PE X a (sem g W (eCh o o' f f' f'')) :=
  PE.of h fun _ _ _ q => sem_chain ho ho' q
theorem t_chain {r r' : R2} {o o' : OP2} {a : Expr} {f f' f'' : EX} (h : PT X a (tTest (tChain r r' (sem g W f) (sem g W f') (sem g W f'')))) (ho : O2 g r o) (ho' : O2 g r' o') : PT X a (semB g W (tB1 (eCh o o' f f' f''))) := by
  refine PT.of h fun σ H Q ⟨m, env, s, ag, q⟩ => ?_
  refine sem_chain ho ho' (sem_k ag (R.post_bind q) fun d s1 v m1 H1 q1 l1 a1 r1 => ?_)
  cases r1 <;> first | exact q1.elim | skip
  exact ⟨_, rfl, q1 m1 H1 l1 a1.hold⟩
end

/-! ### a def as it stands -/
/-- the def x keeps: it does F, at level L -/
structure Keeps (P : Program) (w : World) (K : PySem.W.Frag) (mg : Str → Option Value) (base : Heap) (L : Nat) (x : Str) (ps : List Str) (F : FN) (f : Addr) (fd : FuncData) : Prop where
  ok : FnOk P w K mg base CX0 L f fd ps (spF ⟨K, mg⟩ ps.length F)
  at_ : mg x = some (.ref f)
  kp : PySem.W.keepIn K (.ref f) = true
  bd : Binds K fd ps []
structure DefAt (K : PySem.W.Frag) (mg : Str → Option Value) (x : Str) (st : Stmt) (ps : List Str) (f : Addr) (fd : FuncData) : Prop where
  fn : Fun K x x st f fd
  at_ : mg x = some (.ref f)
  bd : Binds K fd ps []
section
variable {P : Program} {w : World} {K : PySem.W.Frag} {mg : Str → Option Value} {base : Heap}
theorem keeps_of {x : Str} {st : Stmt} {f : Addr} {fd : FuncData} {N ps : List Str} {k : Nat} {b : ST} (h : DefAt K mg x st ps f fd) (sc : FnScope N ps (defScope st))
    (hb : ∀ (cdv : Value) (A : Around) (outer : List PySem.Env) (s : Shared) (H : Hp) (E : XK), Room k (A.deeper (envOfC x (defScope st) s.heap.objs.size f cdv)) →
      PSs (cxOf CX0 P w K mg base N x (defScope st) f cdv A outer s H E).nox (defBody st) (semS ⟨K, mg⟩ E0 b)) : Keeps P w K mg base (k + 1) x ps (fnB N.length ps.length b) f fd :=
  ⟨fn_ok h.fn sc hb, h.at_, h.fn.kp, h.bd⟩
variable {X : Cx} {W : XK}
theorem s_own {L L' n : Nat} {x : Str} {ps : List Str} {F : FN} {f : Addr} {fd : FuncData} {e : Expr} {es : List Expr} {fa : EA} {p pos : Pos} (h : Keeps X.prog X.w X.K X.mg X.base L x ps F f fd) (hl : L ≤ L') (hr : Room L' X.A) (hn : ps.length = n) (hg : Gl X x)
    (ha : PA X (e :: es) (semA ⟨X.K, X.mg⟩ E0 fa)) (hdb : (x == ("__debug__" : Str)) = false := by decide) (he : starEach (e :: es) X.env = (false, eval e X.env) :: starEach es X.env := by rfl) (hpl : (backTo pos (starEach es X.env)).any (·.1) = false := by rfl) :
    PE X (.Call (.Name x p) (e :: es) [] pos) (sem ⟨X.K, X.mg⟩ E0 (eCall n F fa)) := by
  subst hn
  exact s_call (pe_call (h.ok.mono hl) hr hg h.at_ h.kp h.bd .nil pass0 ha hdb he hpl)
end

/-! ### the law -/
/-- what a law's def is to promise -/
def spL (K : PySem.W.Frag) : Sp := fun vs H Q _ => ∃ (a : Addr) (ns : List Int) (o : Obj), vs = [.ref a] ∧ (H a = some (.frz o (.lst (ns.map V.int))) ∨ ((∀ b, H b = none ∨ ∃ o xs, H b = some (.frz o (.lst xs))) ∧ SqL K H a (ns.map V.int))) ∧ ns.length ≤ 63 ∧ ∀ H', Q (.bl true) H'
theorem law_sp {g : G} {F : FN} (h : ∀ ns : List Int, ns.length ≤ 63 → ∃ s, F [.rol (ns.map D.int)] [] = .ok (.bl true) s) {H : Hp} {a : Addr} {ns : List Int} (hl : ns.length ≤ 63) (ho : Only H) (hS : SqL g.K H a (ns.map V.int)) :
    spF g 1 F [.ref a] H (fun v _ => v = .bl true) fun _ _ _ => False := by
  obtain ⟨s, e⟩ := h ns hl
  have hr : RdL g [] H a (ns.map V.int) := by
    rcases hS with h | h
    · rcases h with h | ⟨o, h⟩
      · rcases ho a with z | ⟨o, xs, z⟩
        · rw [h] at z; cases z
        · rw [h] at z; cases z
      · exact .inl ⟨⟨o, h⟩, by simp⟩
    · exact .inr h
  refine ⟨[], [], [.rol (ns.map D.int)], rfl, ⟨rfl, List.nodup_nil, fun p a o h => by simp at h⟩, .cons (.rol hr (reps_ints ns)) .nil, ?_⟩
  rw [e]
  intro v m' H' l hold r
  cases r
  rfl
end Mi

set_option Elab.async false
set_option linter.all false
set_option maxRecDepth 100000
namespace Mi
open PySem PySem.Spec PyProof.Rows L2
section
variable {X : Cx} {g : G} {W : XK}
def eNeg (f : EX) : EX := fun env s => (f env s).bind fun d s1 => match d with
  | .int i => .ok (.int (-i)) s1
  | _ => .no
theorem s_neg {a : Expr} {f : EX} {pos : Pos} (h : PE X a (sem g W f)) : PE X (.UnaryOp .USub a pos) (sem g W (eNeg f)) := by
  refine PE.of (pe_un un_neg h) fun σ H Q ⟨m, env, s, ag, q⟩ => ?_
  refine sem_k ag (R.post_bind q) fun d s1 v m1 H1 q1 l1 a1 r1 => ?_
  cases r1 <;> first | exact q1.elim | skip
  exact ⟨_, rfl, q1 _ m1 H1 l1 a1.hold (.int _)⟩
theorem sw_trueD {kx vx : Expr} {gs : List Comprehension} {scope : Scope} {pos py : Pos} {y : Str} {l : Nat} {env : PySem.Env} (hk : env.scope.kind = .function) (hy : env.scope.names.lookup y = some .local) (hl : (py.line == pos.line) = true)
    (ha : (scope.names.any fun (n, k) => n == y && (k == .local || k == .cell)) = false) : swapsWith (.DictComp kx vx gs scope pos) (some (.Name y py)) l env = pure true := by
  have ky : env.kindOf y = some .local := hy
  have hb : env.blockKind = .function := by unfold Env.blockKind; rw [hk]; rfl
  unfold swapsWith
  simp only [hb, ky, ha, Expr.pos, hl]
  rfl
/-- a value that is a bool, as a test of a comparison -/
theorem t_gin {x : Str} {kvs : List (Str × D)} {a b : Expr} {pos : Pos} {f f' : EX} (h : GD X.K X.w X.mg x kvs) (ha : PE X a (sem ⟨X.K, X.mg⟩ W f)) (hb : PE X b (sem ⟨X.K, X.mg⟩ W f')) (hm : behindInMarks .In b = false := by rfl) :
    PT X (.Compare a [.In] [b] pos) (semB ⟨X.K, X.mg⟩ W (tB1 (e2 (ginD x kvs false) f f'))) := by
  obtain ⟨ad, es, n, hmg, kd, _⟩ := gd_ns h ""
  refine t_cmp (op_in_kd kd) ?_ ha hb hm
  intro m H s v w d e y s' Q hold rv rw1 he q
  unfold ginD at he
  split at he
  · rename_i z y'
    by_cases c : y' = x
    · rw [if_pos c] at he; cases he
      subst c
      cases rv
      cases rw1 with
      | @glo a' _ hm' =>
        obtain ⟨ad', es', n', hmg', kd', h2⟩ := gd_ns h z
        rw [hmg] at hmg'; cases hmg'
        have hm' : X.mg _ = some (.ref a') := hm'
        rw [hmg] at hm'; cases hm'
        rcases h2 with ⟨h3, h4⟩ | ⟨u, v, d, h3, h4, _⟩
        · exact ⟨z, none, rfl, rfl, h4, by rw [h3] at q; exact PD.here hold (.bl _) q⟩
        · exact ⟨z, some u, rfl, rfl, h4, by rw [h3] at q; exact PD.here hold (.bl _) q⟩
    · rw [if_neg c] at he; cases he
  · cases he
/-- the dict x of the module as a value -/
theorem s_gdn {x : Str} {kvs : List (Str × D)} {pos : Pos} (h : GD X.K X.w X.mg x kvs) (hg : Gl X x) (hdb : (x == ("__debug__" : Str)) = false := by decide) : PE X (.Name x pos) (sem ⟨X.K, X.mg⟩ W (cn (.glo x))) := by
  obtain ⟨a, es, n, hm, _⟩ := h.ex
  exact s_go hg hm hdb
end
end Mi

set_option Elab.async false
set_option linter.all false
set_option maxRecDepth 100000
namespace Mi
open PySem PySem.Spec PyProof.Rows L2
def spLaw (K : PySem.W.Frag) : Sp := fun vs H Q _ => ∃ (a : Addr) (ns : List Int), vs = [.ref a] ∧ ns.length ≤ 63 ∧ Only H ∧ SqL K H a (ns.map V.int) ∧ ∀ H', Q (.bl true) H'
theorem spLaw_sp {K : PySem.W.Frag} {mg : Str → Option Value} {F : FN} (h : ∀ ns : List Int, ns.length ≤ 63 → ∃ s, F [.rol (ns.map D.int)] [] = .ok (.bl true) s) {vs : List V} {H : Hp} {Q : VK} {E : XK} (q : spLaw K vs H Q E) : spF ⟨K, mg⟩ 1 F vs H Q E := by
  obtain ⟨a, ns, rfl, hl, ho, hS, q⟩ := q
  obtain ⟨s, e⟩ := h ns hl
  have hr : RdL ⟨K, mg⟩ [] H a (ns.map V.int) := by
    rcases hS with h | h
    · rcases h with h | ⟨o, h⟩
      · rcases ho a with z | ⟨o, xs, z⟩
        · rw [h] at z; cases z
        · rw [h] at z; cases z
      · exact .inl ⟨⟨o, h⟩, by simp⟩
    · exact .inr h
  refine ⟨[], [], [.rol (ns.map D.int)], rfl, ⟨rfl, List.nodup_nil, fun p a o h => by simp at h⟩, .cons (.rol hr (reps_ints ns)) .nil, ?_⟩
  rw [e]
  intro v m' H' l hold r
  cases r
  exact q H'
end Mi

set_option Elab.async false
set_option linter.all false
set_option maxRecDepth 100000
namespace Mi
open PySem PySem.Spec PyProof.Rows L2

/-! ### what a program does, by what is wanted of it -/
def WF {α : Type} (r : R α) (Q : α → S → Prop) : Prop := ∃ d s', r = .ok d s' ∧ Q d s'
def W (f : EX) (env : Env) (s : S) (Q : D → S → Prop) : Prop := WF (f env s) Q
def WB (f : EB) (env : Env) (s : S) (Q : Bool → S → Prop) : Prop := WF (f env s) Q
def WA (f : EA) (env : Env) (s : S) (Q : List D → S → Prop) : Prop := WF (f env s) Q
def WO (f : EO) (env : Env) (s : S) (Q : Option Int → S → Prop) : Prop := WF (f env s) Q
def WI (f : EI) (env : Env) (s : S) (Q : Wk → S → Prop) : Prop := WF (f env s) Q
def WP {α : Type} (o : Option α) (Q : α → Prop) : Prop := ∃ x, o = some x ∧ Q x
@[irreducible] def WS (f : ST) (env : Env) (s : S) (N : Env → S → Prop) (Rt : D → S → Prop) (B C : Env → S → Prop) : Prop := match f env s with
  | .nx e s => N e s
  | .rt d s => Rt d s
  | .bk e s => B e s
  | .ct e s => C e s
  | _ => False
theorem WF.mono {α : Type} {r : R α} {Q Q' : α → S → Prop} (h : WF r Q) (k : ∀ a s, Q a s → Q' a s) : WF r Q' := let ⟨d, s, e, q⟩ := h; ⟨d, s, e, k d s q⟩
theorem wf_ok {α : Type} {d : α} {s : S} {Q : α → S → Prop} : WF (R.ok d s) Q ↔ Q d s := ⟨fun ⟨_, _, e, q⟩ => by cases e; exact q, fun q => ⟨d, s, rfl, q⟩⟩
theorem wf_no {α : Type} {Q : α → S → Prop} : WF (R.no : R α) Q ↔ False := ⟨fun ⟨_, _, e, _⟩ => (by cases e), fun z => False.elim z⟩
theorem wf_ex {α : Type} {c : Str} {fs : XF} {s : S} {Q : α → S → Prop} : WF (R.ex c fs s : R α) Q ↔ False := ⟨fun ⟨_, _, e, _⟩ => (by cases e), fun z => False.elim z⟩
theorem wf_congr {α : Type} {r : R α} {Q Q' : α → S → Prop} (h : ∀ a s, Q a s ↔ Q' a s) : WF r Q ↔ WF r Q' := ⟨fun ⟨d, s, e, q⟩ => ⟨d, s, e, (h d s).mp q⟩, fun ⟨d, s, e, q⟩ => ⟨d, s, e, (h d s).mpr q⟩⟩
theorem wp_congr {α : Type} {r : Option α} {Q Q' : α → Prop} (h : ∀ a, Q a ↔ Q' a) : WP r Q ↔ WP r Q' := ⟨fun ⟨d, e, q⟩ => ⟨d, e, (h d).mp q⟩, fun ⟨d, e, q⟩ => ⟨d, e, (h d).mpr q⟩⟩
theorem wf_bind {α β : Type} {r : R α} {f : α → S → R β} {Q : β → S → Prop} : WF (r.bind f) Q ↔ WF r fun a s => WF (f a s) Q := by
  cases r with
  | no => exact ⟨fun ⟨_, _, e, _⟩ => (by cases e), fun ⟨_, _, e, _⟩ => by cases e⟩
  | ok a s => rw [wf_ok]; exact Iff.rfl
  | ex c fs s => exact ⟨fun ⟨_, _, e, _⟩ => (by cases e), fun ⟨_, _, e, _⟩ => by cases e⟩
theorem wf_of {α : Type} {o : Option (α × S)} {Q : α → S → Prop} : WF (R.of o) Q ↔ WP o fun p => Q p.1 p.2 := by
  cases o with
  | none => exact ⟨fun ⟨_, _, e, _⟩ => (by cases e), fun ⟨_, e, _⟩ => by cases e⟩
  | some p => exact ⟨fun ⟨_, _, e, q⟩ => by cases e; exact ⟨_, rfl, q⟩, fun ⟨_, e, q⟩ => by cases e; exact ⟨_, _, rfl, q⟩⟩
theorem wp_some {α : Type} {x : α} {Q : α → Prop} : WP (some x) Q ↔ Q x := ⟨fun ⟨_, e, q⟩ => by cases e; exact q, fun q => ⟨x, rfl, q⟩⟩
theorem wp_none {α : Type} {Q : α → Prop} : WP (none : Option α) Q ↔ False := ⟨fun ⟨_, e, _⟩ => (by cases e), fun z => False.elim z⟩
theorem wp_if {α : Type} {c : Prop} [Decidable c] {a : Option α} {Q : α → Prop} : WP (if c then a else none) Q ↔ c ∧ WP a Q := by
  by_cases h : c
  · rw [if_pos h]; exact ⟨fun q => ⟨h, q⟩, fun q => q.2⟩
  · rw [if_neg h, wp_none]; exact ⟨fun z => False.elim z, fun q => absurd q.1 h⟩
theorem wf_if {α : Type} {c : Prop} [Decidable c] {a : R α} {Q : α → S → Prop} : WF (if c then a else .no) Q ↔ c ∧ WF a Q := by
  by_cases h : c
  · rw [if_pos h]; exact ⟨fun q => ⟨h, q⟩, fun q => q.2⟩
  · rw [if_neg h, wf_no]; exact ⟨fun z => False.elim z, fun q => absurd q.1 h⟩
section
variable {f f' f'' : EX} {fa : EA} {fb fb' : EB} {env : Env} {s : S} {Q : D → S → Prop} {QB : Bool → S → Prop} {QA : List D → S → Prop} {QI : Wk → S → Prop} {QO : Option Int → S → Prop}
theorem w_vr {i : Nat} : W (vr i) env s Q ↔ WP (env[i]?) fun o => WP o fun d => Q d s := by
  unfold W vr
  cases h : env[i]? with
  | none => simp [wf_no, wp_none]
  | some o =>
    cases o with
    | none => simp [wf_no, wp_some, wp_none]
    | some d => simp [wf_ok, wp_some]
theorem w_cn {d : D} : W (cn d) env s Q ↔ Q d s := wf_ok
theorem w_e2 {o : OP2} : W (e2 o f f') env s Q ↔ W f env s fun d s1 => W f' env s1 fun e s2 => WP (o d e s2) fun p => Q p.1 p.2 := by
  unfold W e2
  rw [wf_bind]
  simp only [wf_bind, wf_of]
theorem w_tup : W (eTup fa) env s Q ↔ WA fa env s fun ds s1 => ds.length ≤ 16777216 ∧ Q (.tup ds) s1 := by
  unfold W eTup WA
  simp only [wf_bind, wf_if, wf_ok]
theorem w_lst : W (eLst fa) env s Q ↔ WA fa env s fun ds s1 => ds.length ≤ 16777216 ∧ Q (.ref s1.length) (s1 ++ [.lst ds]) := by
  unfold W eLst WA
  simp only [wf_bind, wf_if, wf_ok]
theorem w_aN : WA aN env s QA ↔ QA [] s := wf_ok
theorem w_aC : WA (aC f fa) env s QA ↔ W f env s fun d s1 => WA fa env s1 fun ds s2 => QA (d :: ds) s2 := by
  unfold W WA aC
  simp only [wf_bind, wf_ok]
theorem w_call {n : Nat} {F : FN} : W (eCall n F fa) env s Q ↔ WA fa env s fun ds s1 => ds.length = n ∧ WF (F ds s1) Q := by
  unfold W WA eCall
  simp only [wf_bind, wf_if]
theorem w_B {o : OPN} : W (eB o fa) env s Q ↔ WA fa env s fun ds s1 => WP (o ds s1) fun p => Q p.1 p.2 := by
  unfold W WA eB
  simp only [wf_bind, wf_of]
theorem w_M {T : String} {o : OPM} : W (eM T o f fa) env s Q ↔ W f env s fun d s1 => tyD T d s1 = true ∧ WA fa env s1 fun ds s2 => WP (o d ds s2) fun p => Q p.1 p.2 := by
  unfold W WA eM
  simp only [wf_bind, wf_of, wf_if]
theorem w_oN : WO oN env s QO ↔ QO none s := wf_ok
def asI (d : D) (Q : Int → Prop) : Prop := match d with
  | .int i => Q i
  | _ => False
def asBl (d : D) (Q : Bool → Prop) : Prop := match d with
  | .bl i => Q i
  | _ => False
theorem asI_int {i : Int} {Q : Int → Prop} : asI (.int i) Q ↔ Q i := Iff.rfl
theorem asBl_bl {i : Bool} {Q : Bool → Prop} : asBl (.bl i) Q ↔ Q i := Iff.rfl
theorem w_oS : WO (oS f) env s QO ↔ W f env s fun d s1 => asI d fun i => QO (some i) s1 := by
  unfold W WO oS
  rw [wf_bind]
  refine wf_congr fun d s1 => ?_
  cases d <;> simp [wf_ok, wf_no, asI]
theorem w_sl {l h : EO} : W (eSl f l h) env s Q ↔ W f env s fun d s1 => WO l env s1 fun lo s2 => WO h env s2 fun hi s3 => WP (slD d lo hi s3) fun p => Q p.1 p.2 := by
  unfold W WO eSl
  simp only [wf_bind, wf_of]
theorem w_B1 : WB (tB1 f) env s QB ↔ W f env s fun d s1 => asBl d fun b => QB b s1 := by
  unfold W WB tB1
  rw [wf_bind]
  refine wf_congr fun d s1 => ?_
  cases d <;> simp [asB, wf_ok, wf_no, asBl]
theorem w_Tl : WB (tTl f) env s QB ↔ W f env s fun d s1 => WP (truD d s1) fun b => QB b s1 := by
  unfold W WB tTl
  rw [wf_bind]
  refine wf_congr fun d s1 => ?_
  cases truD d s1 <;> simp [wf_ok, wf_no, wp_some, wp_none]
theorem w_An : WB (tAn fb fb') env s QB ↔ WB fb env s fun b s1 => if b = true then WB fb' env s1 QB else QB false s1 := by
  unfold WB tAn
  rw [wf_bind]
  refine wf_congr fun b s1 => ?_
  cases b <;> simp [wf_ok]
theorem w_Or : WB (tO fb fb') env s QB ↔ WB fb env s fun b s1 => if b = true then QB true s1 else WB fb' env s1 QB := by
  unfold WB tO
  rw [wf_bind]
  refine wf_congr fun b s1 => ?_
  cases b <;> simp [wf_ok]
theorem w_No : WB (tNo fb) env s QB ↔ WB fb env s fun b s1 => QB (!b) s1 := by
  unfold WB tNo
  simp only [wf_bind, wf_ok]
theorem w_eAn : W (eAn f f') env s Q ↔ W f env s fun d s1 => asBl d fun b => if b = true then W f' env s1 Q else Q (.bl false) s1 := by
  unfold W eAn
  rw [wf_bind]
  refine wf_congr fun d s1 => ?_
  cases d <;> first | simp [wf_no, asBl] | skip
  rename_i b
  cases b <;> simp [wf_ok, asBl]
theorem w_eO : W (eO f f') env s Q ↔ W f env s fun d s1 => asBl d fun b => if b = true then Q (.bl true) s1 else W f' env s1 Q := by
  unfold W eO
  rw [wf_bind]
  refine wf_congr fun d s1 => ?_
  cases d <;> first | simp [wf_no, asBl] | skip
  rename_i b
  cases b <;> simp [wf_ok, asBl]
theorem w_eNo : W (eNo f) env s Q ↔ W f env s fun d s1 => asBl d fun b => Q (.bl (!b)) s1 := by
  unfold W eNo
  rw [wf_bind]
  refine wf_congr fun d s1 => ?_
  cases d <;> simp [wf_ok, wf_no, asBl]
theorem w_eNeg : W (eNeg f) env s Q ↔ W f env s fun d s1 => asI d fun i => Q (.int (-i)) s1 := by
  unfold W eNeg
  rw [wf_bind]
  refine wf_congr fun d s1 => ?_
  cases d <;> simp [wf_ok, wf_no, asI]
theorem w_eIf : W (eIf fb f f') env s Q ↔ WB fb env s fun b s1 => if b = true then W f env s1 Q else W f' env s1 Q := by
  unfold W WB eIf
  rw [wf_bind]
  refine wf_congr fun b s1 => ?_
  cases b <;> simp
theorem w_ch {o o' : OP2} : W (eCh o o' f f' f'') env s Q ↔ W f env s fun d s1 => W f' env s1 fun e s2 => WP (o d e s2) fun p => asBl p.1 fun k => if k = true then W f'' env p.2 fun c s4 => WP (o' e c s4) fun p => asBl p.1 fun b => Q (.bl b) p.2 else Q (.bl false) p.2 := by
  unfold W eCh
  rw [wf_bind]
  refine wf_congr fun d s1 => ?_
  rw [wf_bind]
  refine wf_congr fun e s2 => ?_
  rw [wf_bind, wf_of]
  refine wp_congr fun p => ?_
  obtain ⟨k, s3⟩ := p
  cases k <;> first | simp [wf_no, asBl]; done | skip
  rename_i b
  cases b
  · simp [wf_ok, asBl]
  · dsimp only [asBl]
    rw [if_pos rfl, wf_bind]
    refine wf_congr fun c s4 => ?_
    rw [wf_bind, wf_of]
    refine wp_congr fun p => ?_
    obtain ⟨k, s5⟩ := p
    cases k <;> simp [wf_ok, wf_no, asBl]
theorem w_Dn : W eDn env s Q ↔ Q (.ref s.length) (s ++ [.dct []]) := wf_ok
theorem w_iSeq : WI (iSeq f) env s QI ↔ W f env s fun d s1 => match d with
    | .tup ds => QI ⟨ds, fun _ => True⟩ s1
    | .rol ds => QI ⟨ds, fun _ => True⟩ s1
    | .ref p => WP (listItems (.ref p) s1) fun ds => QI ⟨ds, fun s => s[p]? = some (.lst ds)⟩ s1
    | _ => False := by
  unfold W WI iSeq
  rw [wf_bind]
  refine wf_congr fun d s1 => ?_
  cases d with
  | tup ds => exact wf_ok
  | rol ds => exact wf_ok
  | ref p =>
    dsimp only [listItems]
    cases h : s1[p]? with
    | none => simp [wf_no, wp_none]
    | some o => cases o <;> simp [wf_ok, wf_no, wp_none, wp_some]
  | _ => simp [wf_no]
theorem w_iRg1 : WI (iRg1 f) env s QI ↔ W f env s fun d s1 => asI d fun j => (-4611686018427387904 ≤ j ∧ j < 4611686018427387904) ∧ QI ⟨rng 0 j.toNat, fun _ => True⟩ s1 := by
  unfold W WI iRg1
  rw [wf_bind]
  refine wf_congr fun d s1 => ?_
  cases d <;> first | simp [wf_no, asI]; done | skip
  simp only [wf_if, wf_ok, asI]
theorem w_lRg1 : W (eLRg1 f) env s Q ↔ W f env s fun d s1 => asI d fun n => (0 ≤ n ∧ n ≤ 16777216) ∧ Q (.ref s1.length) (s1 ++ [.lst (rng 0 n.toNat)]) := by
  unfold W eLRg1
  rw [wf_bind]
  refine wf_congr fun d s1 => ?_
  cases d <;> first | simp [wf_no, asI]; done | skip
  simp only [wf_if, wf_ok, asI]
theorem w_trg1 : W (eTRg1 f) env s Q ↔ W f env s fun d s1 => asI d fun n => (0 ≤ n ∧ n ≤ 16777216) ∧ Q (.tup (rng 0 n.toNat)) s1 := by
  unfold W eTRg1
  rw [wf_bind]
  refine wf_congr fun d s1 => ?_
  cases d <;> first | simp [wf_no, asI]; done | skip
  simp only [wf_if, wf_ok, asI]
end

/-! ### statements -/
section
variable {a b : ST} {f f' f'' : EX} {fa : EA} {c : EB} {env : Env} {s : S} {N : Env → S → Prop} {Rt : D → S → Prop} {B C : Env → S → Prop}
theorem ws_go {α : Type} {r : R α} {k : α → S → Fl} : (match r.go k with | .nx e s => N e s | .rt d s => Rt d s | .bk e s => B e s | .ct e s => C e s | _ => False) ↔ WF r fun x s => (match k x s with | .nx e s => N e s | .rt d s => Rt d s | .bk e s => B e s | .ct e s => C e s | _ => False) := by
  cases r with
  | no => simp [R.go, wf_no]
  | ok a s => simp [R.go, wf_ok]
  | ex c fs s => simp [R.go, wf_ex]
theorem ws_seq : WS (sSeq a b) env s N Rt B C ↔ WS a env s (fun e s => WS b e s N Rt B C) Rt B C := by
  unfold WS sSeq
  cases a env s <;> rfl
theorem ws_skip : WS sSkip env s N Rt B C ↔ N env s := by unfold WS; exact Iff.rfl
theorem ws_set {i : Nat} : WS (sSet i f) env s N Rt B C ↔ W f env s fun d s1 => N (env.set i (some d)) s1 := by
  unfold WS sSet
  exact ws_go
theorem ws_ex : WS (sEx f) env s N Rt B C ↔ W f env s fun _ s1 => N env s1 := by
  unfold WS sEx
  exact ws_go
theorem ws_ret : WS (sRet f) env s N Rt B C ↔ W f env s Rt := by
  unfold WS sRet
  exact ws_go
theorem ws_retN : WS sRetN env s N Rt B C ↔ Rt .non s := by unfold WS; exact Iff.rfl
theorem ws_bk : WS sBk env s N Rt B C ↔ B env s := by unfold WS; exact Iff.rfl
theorem ws_ct : WS sCt env s N Rt B C ↔ C env s := by unfold WS; exact Iff.rfl
theorem ws_if : WS (sIf c a b) env s N Rt B C ↔ WB c env s fun k s1 => if k = true then WS a env s1 N Rt B C else WS b env s1 N Rt B C := by
  unfold WS sIf WB
  rw [ws_go]
  refine wf_congr fun k s1 => ?_
  cases k <;> rfl
theorem ws_asg {t : T} : WS (sAsg t f) env s N Rt B C ↔ W f env s fun d s1 => WP (asgT t d env) fun e => N e s1 := by
  unfold WS sAsg W
  rw [ws_go]
  refine wf_congr fun d s1 => ?_
  cases asgT t d env <;> simp [wp_some, wp_none]
/-- a dict written at a key -/
def dputD (d k x : D) (s : S) : Option S := match d, dctAt d s, keyD k with
  | .ref p, some kvs, some k => if kvs.length < 16777216 then some (s.set p (.dct (putD kvs k x))) else none
  | _, _, _ => none
theorem dput_ok {d k x : D} {s3 : S} : (match (match d, dctAt d s3, keyD k with
      | .ref p, some kvs, some k => if kvs.length < 16777216 then Fl.nx env (s3.set p (.dct (putD kvs k x))) else .no
      | _, _, _ => .no) with | .nx e s => N e s | .rt d s => Rt d s | .bk e s => B e s | .ct e s => C e s | _ => False) ↔ WP (dputD d k x s3) fun s4 => N env s4 := by
  unfold dputD
  cases h2 : dctAt d s3 with
  | none => cases d <;> simp [wp_none]
  | some kvs =>
    cases h3 : keyD k with
    | none => cases d <;> simp [wp_none]
    | some k' =>
      cases d <;> first | simp [wp_none]; done | skip
      by_cases c : kvs.length < 16777216
      · simp [c, wp_some]
      · simp [c, wp_none]
theorem ws_dput : WS (sDPutD f f' f'') env s N Rt B C ↔ W f env s fun x s1 => W f' env s1 fun d s2 => W f'' env s2 fun k s3 => WP (dputD d k x s3) fun s4 => N env s4 := by
  unfold WS sDPutD W
  rw [ws_go]
  refine wf_congr fun x s1 => ?_
  rw [ws_go]
  refine wf_congr fun d s2 => ?_
  rw [ws_go]
  refine wf_congr fun k s3 => ?_
  exact dput_ok
theorem ws_daug {o : OP2} : WS (sDAugD o f' f'' f) env s N Rt B C ↔ W f' env s fun d s1 => W f'' env s1 fun k s2 => WP (dgetD d k s2) fun old => W f env old.2 fun x s3 => WP (o old.1 x s3) fun y => WP (dputD d k y.1 y.2) fun s4 => N env s4 := by
  unfold WS sDAugD W
  rw [ws_go]
  refine wf_congr fun d s1 => ?_
  rw [ws_go]
  refine wf_congr fun k s2 => ?_
  rw [ws_go, wf_of]
  refine wp_congr fun old => ?_
  rw [ws_go]
  refine wf_congr fun x s3 => ?_
  rw [ws_go, wf_of]
  refine wp_congr fun y => ?_
  exact dput_ok
theorem ws_lput : WS (sLPut f f' f'') env s N Rt B C ↔ W f env s fun x s1 => W f' env s1 fun d s2 => W f'' env s2 fun k s3 => WP (setLD d k x s3) fun s4 => N env s4 := by
  unfold WS sLPut W
  rw [ws_go]
  refine wf_congr fun x s1 => ?_
  rw [ws_go]
  refine wf_congr fun d s2 => ?_
  rw [ws_go]
  refine wf_congr fun k s3 => ?_
  cases setLD d k x s3 <;> simp [wp_some, wp_none]
theorem ws_aug {i : Nat} {o : OP2} : WS (sAug i o f) env s N Rt B C ↔ WP (env[i]?) fun v => WP v fun d => W f env s fun e s1 => WP (o d e s1) fun p => N (env.set i (some p.1)) p.2 := by
  unfold WS sAug W
  cases h : env[i]? with
  | none => simp [wp_none]
  | some v =>
    cases v with
    | none => simp [wp_some, wp_none]
    | some d =>
      simp only [wp_some, ws_go, wf_of]
/-- a def of the program, by its body -/
theorem wf_fn {tot n : Nat} {ds : List D} {Q : D → S → Prop} (h : ds.length = n) : WF (fnB tot n a ds s) Q ↔ WS a (ds.map some ++ List.replicate (tot - n) none) s (fun _ s' => Q .non s') Q (fun _ _ => False) fun _ _ => False := by
  unfold fnB WS
  rw [if_pos h]
  cases a (ds.map some ++ List.replicate (tot - n) none) s <;> simp [wf_ok, wf_no]
theorem WS.mono {N' : Env → S → Prop} {Rt' : D → S → Prop} {B' C' : Env → S → Prop} (h : WS a env s N Rt B C) (h1 : ∀ e s, N e s → N' e s) (h2 : ∀ e s, Rt e s → Rt' e s) (h3 : ∀ e s, B e s → B' e s) (h4 : ∀ e s, C e s → C' e s) : WS a env s N' Rt' B' C' := by
  unfold WS at h ⊢
  cases e : a env s <;> rw [e] at h <;> first | exact h1 _ _ h | exact h2 _ _ h | exact h3 _ _ h | exact h4 _ _ h | exact h
/-- a loop over items by an invariant on what was taken -/
theorem ws_for {t : T} {it : EI} (I : Nat → Env → S → Prop) (w : Wk) (h : WI it env s fun w' s1 => w' = w ∧ w.ok s1 ∧ I 0 env s1)
    (hs : ∀ i d env s, w.items[i]? = some d → I i env s → w.ok s → WP (asgT t d env) fun e1 => WS b e1 s (fun e s => w.ok s ∧ I (i + 1) e s) Rt N (fun e s => w.ok s ∧ I (i + 1) e s))
    (hd : ∀ env s, I w.items.length env s → w.ok s → N env s) : WS (sFor t it b) env s N Rt B C := by
  obtain ⟨w', s1, e1, rfl, hok, h0⟩ := h
  have key : ∀ (n i : Nat) (env : Env) (s : S), n = w'.items.length - i → i ≤ w'.items.length → I i env s → w'.ok s → (match forL t b w'.ok (w'.items.drop i) env s with | .nx e s => N e s | .rt d s => Rt d s | .bk e s => B e s | .ct e s => C e s | _ => False) := by
    intro n
    induction n with
    | zero =>
      intro i env s hn hi hI hok
      have : i = w'.items.length := by omega
      subst this
      rw [List.drop_length]
      unfold forL
      rw [if_pos hok]
      exact hd env s hI hok
    | succ n ih =>
      intro i env s hn hi hI hok
      have hlt : i < w'.items.length := by omega
      rw [List.drop_eq_getElem_cons hlt]
      unfold forL
      rw [if_pos hok]
      obtain ⟨env1, ea, hb⟩ := hs i w'.items[i] env s (List.getElem?_eq_getElem hlt) hI hok
      rw [ea]
      unfold WS at hb
      dsimp only
      cases e2 : b env1 s with
      | no => rw [e2] at hb; exact hb.elim
      | nx e2' s2 => rw [e2] at hb; exact ih (i + 1) e2' s2 (by omega) hlt hb.2 hb.1
      | ct e2' s2 => rw [e2] at hb; exact ih (i + 1) e2' s2 (by omega) hlt hb.2 hb.1
      | bk e2' s2 => rw [e2] at hb; exact hb
      | rt d s2 => rw [e2] at hb; exact hb
      | ex c fs s2 => rw [e2] at hb; exact hb.elim
  unfold WS sFor
  rw [e1]
  have := key w'.items.length 0 env s1 (by omega) (Nat.zero_le _) h0 hok
  rw [List.drop_zero] at this
  exact this
/-- a while by an invariant and a measure -/
theorem ws_while {n : Nat} (I : Nat → Env → S → Prop) (m0 : Nat) (hm : m0 < n) (h0 : I m0 env s)
    (hs : ∀ m env s, I m env s → WB c env s fun k s1 => if k = true then WS b env s1 (fun e s => ∃ m', m' < m ∧ I m' e s) Rt N (fun e s => ∃ m', m' < m ∧ I m' e s) else N env s1) : WS (whl c b n) env s N Rt B C := by
  have key : ∀ (n m : Nat) (env : Env) (s : S), m < n → I m env s → (match whl c b n env s with | .nx e s => N e s | .rt d s => Rt d s | .bk e s => B e s | .ct e s => C e s | _ => False) := by
    intro n
    induction n with
    | zero => intro m env s h; omega
    | succ n ih =>
      intro m env s h hI
      unfold whl
      rw [ws_go]
      refine WF.mono (hs m env s hI) fun k s1 q => ?_
      cases k with
      | false => simpa using q
      | true =>
        rw [if_pos rfl] at q ⊢
        unfold WS at q
        cases e2 : b env s1 with
        | no => rw [e2] at q; exact q.elim
        | nx e2' s2 => rw [e2] at q; obtain ⟨m', h', q⟩ := q; exact ih m' e2' s2 (by omega) q
        | ct e2' s2 => rw [e2] at q; obtain ⟨m', h', q⟩ := q; exact ih m' e2' s2 (by omega) q
        | bk e2' s2 => rw [e2] at q; exact q
        | rt d s2 => rw [e2] at q; exact q
        | ex c fs s2 => rw [e2] at q; exact q.elim
  unfold WS
  exact key n m0 env s hm h0
/-- a comprehension -/
theorem w_lc {t : T} {vs : List Nat} {it : EI} {e : EX} {Q : D → S → Prop} (I : Nat → List D → S → Prop) (w : Wk) (h : WI it env s fun w' s1 => w' = w ∧ w.ok s1 ∧ w.items.length ≤ 16777216 ∧ I 0 [] s1)
    (hs : ∀ i d ys s, w.items[i]? = some d → I i ys s → w.ok s → WP (asgT t d (wipeE env vs)) fun e1 => WB c e1 s fun k s1 => if k = true then W e e1 s1 fun y s2 => w.ok s2 ∧ I (i + 1) (ys ++ [y]) s2 else w.ok s1 ∧ I (i + 1) ys s1)
    (hd : ∀ ys s, I w.items.length ys s → w.ok s → Q (.ref s.length) (s ++ [O.lst ys])) : W (eLc it t vs c e) env s Q := by
  obtain ⟨w', s1, e1, rfl, hok, hlen, h0⟩ := h
  have key : ∀ (n i : Nat) (ys : List D) (s : S), n = w'.items.length - i → i ≤ w'.items.length → I i ys s → w'.ok s → ∃ zs s2, compL t vs c e w'.ok env (w'.items.drop i) s = .ok zs s2 ∧ I w'.items.length (ys ++ zs) s2 ∧ w'.ok s2 := by
    intro n
    induction n with
    | zero =>
      intro i ys s hn hi hI hok
      have : i = w'.items.length := by omega
      subst this
      rw [List.drop_length]
      unfold compL
      rw [if_pos hok]
      exact ⟨[], s, rfl, by rw [List.append_nil]; exact hI, hok⟩
    | succ n ih =>
      intro i ys s hn hi hI hok
      have hlt : i < w'.items.length := by omega
      rw [List.drop_eq_getElem_cons hlt]
      unfold compL
      rw [if_pos hok]
      obtain ⟨env1, ea, k, s3, ec, hb⟩ := hs i w'.items[i] ys s (List.getElem?_eq_getElem hlt) hI hok
      rw [ea]
      dsimp only
      rw [ec]
      cases k with
      | false =>
        rw [if_neg (by decide)] at hb
        exact ih (i + 1) ys s3 (by omega) hlt hb.2 hb.1
      | true =>
        rw [if_pos rfl] at hb
        obtain ⟨y, s4, ey, hok4, hI4⟩ := hb
        dsimp only
        rw [ey]
        obtain ⟨zs, s5, ez, hI5, hok5⟩ := ih (i + 1) (ys ++ [y]) s4 (by omega) hlt hI4 hok4
        dsimp only
        rw [ez]
        exact ⟨y :: zs, s5, rfl, by rw [List.append_assoc] at hI5; exact hI5, hok5⟩
  obtain ⟨zs, s2, ez, hI, hok2⟩ := key w'.items.length 0 [] s1 (by omega) (Nat.zero_le _) h0 hok
  rw [List.drop_zero] at ez
  unfold W eLc
  rw [e1]
  refine ⟨.ref s2.length, s2 ++ [O.lst zs], ?_, hd zs s2 hI hok2⟩
  show (if w'.items.length ≤ 16777216 then (match compL t vs c e w'.ok env w'.items s1 with | .ok ys s2 => R.ok (D.ref s2.length) (s2 ++ [O.lst ys]) | _ => .no) else .no) = _
  rw [if_pos hlen, ez]
/-- a dict comprehension -/
theorem w_dc {t : T} {vs : List Nat} {it : EI} {ek ev : EX} {Q : D → S → Prop} (I : Nat → List (Key × D) → S → Prop) (w : Wk) (h : WI it env s fun w' s1 => w' = w ∧ w.ok s1 ∧ w.items.length ≤ 16777216 ∧ I 0 [] s1)
    (hs : ∀ i d ys s, w.items[i]? = some d → I i ys s → w.ok s → WP (asgT t d (wipeE env vs)) fun e1 => WB c e1 s fun k s1 => if k = true then W ek e1 s1 fun x s2 => W ev e1 s2 fun y s3 => WP (keyD x) fun x' => w.ok s3 ∧ I (i + 1) (putD ys x' y) s3 else w.ok s1 ∧ I (i + 1) ys s1)
    (hd : ∀ ys s, I w.items.length ys s → w.ok s → Q (.ref s.length) (s ++ [.dct ys])) : W (eDc it t vs c ek ev) env s Q := by
  obtain ⟨w', s1, e1, rfl, hok, hlen, h0⟩ := h
  have key : ∀ (n i : Nat) (ys : List (Key × D)) (s : S), n = w'.items.length - i → i ≤ w'.items.length → I i ys s → w'.ok s → ∃ zs s2, compD t vs c ek ev w'.ok env (w'.items.drop i) ys s = .ok zs s2 ∧ I w'.items.length zs s2 ∧ w'.ok s2 := by
    intro n
    induction n with
    | zero =>
      intro i ys s hn hi hI hok
      have : i = w'.items.length := by omega
      subst this
      rw [List.drop_length]
      unfold compD
      rw [if_pos hok]
      exact ⟨ys, s, rfl, hI, hok⟩
    | succ n ih =>
      intro i ys s hn hi hI hok
      have hlt : i < w'.items.length := by omega
      rw [List.drop_eq_getElem_cons hlt]
      unfold compD
      rw [if_pos hok]
      obtain ⟨env1, ea, k, s3, ec, hb⟩ := hs i w'.items[i] ys s (List.getElem?_eq_getElem hlt) hI hok
      rw [ea]
      dsimp only
      rw [ec]
      cases k with
      | false =>
        rw [if_neg (by decide)] at hb
        exact ih (i + 1) ys s3 (by omega) hlt hb.2 hb.1
      | true =>
        rw [if_pos rfl] at hb
        obtain ⟨x, s4, ex, y, s5, ey, x', hx, hok4, hI4⟩ := hb
        dsimp only
        rw [ex]
        dsimp only
        rw [ey]
        dsimp only
        rw [hx]
        exact ih (i + 1) (putD ys x' y) s5 (by omega) hlt hI4 hok4
  obtain ⟨zs, s2, ez, hI, hok2⟩ := key w'.items.length 0 [] s1 (by omega) (Nat.zero_le _) h0 hok
  rw [List.drop_zero] at ez
  unfold W eDc
  rw [e1]
  refine ⟨.ref s2.length, s2 ++ [O.dct zs], ?_, hd zs s2 hI hok2⟩
  show (if w'.items.length ≤ 16777216 then (match compD t vs c ek ev w'.ok env w'.items [] s1 with | .ok ys s2 => R.ok (D.ref s2.length) (s2 ++ [O.dct ys]) | _ => .no) else .no) = _
  rw [if_pos hlen, ez]
end
end Mi

set_option Elab.async false
set_option linter.all false
set_option maxRecDepth 100000
namespace Mi
open PySem PySem.Spec PyProof.Rows L2

section
variable {b : ST} {f : EX} {c : EB} {e : EX} {env : Env} {s : S} {N : Env → S → Prop} {Rt : D → S → Prop} {B C : Env → S → Prop} {t : T} {Q : D → S → Prop} {vs : List Nat}
theorem rng_at {n i : Nat} {d : D} (h : (rng 0 n)[i]? = some d) : i < n ∧ d = .int (i : Int) := by
  obtain ⟨h1, h2⟩ := rng_get h
  exact ⟨h1, by rw [h2, Int.zero_add]⟩
theorem wi_rg {n : Nat} {P : Env → S → Prop} (h : W f env s fun d s1 => ∃ j : Int, d = .int j ∧ 0 ≤ j ∧ j < 4611686018427387904 ∧ j.toNat = n ∧ P env s1) : WI (iRg1 f) env s fun w' s1 => w' = ⟨rng 0 n, fun _ => True⟩ ∧ P env s1 := by
  rw [w_iRg1]
  obtain ⟨d, s1, e1, j, rfl, h1, h2, rfl, q⟩ := h
  exact ⟨.int j, s1, e1, ⟨by omega, h2⟩, rfl, q⟩
theorem ws_forR (I : Nat → Env → S → Prop) (n : Nat) (h : W f env s fun d s1 => ∃ j : Int, d = .int j ∧ 0 ≤ j ∧ j < 4611686018427387904 ∧ j.toNat = n ∧ I 0 env s1)
    (hs : ∀ (i : Nat) env s, i < n → I i env s → WP (asgT t (.int (i : Int)) env) fun e1 => WS b e1 s (I (i + 1)) Rt N (I (i + 1))) (hd : ∀ env s, I n env s → N env s) : WS (sFor t (iRg1 f) b) env s N Rt B C := by
  refine ws_for I ⟨rng 0 n, fun _ => True⟩ ?_ ?_ ?_
  · exact WF.mono (wi_rg (P := fun env s1 => I 0 env s1) h) fun w s1 q => ⟨q.1, True.intro, q.2⟩
  · intro i d env s hi hI _
    obtain ⟨h1, rfl⟩ := rng_at hi
    obtain ⟨e1, he, q⟩ := hs i env s h1 hI
    exact ⟨e1, he, q.mono (fun _ _ z => ⟨True.intro, z⟩) (fun _ _ z => z) (fun _ _ z => z) fun _ _ z => ⟨True.intro, z⟩⟩
  · intro env s hI _
    rw [rng_len] at hI
    exact hd env s hI
theorem ws_forT (I : Nat → Env → S → Prop) (ds : List D) (h : W f env s fun d s1 => (d = .tup ds ∨ d = .rol ds) ∧ I 0 env s1)
    (hs : ∀ (i : Nat) d env s, ds[i]? = some d → I i env s → WP (asgT t d env) fun e1 => WS b e1 s (I (i + 1)) Rt N (I (i + 1))) (hd : ∀ env s, I ds.length env s → N env s) : WS (sFor t (iSeq f) b) env s N Rt B C := by
  refine ws_for I ⟨ds, fun _ => True⟩ ?_ ?_ ?_
  · rw [w_iSeq]
    obtain ⟨d, s1, e1, h1, q⟩ := h
    rcases h1 with rfl | rfl <;> exact ⟨_, s1, e1, rfl, True.intro, q⟩
  · intro i d env s hi hI _
    obtain ⟨e1, he, q⟩ := hs i d env s hi hI
    exact ⟨e1, he, q.mono (fun _ _ z => ⟨True.intro, z⟩) (fun _ _ z => z) (fun _ _ z => z) fun _ _ z => ⟨True.intro, z⟩⟩
  · intro env s hI _
    exact hd env s hI
theorem ws_forL (I : Nat → Env → S → Prop) (p : Nat) (ds : List D) (h : W f env s fun d s1 => d = .ref p ∧ s1[p]? = some (.lst ds) ∧ I 0 env s1)
    (hs : ∀ (i : Nat) d env s, ds[i]? = some d → I i env s → s[p]? = some (.lst ds) → WP (asgT t d env) fun e1 => WS b e1 s (fun e s => s[p]? = some (.lst ds) ∧ I (i + 1) e s) Rt N (fun e s => s[p]? = some (.lst ds) ∧ I (i + 1) e s)) (hd : ∀ env s, I ds.length env s → s[p]? = some (.lst ds) → N env s) : WS (sFor t (iSeq f) b) env s N Rt B C := by
  refine ws_for I ⟨ds, fun s => s[p]? = some (.lst ds)⟩ ?_ ?_ ?_
  · rw [w_iSeq]
    obtain ⟨d, s1, e1, rfl, hp, q⟩ := h
    refine ⟨.ref p, s1, e1, ds, ?_, rfl, hp, q⟩
    simp only [listItems, hp]
  · intro i d env s hi hI hp
    exact hs i d env s hi hI hp
  · intro env s hI hp
    exact hd env s hI hp
/-- comprehensions over ranges, tuples, lists -/
theorem w_lcR (I : Nat → List D → S → Prop) (n : Nat) (h : W f env s fun d s1 => ∃ j : Int, d = .int j ∧ 0 ≤ j ∧ j ≤ 16777216 ∧ j.toNat = n ∧ I 0 [] s1)
    (hs : ∀ (i : Nat) ys s, i < n → I i ys s → WP (asgT t (.int (i : Int)) (wipeE env vs)) fun e1 => WB c e1 s fun k s1 => if k = true then W e e1 s1 fun y s2 => I (i + 1) (ys ++ [y]) s2 else I (i + 1) ys s1)
    (hd : ∀ ys s, I n ys s → Q (.ref s.length) (s ++ [O.lst ys])) : W (eLc (iRg1 f) t vs c e) env s Q := by
  refine w_lc I ⟨rng 0 n, fun _ => True⟩ ?_ ?_ ?_
  · obtain ⟨d, s1, e1, j, rfl, h1, h2, h3, q⟩ := h
    refine WF.mono (wi_rg (n := n) (P := fun _ s1 => I 0 [] s1) ⟨.int j, s1, e1, j, rfl, h1, by omega, h3, q⟩) fun w s1 q => ⟨q.1, True.intro, ?_, q.2⟩
    dsimp only
    rw [rng_len]; omega
  · intro i d ys s hi hI _
    obtain ⟨h1, rfl⟩ := rng_at hi
    obtain ⟨e1, he, k, s1, ek, q⟩ := hs i ys s h1 hI
    refine ⟨e1, he, k, s1, ek, ?_⟩
    cases k with
    | true => rw [if_pos rfl] at q ⊢; exact WF.mono q fun _ _ z => ⟨True.intro, z⟩
    | false => rw [if_neg (by decide)] at q ⊢; exact ⟨True.intro, q⟩
  · intro ys s hI _
    rw [rng_len] at hI
    exact hd ys s hI
theorem w_lcT (I : Nat → List D → S → Prop) (ds : List D) (h : W f env s fun d s1 => (d = .tup ds ∨ d = .rol ds) ∧ ds.length ≤ 16777216 ∧ I 0 [] s1)
    (hs : ∀ (i : Nat) d ys s, ds[i]? = some d → I i ys s → WP (asgT t d (wipeE env vs)) fun e1 => WB c e1 s fun k s1 => if k = true then W e e1 s1 fun y s2 => I (i + 1) (ys ++ [y]) s2 else I (i + 1) ys s1)
    (hd : ∀ ys s, I ds.length ys s → Q (.ref s.length) (s ++ [O.lst ys])) : W (eLc (iSeq f) t vs c e) env s Q := by
  refine w_lc I ⟨ds, fun _ => True⟩ ?_ ?_ ?_
  · rw [w_iSeq]
    obtain ⟨d, s1, e1, h1, hl, q⟩ := h
    rcases h1 with rfl | rfl <;> exact ⟨_, s1, e1, rfl, True.intro, hl, q⟩
  · intro i d ys s hi hI _
    obtain ⟨e1, he, k, s1, ek, q⟩ := hs i d ys s hi hI
    refine ⟨e1, he, k, s1, ek, ?_⟩
    cases k with
    | true => rw [if_pos rfl] at q ⊢; exact WF.mono q fun _ _ z => ⟨True.intro, z⟩
    | false => rw [if_neg (by decide)] at q ⊢; exact ⟨True.intro, q⟩
  · intro ys s hI _
    exact hd ys s hI
theorem w_lcL (I : Nat → List D → S → Prop) (p : Nat) (ds : List D) (h : W f env s fun d s1 => d = .ref p ∧ s1[p]? = some (.lst ds) ∧ ds.length ≤ 16777216 ∧ I 0 [] s1)
    (hs : ∀ (i : Nat) d ys s, ds[i]? = some d → I i ys s → s[p]? = some (.lst ds) → WP (asgT t d (wipeE env vs)) fun e1 => WB c e1 s fun k s1 => if k = true then W e e1 s1 fun y s2 => s2[p]? = some (.lst ds) ∧ I (i + 1) (ys ++ [y]) s2 else s1[p]? = some (.lst ds) ∧ I (i + 1) ys s1)
    (hd : ∀ ys s, I ds.length ys s → s[p]? = some (.lst ds) → Q (.ref s.length) (s ++ [O.lst ys])) : W (eLc (iSeq f) t vs c e) env s Q := by
  refine w_lc I ⟨ds, fun s => s[p]? = some (.lst ds)⟩ ?_ ?_ ?_
  · rw [w_iSeq]
    obtain ⟨d, s1, e1, rfl, hp, hl, q⟩ := h
    refine ⟨.ref p, s1, e1, ds, ?_, rfl, hp, hl, q⟩
    simp only [listItems, hp]
  · intro i d ys s hi hI hp
    exact hs i d ys s hi hI hp
  · intro ys s hI hp
    exact hd ys s hI hp
theorem w_yes {QB : Bool → S → Prop} : WB yes env s QB ↔ QB true s := wf_ok
end

/-! ### small facts that the walk uses -/
theorem opI_int {C : Int → Int → Bool} {k : Int → Int → D} {i j : Int} {s : S} : opI C k (.int i) (.int j) s = if C i j = true then some (k i j, s) else none := rfl
theorem addD_int {i j : Int} {s : S} : addD (.int i) (.int j) s = some (.int (i + j), s) := rfl
theorem addD_str {i j : Str} {s : S} : addD (.str i) (.str j) s = if i.length + j.length ≤ 16777216 then some (.str (i ++ j), s) else none := rfl
theorem addD_tup {i j : List D} {s : S} : addD (.tup i) (.tup j) s = if i.length + j.length ≤ 16777216 then some (.tup (i ++ j), s) else none := rfl
theorem mulD_int {i j : Int} {s : S} : mulD (.int i) (.int j) s = if (-(2 ^ 64) < i ∧ i < 2 ^ 64) ∨ (-(2 ^ 64) < j ∧ j < 2 ^ 64) then some (.int (i * j), s) else none := rfl
theorem intB_int {i : Int} {s : S} : intB [.int i] s = some (.int i, s) := rfl
theorem intB_bl {i : Bool} {s : S} : intB [.bl i] s = some (.int (if i then 1 else 0), s) := rfl
theorem absB_int {i : Int} {s : S} : absB [.int i] s = some (.int (if i < 0 then -i else i), s) := rfl
theorem strB_int {i : Int} {s : S} : strB [.int i] s = if i.natAbs.log2 < 1920 then some (.str (toString i), s) else none := rfl
theorem lenB_rol {ds : List D} {s : S} : lenB [.rol ds] s = some (.int (ds.length : Int), s) := rfl
theorem lenB_tup {ds : List D} {s : S} : lenB [.tup ds] s = some (.int (ds.length : Int), s) := rfl
theorem lenB_ref {p : Nat} {ds : List D} {s : S} (h : s[p]? = some (.lst ds)) : lenB [.ref p] s = some (.int (ds.length : Int), s) := by simp only [lenB, h]
theorem lenB_dct {p : Nat} {kvs : List (Key × D)} {s : S} (h : s[p]? = some (.dct kvs)) : lenB [.ref p] s = some (.int (kvs.length : Int), s) := by simp only [lenB, h]
theorem tupB_ref {p : Nat} {ds : List D} {s : S} (h : s[p]? = some (.lst ds)) : tupB [.ref p] s = some (.tup ds, s) := by simp only [tupB, itemsD, h, Option.map_some]
theorem tupB_tup {ds : List D} {s : S} : tupB [.tup ds] s = some (.tup ds, s) := rfl
theorem lstB_ref {p : Nat} {ds : List D} {s : S} (h : s[p]? = some (.lst ds)) : lstB [.ref p] s = some (.ref s.length, s ++ [.lst ds]) := by simp only [lstB, itemsD, h, Option.map_some]
theorem lstB_tup {ds : List D} {s : S} : lstB [.tup ds] s = some (.ref s.length, s ++ [.lst ds]) := rfl
theorem ixD_rol {ds : List D} {i : Int} {s : S} : ixD (.rol ds) (.int i) s = (atI ds i).map fun x => (x, s) := by
  show (match atI ds i with | some x => some (x, s) | none => none) = _
  cases atI ds i <;> rfl
theorem ixD_tup {ds : List D} {i : Int} {s : S} : ixD (.tup ds) (.int i) s = (atI ds i).map fun x => (x, s) := by
  show (match atI ds i with | some x => some (x, s) | none => none) = _
  cases atI ds i <;> rfl
theorem ixD_ref {p : Nat} {ds : List D} {i : Int} {s : S} (h : s[p]? = some (.lst ds)) : ixD (.ref p) (.int i) s = (atI ds i).map fun x => (x, s) := by
  have e : itemsD (.ref p) s = some ds := by simp only [itemsD, h]
  show (match itemsD (.ref p) s with | some ds => (match atI ds i with | some x => some (x, s) | none => none) | none => none) = _
  rw [e]
  show (match atI ds i with | some x => some (x, s) | none => none) = _
  cases atI ds i <;> rfl
theorem atI_nat' {ds : List D} {i : Nat} {d : D} (h : ds[i]? = some d) : atI ds (i : Int) = some d := atI_nat h
theorem atI0 {a : D} {ds : List D} : atI (a :: ds) 0 = some a := atI_nat (j := 0) rfl
theorem atI1 {a b : D} {ds : List D} : atI (a :: b :: ds) 1 = some b := atI_nat (j := 1) rfl
theorem atI2 {a b c : D} {ds : List D} : atI (a :: b :: c :: ds) 2 = some c := atI_nat (j := 2) rfl
theorem atI3 {a b c d : D} {ds : List D} : atI (a :: b :: c :: d :: ds) 3 = some d := atI_nat (j := 3) rfl
theorem atI4 {a b c d e : D} {ds : List D} : atI (a :: b :: c :: d :: e :: ds) 4 = some e := atI_nat (j := 4) rfl
theorem asgT_n {i : Nat} {d : D} {env : Env} : asgT (.n i) d env = some (env.set i (some d)) := rfl
theorem app_ref {p : Nat} {ds : List D} {x : D} {s : S} (h : s[p]? = some (.lst ds)) : appM (.ref p) [x] s = if ds.length < 16777216 then some (.non, s.set p (.lst (ds ++ [x]))) else none := by simp only [appM, h]
theorem ty_ref {p : Nat} {ds : List D} {s : S} (h : s[p]? = some (.lst ds)) : tyD "list" (.ref p) s = true := by simp only [tyD, h]; rfl
theorem ext_ref {p q : Nat} {xs ys : List D} {s : S} (h : s[p]? = some (.lst xs)) (h' : s[q]? = some (.lst ys)) : extM (.ref p) [.ref q] s = if xs.length + ys.length ≤ 16777216 then some (.non, s.set p (.lst (xs ++ ys))) else none := by simp only [extM, h, h']
theorem bl_t {c : Prop} [Decidable c] : (decide c = true) ↔ c := decide_eq_true_iff
theorem top_get {s : S} {o : O} : (s ++ [o])[s.length]? = some o := by rw [List.getElem?_append_right (Nat.le_refl _), Nat.sub_self]; rfl
theorem top_set {s : S} {o o' : O} : (s ++ [o]).set s.length o' = s ++ [o'] := by
  rw [List.set_append_right _ _ (Nat.le_refl _), Nat.sub_self]; rfl
theorem old_get {s t : S} {p : Nat} {o : O} (h : s[p]? = some o) : (s ++ t)[p]? = some o := by
  rw [List.getElem?_append_left (List.getElem?_eq_some_iff.mp h).1]; exact h
theorem tyQ {s : S} {a : List D} : (tyD "list" (.ref s.length) (s ++ [.lst a]) = true) ↔ True := ⟨fun _ => True.intro, fun _ => ty_ref top_get⟩
theorem appQ {s : S} {a : List D} {x : D} : appM (.ref s.length) [x] (s ++ [.lst a]) = if a.length < 16777216 then some (.non, s ++ [.lst (a ++ [x])]) else none := by rw [app_ref top_get, top_set]
theorem slQ {s : S} {a : List D} {lo hi : Option Int} : slD (.ref s.length) lo hi (s ++ [O.lst a]) = some (.ref (s ++ [O.lst a]).length, (s ++ [O.lst a]) ++ [O.lst (Mi.cutD a lo hi)]) := by simp only [slD, top_get]
theorem slD_tup {a : List D} {lo hi : Option Int} {s : S} : slD (.tup a) lo hi s = some (.tup (Mi.cutD a lo hi), s) := rfl
theorem wp_map {α β : Type} {o : Option α} {f : α → β} {Q : β → Prop} : WP (o.map f) Q ↔ WP o fun x => Q (f x) := by
  cases o with
  | none => simp [wp_none]
  | some x => simp [wp_some]
end Mi

set_option Elab.async false
set_option linter.all false
set_option maxRecDepth 100000
namespace Mi
open PySem PySem.Spec PyProof.Rows L2

/-- a loop's run over items -/
@[irreducible] def FS (t : T) (b : ST) (ok : S → Prop) (ds : List D) (env : Env) (s : S) (N : Env → S → Prop) (Rt : D → S → Prop) (B C : Env → S → Prop) : Prop :=
  match forL t b ok ds env s with
  | .nx e s => N e s
  | .rt d s => Rt d s
  | .bk e s => B e s
  | .ct e s => C e s
  | _ => False
@[irreducible] def CS (t : T) (vs : List Nat) (c : EB) (e : EX) (ok : S → Prop) (env : Env) (ds : List D) (s : S) (Q : D → S → Prop) : Prop :=
  ds.length ≤ 16777216 ∧ WF (compL t vs c e ok env ds s) fun ys s2 => Q (.ref s2.length) (s2 ++ [O.lst ys])
@[irreducible] def DS (t : T) (vs : List Nat) (c : EB) (ek ev : EX) (ok : S → Prop) (env : Env) (ds : List D) (s : S) (Q : D → S → Prop) : Prop :=
  ds.length ≤ 16777216 ∧ WF (compD t vs c ek ev ok env ds [] s) fun ys s2 => Q (.ref s2.length) (s2 ++ [O.dct ys])
/-- what must stay so of the store while d is walked -/
def okD : D → List D → S → Prop
  | .ref p, ds, s => s[p]? = some (.lst ds)
  | _, _, _ => True
def okT : S → Prop := fun _ => True
section
variable {b : ST} {f : EX} {c : EB} {e ek ev : EX} {env : Env} {s : S} {N : Env → S → Prop} {Rt : D → S → Prop} {B C : Env → S → Prop} {t : T} {Q : D → S → Prop} {vs : List Nat}
theorem wi_seq {QI : Wk → S → Prop} : WI (iSeq f) env s QI ↔ W f env s fun d s1 => WP (itemsD d s1) fun ds => QI ⟨ds, okD d ds⟩ s1 := by
  rw [w_iSeq]
  unfold W
  refine wf_congr fun d s1 => ?_
  cases d with
  | tup ds => exact (wp_some (x := ds) (Q := fun zs => QI ⟨zs, okD (.tup ds) zs⟩ s1)).symm
  | rol ds => exact (wp_some (x := ds) (Q := fun zs => QI ⟨zs, okD (.rol ds) zs⟩ s1)).symm
  | ref p =>
    show WP (listItems (.ref p) s1) _ ↔ WP (listItems (.ref p) s1) _
    exact Iff.rfl
  | _ => exact (wp_none (α := List D)).symm
theorem wi_rng {QI : Wk → S → Prop} : WI (iRg1 f) env s QI ↔ W f env s fun d s1 => asI d fun j => (-4611686018427387904 ≤ j ∧ j < 4611686018427387904) ∧ QI ⟨rng 0 j.toNat, okT⟩ s1 := w_iRg1
theorem ws_for_wi {it : EI} : WS (sFor t it b) env s N Rt B C ↔ WI it env s fun w s1 => FS t b w.ok w.items env s1 N Rt B C := by
  unfold WS sFor WI FS
  exact ws_go
theorem ws_forS : WS (sFor t (iSeq f) b) env s N Rt B C ↔ W f env s fun d s1 => WP (itemsD d s1) fun ds => FS t b (okD d ds) ds env s1 N Rt B C := by
  rw [ws_for_wi, wi_seq]
theorem ws_forG : WS (sFor t (iRg1 f) b) env s N Rt B C ↔ W f env s fun d s1 => asI d fun j => (-4611686018427387904 ≤ j ∧ j < 4611686018427387904) ∧ FS t b okT (rng 0 j.toNat) env s1 N Rt B C := by
  rw [ws_for_wi, wi_rng]
theorem w_lc_wi {it : EI} : W (eLc it t vs c e) env s Q ↔ WI it env s fun w s1 => CS t vs c e w.ok env w.items s1 Q := by
  unfold W eLc WI CS
  rw [wf_bind]
  refine wf_congr fun w s1 => ?_
  rw [wf_if]
  refine and_congr Iff.rfl ?_
  cases compL t vs c e w.ok env w.items s1 <;> simp [wf_ok, wf_no, wf_ex]
theorem w_lcS : W (eLc (iSeq f) t vs c e) env s Q ↔ W f env s fun d s1 => WP (itemsD d s1) fun ds => CS t vs c e (okD d ds) env ds s1 Q := by
  rw [w_lc_wi, wi_seq]
theorem w_lcG : W (eLc (iRg1 f) t vs c e) env s Q ↔ W f env s fun d s1 => asI d fun j => (-4611686018427387904 ≤ j ∧ j < 4611686018427387904) ∧ CS t vs c e okT env (rng 0 j.toNat) s1 Q := by
  rw [w_lc_wi, wi_rng]
theorem w_dc_wi {it : EI} : W (eDc it t vs c ek ev) env s Q ↔ WI it env s fun w s1 => DS t vs c ek ev w.ok env w.items s1 Q := by
  unfold W eDc WI DS
  rw [wf_bind]
  refine wf_congr fun w s1 => ?_
  rw [wf_if]
  refine and_congr Iff.rfl ?_
  cases compD t vs c ek ev w.ok env w.items [] s1 <;> simp [wf_ok, wf_no, wf_ex]
theorem w_dcS : W (eDc (iSeq f) t vs c ek ev) env s Q ↔ W f env s fun d s1 => WP (itemsD d s1) fun ds => DS t vs c ek ev (okD d ds) env ds s1 Q := by
  rw [w_dc_wi, wi_seq]
theorem w_dcG : W (eDc (iRg1 f) t vs c ek ev) env s Q ↔ W f env s fun d s1 => asI d fun j => (-4611686018427387904 ≤ j ∧ j < 4611686018427387904) ∧ DS t vs c ek ev okT env (rng 0 j.toNat) s1 Q := by
  rw [w_dc_wi, wi_rng]
/-- by an invariant on what was taken -/
theorem fs_inv {ok : S → Prop} {ds : List D} (I : Nat → Env → S → Prop) (hok : ok s) (h0 : I 0 env s)
    (hs : ∀ i d env s, ds[i]? = some d → I i env s → ok s → WP (asgT t d env) fun e1 => WS b e1 s (fun e s => ok s ∧ I (i + 1) e s) Rt N (fun e s => ok s ∧ I (i + 1) e s))
    (hd : ∀ env s, I ds.length env s → ok s → N env s) : FS t b ok ds env s N Rt B C := by
  have key := ws_for (b := b) (t := t) (it := fun _ s => R.ok (⟨ds, ok⟩ : Wk) s) (env := env) (s := s) (N := N) (Rt := Rt) (B := B) (C := C) I ⟨ds, ok⟩ ⟨_, _, rfl, rfl, hok, h0⟩ hs hd
  rw [ws_for_wi] at key
  obtain ⟨w, s1, e, q⟩ := key
  cases e
  exact q
theorem fs_rng {n : Nat} (I : Nat → Env → S → Prop) (h0 : I 0 env s)
    (hs : ∀ (i : Nat) env s, i < n → I i env s → WP (asgT t (.int (i : Int)) env) fun e1 => WS b e1 s (I (i + 1)) Rt N (I (i + 1)))
    (hd : ∀ env s, I n env s → N env s) : FS t b okT (rng 0 n) env s N Rt B C := by
  refine fs_inv I True.intro h0 ?_ ?_
  · intro i d env s hi hI _
    obtain ⟨h1, rfl⟩ := rng_at hi
    obtain ⟨e1, he, q⟩ := hs i env s h1 hI
    exact ⟨e1, he, q.mono (fun _ _ z => ⟨True.intro, z⟩) (fun _ _ z => z) (fun _ _ z => z) fun _ _ z => ⟨True.intro, z⟩⟩
  · intro env s hI _
    rw [rng_len] at hI
    exact hd env s hI
theorem fs_tup {ds : List D} (I : Nat → Env → S → Prop) (h0 : I 0 env s)
    (hs : ∀ i d env s, ds[i]? = some d → I i env s → WP (asgT t d env) fun e1 => WS b e1 s (I (i + 1)) Rt N (I (i + 1)))
    (hd : ∀ env s, I ds.length env s → N env s) : FS t b (okD (.tup ds) ds) ds env s N Rt B C := by
  refine fs_inv I True.intro h0 ?_ ?_
  · intro i d env s hi hI _
    obtain ⟨e1, he, q⟩ := hs i d env s hi hI
    exact ⟨e1, he, q.mono (fun _ _ z => ⟨True.intro, z⟩) (fun _ _ z => z) (fun _ _ z => z) fun _ _ z => ⟨True.intro, z⟩⟩
  · intro env s hI _
    exact hd env s hI
theorem cs_inv {ok : S → Prop} {ds : List D} (I : Nat → List D → S → Prop) (hok : ok s) (hl : ds.length ≤ 16777216) (h0 : I 0 [] s)
    (hs : ∀ i d ys s, ds[i]? = some d → I i ys s → ok s → WP (asgT t d (wipeE env vs)) fun e1 => WB c e1 s fun k s1 => if k = true then W e e1 s1 fun y s2 => ok s2 ∧ I (i + 1) (ys ++ [y]) s2 else ok s1 ∧ I (i + 1) ys s1)
    (hd : ∀ ys s, I ds.length ys s → ok s → Q (.ref s.length) (s ++ [O.lst ys])) : CS t vs c e ok env ds s Q := by
  have key := w_lc (c := c) (t := t) (vs := vs) (e := e) (it := fun _ s => R.ok (⟨ds, ok⟩ : Wk) s) (env := env) (s := s) (Q := Q) I ⟨ds, ok⟩ ⟨_, _, rfl, rfl, hok, hl, h0⟩ hs hd
  rw [w_lc_wi] at key
  obtain ⟨w, s1, e, q⟩ := key
  cases e
  exact q
theorem cs_rng {n : Nat} (I : Nat → List D → S → Prop) (hl : n ≤ 16777216) (h0 : I 0 [] s)
    (hs : ∀ (i : Nat) ys s, i < n → I i ys s → WP (asgT t (.int (i : Int)) (wipeE env vs)) fun e1 => WB c e1 s fun k s1 => if k = true then W e e1 s1 fun y s2 => I (i + 1) (ys ++ [y]) s2 else I (i + 1) ys s1)
    (hd : ∀ ys s, I n ys s → Q (.ref s.length) (s ++ [O.lst ys])) : CS t vs c e okT env (rng 0 n) s Q := by
  refine cs_inv I True.intro (by rw [rng_len]; exact hl) h0 ?_ ?_
  · intro i d ys s hi hI _
    obtain ⟨h1, rfl⟩ := rng_at hi
    obtain ⟨e1, he, k, s1, ek, q⟩ := hs i ys s h1 hI
    refine ⟨e1, he, k, s1, ek, ?_⟩
    cases k with
    | true => rw [if_pos rfl] at q ⊢; exact WF.mono q fun _ _ z => ⟨True.intro, z⟩
    | false => rw [if_neg (by decide)] at q ⊢; exact ⟨True.intro, q⟩
  · intro ys s hI _
    rw [rng_len] at hI
    exact hd ys s hI
theorem cs_tup {ds : List D} (I : Nat → List D → S → Prop) (hl : ds.length ≤ 16777216) (h0 : I 0 [] s)
    (hs : ∀ i d ys s, ds[i]? = some d → I i ys s → WP (asgT t d (wipeE env vs)) fun e1 => WB c e1 s fun k s1 => if k = true then W e e1 s1 fun y s2 => I (i + 1) (ys ++ [y]) s2 else I (i + 1) ys s1)
    (hd : ∀ ys s, I ds.length ys s → Q (.ref s.length) (s ++ [O.lst ys])) : CS t vs c e (okD (.tup ds) ds) env ds s Q := by
  refine cs_inv I True.intro hl h0 ?_ ?_
  · intro i d ys s hi hI _
    obtain ⟨e1, he, k, s1, ek, q⟩ := hs i d ys s hi hI
    refine ⟨e1, he, k, s1, ek, ?_⟩
    cases k with
    | true => rw [if_pos rfl] at q ⊢; exact WF.mono q fun _ _ z => ⟨True.intro, z⟩
    | false => rw [if_neg (by decide)] at q ⊢; exact ⟨True.intro, q⟩
  · intro ys s hI _
    exact hd ys s hI
theorem ds_inv {ok : S → Prop} {ds : List D} (I : Nat → List (Key × D) → S → Prop) (hok : ok s) (hl : ds.length ≤ 16777216) (h0 : I 0 [] s)
    (hs : ∀ i d ys s, ds[i]? = some d → I i ys s → ok s → WP (asgT t d (wipeE env vs)) fun e1 => WB c e1 s fun k s1 => if k = true then W ek e1 s1 fun x s2 => W ev e1 s2 fun y s3 => WP (keyD x) fun x' => ok s3 ∧ I (i + 1) (putD ys x' y) s3 else ok s1 ∧ I (i + 1) ys s1)
    (hd : ∀ ys s, I ds.length ys s → ok s → Q (.ref s.length) (s ++ [O.dct ys])) : DS t vs c ek ev ok env ds s Q := by
  have key := w_dc (c := c) (t := t) (vs := vs) (ek := ek) (ev := ev) (it := fun _ s => R.ok (⟨ds, ok⟩ : Wk) s) (env := env) (s := s) (Q := Q) I ⟨ds, ok⟩ ⟨_, _, rfl, rfl, hok, hl, h0⟩ hs hd
  rw [w_dc_wi] at key
  obtain ⟨w, s1, e, q⟩ := key
  cases e
  exact q
end
theorem items_tup {ds : List D} {s : S} : itemsD (.tup ds) s = some ds := rfl
theorem items_rol {ds : List D} {s : S} : itemsD (.rol ds) s = some ds := rfl
theorem items_ref {p : Nat} {ds : List D} {s : S} (h : s[p]? = some (.lst ds)) : itemsD (.ref p) s = some ds := by simp only [itemsD, h]
end Mi

set_option Elab.async false
set_option linter.all false
set_option maxRecDepth 100000
namespace Mi
open PySem PySem.Spec PyProof.Rows L2
theorem ofStr_eq (a b : String) : (Str.ofString a = Str.ofString b) = (a = b) := by
  refine propext ⟨fun h => ?_, fun h => by rw [h]⟩
  rw [Str.ofString_eq_toList, Str.ofString_eq_toList] at h
  have h1 : (a.toList.map Char.toNat) = (b.toList.map Char.toNat) := by
    have := congrArg (fun s : Str => s.cps.toList) h
    simpa using this
  have inj : ∀ (x y : List Char), x.map Char.toNat = y.map Char.toNat → x = y := by
    intro x
    induction x with
    | nil => intro y h; cases y <;> simp_all
    | cons c x ih =>
      intro y h
      cases y with
      | nil => simp at h
      | cons d y =>
        rw [List.map_cons, List.map_cons] at h
        injection h with h1 h2
        rw [ih y h2]
        have : c = d := by
          apply Char.ext
          apply UInt32.toNat_inj.mp
          exact h1
        rw [this]
  exact String.toList_inj.mp (inj _ _ h1)
theorem eqD_str {a b : Str} {s : S} : eqD (.str a) (.str b) s = some (.bl (decide (a = b)), s) := rfl
theorem eqD_int {a b : Int} {s : S} : eqD (.int a) (.int b) s = some (.bl (decide (a = b)), s) := rfl
theorem neD_int {a b : Int} {s : S} : neD (.int a) (.int b) s = some (.bl (!decide (a = b)), s) := rfl
theorem eqD_bl {a b : Bool} {s : S} : eqD (.bl a) (.bl b) s = some (.bl (decide (a = b)), s) := rfl
theorem neD_bl {a b : Bool} {s : S} : neD (.bl a) (.bl b) s = some (.bl (!decide (a = b)), s) := rfl
theorem in_tup {neg : Bool} {d : D} {ds : List D} {s : S} : inD neg d (.tup ds) s = if (flatD d && ds.all flatD) = true then some (.bl (if neg then !(ds.any fun y => eqF y d) else ds.any fun y => eqF y d), s) else none := rfl
theorem in_ref {neg : Bool} {d : D} {p : Nat} {ds : List D} {s : S} (h : s[p]? = some (.lst ds)) : inD neg d (.ref p) s = if (flatD d && ds.all flatD) = true then some (.bl (if neg then !(ds.any fun y => eqF y d) else ds.any fun y => eqF y d), s) else none := by
  simp only [inD, itemsD, h]
theorem flatD_str {a : Str} : flatD (.str a) = true := rfl
theorem flatD_int {a : Int} : flatD (.int a) = true := rfl
theorem eqF_str {a b : Str} : eqF (.str a) (.str b) = decide (a = b) := Bool.beq_eq_decide_eq a b
theorem eqF_int {a b : Int} : eqF (.int a) (.int b) = decide (a = b) := Bool.beq_eq_decide_eq a b
theorem flat_ints (L : List Int) : (L.map D.int).all flatD = true := by
  rw [List.all_map]; exact List.all_eq_true.mpr fun _ _ => rfl
theorem any_ints (L : List Int) (a : Int) : ((L.map D.int).any fun y => eqF y (.int a)) = decide (a ∈ L) := by
  induction L with
  | nil => rfl
  | cons x L ih =>
    rw [List.map_cons, List.any_cons, ih, eqF_int]
    by_cases h : x = a
    · subst h; simp
    · have : ¬ a = x := fun z => h z.symm
      simp [h, this]
theorem in_ints {neg : Bool} {p : Nat} {L : List Int} {a : Int} {s : S} (h : s[p]? = some (.lst (L.map D.int))) : inD neg (.int a) (.ref p) s = some (.bl (if neg then !decide (a ∈ L) else decide (a ∈ L)), s) := by
  rw [in_ref h, flat_ints, any_ints]; rfl

/-- all that stood stands -/
def Gr (s s' : S) : Prop := s.length ≤ s'.length ∧ ∀ p, p < s.length → s'[p]? = s[p]?
theorem Gr.refl (s : S) : Gr s s := ⟨Nat.le_refl _, fun _ _ => rfl⟩
theorem Gr.trans {s s1 s2 : S} (a : Gr s s1) (b : Gr s1 s2) : Gr s s2 := ⟨Nat.le_trans a.1 b.1, fun p h => (b.2 p (Nat.lt_of_lt_of_le h a.1)).trans (a.2 p h)⟩
theorem Gr.app (s t : S) : Gr s (s ++ t) := ⟨by rw [List.length_append]; omega, fun p h => List.getElem?_append_left h⟩
theorem Gr.get {s s' : S} (a : Gr s s') {p : Nat} {o : O} (h : s[p]? = some o) : s'[p]? = some o := by rw [a.2 p (List.getElem?_eq_some_iff.mp h).1]; exact h
theorem Gr.set {s s' : S} (a : Gr s s') {p : Nat} {o : O} (h : s.length ≤ p) : Gr s (s'.set p o) :=
  ⟨by rw [List.length_set]; exact a.1, fun q hq => by rw [List.getElem?_set_ne (by omega)]; exact a.2 q hq⟩
end Mi

set_option Elab.async false
set_option linter.all false
set_option maxRecDepth 100000
namespace Mi
open PySem PySem.Spec PyProof.Rows L2
theorem WP.mono {α : Type} {o : Option α} {Q Q' : α → Prop} (h : WP o Q) (k : ∀ a, Q a → Q' a) : WP o Q' := let ⟨x, e, q⟩ := h; ⟨x, e, k x q⟩
section
variable {b : ST} {f : EX} {c : EB} {e ek ev : EX} {env : Env} {s : S} {N : Env → S → Prop} {Rt : D → S → Prop} {B C : Env → S → Prop} {t : T} {Q : D → S → Prop} {vs : List Nat} {ok : S → Prop} {α β : Type}
/-- a for as a fold -/
theorem fs_fold {xs : List α} (en : α → D) (g : β → α → β) (a0 : β) (I : β → Env → S → Prop) (hok : ok s) (h0 : I a0 env s)
    (hs : ∀ a x env s, x ∈ xs → I a env s → ok s → WP (asgT t (en x) env) fun e1 => WS b e1 s (fun e s => ok s ∧ I (g a x) e s) Rt N (fun e s => ok s ∧ I (g a x) e s))
    (hd : ∀ env s, I (xs.foldl g a0) env s → ok s → N env s) : FS t b ok (xs.map en) env s N Rt B C := by
  refine fs_inv (fun i env s => I ((xs.take i).foldl g a0) env s) hok h0 ?_ ?_
  · intro i d env s hi hI hk
    rw [List.getElem?_map] at hi
    cases hx : xs[i]? with
    | none => rw [hx] at hi; cases hi
    | some x =>
      rw [hx] at hi; cases hi
      have e : (xs.take (i + 1)).foldl g a0 = g ((xs.take i).foldl g a0) x := by
        rw [List.take_add_one, hx, Option.toList_some, List.foldl_append]; rfl
      rw [e]
      exact hs _ x env s (List.mem_of_getElem? hx) hI hk
  · intro env s hI hk
    rw [List.length_map, List.take_length] at hI
    exact hd env s hI hk
/-- a comprehension as a filterMap -/
theorem cs_map {xs : List α} (en : α → D) (g : α → Option D) (J : S → Prop) (hok : ok s) (hl : xs.length ≤ 16777216) (h0 : J s)
    (hs : ∀ x s, x ∈ xs → J s → ok s → WP (asgT t (en x) (wipeE env vs)) fun e1 => WB c e1 s fun k s1 => if k = true then W e e1 s1 fun y s2 => ok s2 ∧ J s2 ∧ g x = some y else ok s1 ∧ J s1 ∧ g x = none)
    (hd : ∀ s, J s → ok s → Q (.ref s.length) (s ++ [O.lst (xs.filterMap g)])) : CS t vs c e ok env (xs.map en) s Q := by
  refine cs_inv (fun i ys s => J s ∧ ys = (xs.take i).filterMap g) hok (by rw [List.length_map]; exact hl) ⟨h0, rfl⟩ ?_ ?_
  · rintro i d ys s hi ⟨hJ, rfl⟩ hk
    rw [List.getElem?_map] at hi
    cases hx : xs[i]? with
    | none => rw [hx] at hi; cases hi
    | some x =>
      rw [hx] at hi; cases hi
      refine WP.mono (hs x s (List.mem_of_getElem? hx) hJ hk) fun e1 h => ?_
      refine WF.mono h fun k s1 h => ?_
      have e : (xs.take (i + 1)).filterMap g = (xs.take i).filterMap g ++ (g x).toList := by
        rw [List.take_add_one, hx, Option.toList_some, List.filterMap_append]
        cases hg : g x <;> simp [hg]
      rw [e]
      cases k with
      | true =>
        rw [if_pos rfl] at h ⊢
        refine WF.mono h fun y s2 h => ⟨h.1, h.2.1, by rw [h.2.2]; rfl⟩
      | false =>
        rw [if_neg (by decide)] at h ⊢
        exact ⟨h.1, h.2.1, by rw [h.2.2, Option.toList_none, List.append_nil]⟩
  · rintro ys s ⟨hJ, rfl⟩ hk
    rw [List.length_map, List.take_length]
    exact hd s hJ hk
end
theorem okD_tup {ds : List D} {s : S} : okD (.tup ds) ds s := True.intro
theorem okD_rol {ds : List D} {s : S} : okD (.rol ds) ds s := True.intro
theorem okD_ref {p : Nat} {ds : List D} {s : S} : okD (.ref p) ds s ↔ s[p]? = some (.lst ds) := Iff.rfl
/-- the numbers below n as a list of D -/
theorem rng_map (n : Nat) : rng 0 n = (List.range n).map fun (i : Nat) => D.int (i : Int) := by
  unfold rng
  exact List.map_congr_left fun i _ => by rw [Int.zero_add]
/-- distinct small numbers are few -/
theorem nodup_le : ∀ (n : Nat) (L : List Int), L.Nodup → (∀ x ∈ L, 0 ≤ x ∧ x < n) → L.length ≤ n
  | 0, [], _, _ => Nat.le_refl _
  | 0, x :: _, _, h => by have := h x List.mem_cons_self; omega
  | n + 1, L, hn, h => by
    by_cases c : (n : Int) ∈ L
    · have h1 := nodup_le n (L.erase n) (hn.erase _) fun x hx => by
        have h2 := (hn.mem_erase_iff).mp hx
        have := h x h2.2
        have := h2.1
        omega
      rw [List.length_erase_of_mem c] at h1
      omega
    · have h1 := nodup_le n L hn fun x hx => by
        have := h x hx
        have : x ≠ n := fun z => c (z ▸ hx)
        omega
      omega
end Mi

set_option Elab.async false
set_option linter.all false
set_option maxRecDepth 100000
namespace Mi
open PySem PySem.Spec PyProof.Rows L2
/-! ### comparing sequences of data -/
theorem mapM_map {α β γ : Type} (f : β → Option γ) (en : α → β) (pd : α → γ) (h : ∀ a, f (en a) = some (pd a)) : ∀ xs : List α, (xs.map en).mapM f = some (xs.map pd)
  | [] => rfl
  | x :: xs => by rw [List.map_cons, List.mapM_cons, h, mapM_map f en pd h xs]; rfl
theorem mapM_on {α β γ : Type} (f : β → Option γ) (en : α → β) (pd : α → γ) : ∀ xs : List α, (∀ a ∈ xs, f (en a) = some (pd a)) → (xs.map en).mapM f = some (xs.map pd)
  | [], _ => rfl
  | x :: xs, h => by rw [List.map_cons, List.mapM_cons, h x List.mem_cons_self, mapM_on f en pd xs fun a ha => h a (List.mem_cons_of_mem _ ha)]; rfl
def shAll (k : Nat) (ps : List PyData) : Prop := ∀ p ∈ ps, p.canLay0 = true ∧ p.depth ≤ k
theorem canAll {k : Nat} : ∀ {ps : List PyData}, shAll k ps → PyData.canLayAll0 ps = true
  | [], _ => rfl
  | p :: ps, h => by
    show (PyData.canLay0 p && PyData.canLayAll0 ps) = true
    rw [(h p List.mem_cons_self).1, canAll fun x hx => h x (List.mem_cons_of_mem _ hx)]; rfl
theorem depAll {k : Nat} : ∀ {ps : List PyData}, shAll k ps → PyData.depthAll ps ≤ k
  | [], _ => Nat.zero_le _
  | p :: ps, h => Nat.max_le.mpr ⟨(h p List.mem_cons_self).2, depAll fun x hx => h x (List.mem_cons_of_mem _ hx)⟩
theorem sh_list {k : Nat} {ps : List PyData} (h : shAll k ps) (hk : k < 64) : SeqAt.shaped (.list ps) = true := by
  unfold SeqAt.shaped
  rw [show PyData.canLay0 (.list ps) = PyData.canLayAll0 ps from rfl, canAll h, Bool.true_and]
  refine decide_eq_true ?_
  show PyData.depthAll ps + 1 ≤ 64
  have := depAll h
  omega
theorem sh_tup {k : Nat} {ps : List PyData} (h : shAll k ps) (hk : k < 64) : SeqAt.shaped (.tuple ps) = true := sh_list h hk
theorem eqB_lst {p q k : Nat} {s : S} {as bs : List D} {pa pb : List PyData} (h : s[p]? = some (.lst as)) (h' : s[q]? = some (.lst bs)) (e : as.mapM (toP 59 s) = some pa) (e' : bs.mapM (toP 59 s) = some pb) (sa : shAll k pa) (sb : shAll k pb) (hk : k < 64) : eqB (.ref p) (.ref q) s = some (PyData.eqvAll pa pb) := by
  have h1 : toP 60 s (.ref p) = some (.list pa) := by
    show (match s[p]? with | some (.lst ds) => (ds.mapM (toP 59 s)).map PyData.list | _ => none) = _
    rw [h]; dsimp only; rw [e]; rfl
  have h2 : toP 60 s (.ref q) = some (.list pb) := by
    show (match s[q]? with | some (.lst ds) => (ds.mapM (toP 59 s)).map PyData.list | _ => none) = _
    rw [h']; dsimp only; rw [e']; rfl
  unfold eqB
  dsimp only [eqS]
  rw [h1, h2]
  dsimp only
  rw [sh_list sa hk, sh_list sb hk]
  rfl
theorem eqB_tup {k : Nat} {s : S} {as bs : List D} {pa pb : List PyData} (e : as.mapM (toP 59 s) = some pa) (e' : bs.mapM (toP 59 s) = some pb) (sa : shAll k pa) (sb : shAll k pb) (hk : k < 64) : eqB (.tup as) (.tup bs) s = some (PyData.eqvAll pa pb) := by
  have h1 : toP 60 s (.tup as) = some (.tuple pa) := by
    show (as.mapM (toP 59 s)).map PyData.tuple = _
    rw [e]; rfl
  have h2 : toP 60 s (.tup bs) = some (.tuple pb) := by
    show (bs.mapM (toP 59 s)).map PyData.tuple = _
    rw [e']; rfl
  unfold eqB
  dsimp only [eqS]
  rw [h1, h2]
  dsimp only
  rw [sh_tup sa hk, sh_tup sb hk]
  rfl
theorem eqv_nil (ps : List PyData) : PyData.eqvAll ps [] = ps.isEmpty := by cases ps <;> rfl
theorem eqv_ints : ∀ as bs : List Int, PyData.eqvAll (as.map .int) (bs.map .int) = decide (as = bs)
  | [], [] => rfl
  | [], _ :: _ => rfl
  | _ :: _, [] => rfl
  | a :: as, b :: bs => by
    show ((a == b) && PyData.eqvAll (as.map .int) (bs.map .int)) = _
    rw [eqv_ints as bs]
    by_cases h : a = b
    · subst h
      simp
    · simp [h]
theorem sh_ints (as : List Int) : shAll 0 (as.map PyData.int) := fun p h => by
  obtain ⟨a, _, rfl⟩ := List.mem_map.mp h
  exact ⟨rfl, Nat.le_refl _⟩
theorem toP_ints {s : S} (as : List Int) : (as.map D.int).mapM (toP 59 s) = some (as.map PyData.int) := mapM_map (toP 59 s) D.int PyData.int (fun _ => rfl) as
theorem eqB_ints {p q : Nat} {s : S} {as bs : List Int} (h : s[p]? = some (.lst (as.map D.int))) (h' : s[q]? = some (.lst (bs.map D.int))) : eqB (.ref p) (.ref q) s = some (decide (as = bs)) := by
  rw [eqB_lst h h' (toP_ints as) (toP_ints bs) (sh_ints as) (sh_ints bs) (by omega), eqv_ints]
theorem eqB_tints {s : S} {as bs : List Int} : eqB (.tup (as.map D.int)) (.tup (bs.map D.int)) s = some (decide (as = bs)) := by
  rw [eqB_tup (toP_ints as) (toP_ints bs) (sh_ints as) (sh_ints bs) (by omega), eqv_ints]
/-! ### displays of dicts, under wp -/
def WPs (trs : List (EX × EX)) (env : Env) (s : S) (Q : List (D × D) → S → Prop) : Prop := WF (evPs trs env s) Q
section
variable {env : Env} {s : S} {Q : D → S → Prop} {QP : List (D × D) → S → Prop} {trs : List (EX × EX)} {fk fv : EX}
theorem w_pN : WPs [] env s QP ↔ QP [] s := wf_ok
theorem w_pC : WPs ((fk, fv) :: trs) env s QP ↔ W fk env s fun k s1 => W fv env s1 fun v s2 => WPs trs env s2 fun ps s3 => QP ((k, v) :: ps) s3 := by
  show WF ((fk env s).bind fun k s1 => (fv env s1).bind fun v s2 => (evPs trs env s2).bind fun ps s3 => .ok ((k, v) :: ps) s3) QP ↔ WF (fk env s) fun k s1 => WF (fv env s1) fun v s2 => WF (evPs trs env s2) fun ps s3 => QP ((k, v) :: ps) s3
  rw [wf_bind]
  refine wf_congr fun k s1 => ?_
  rw [wf_bind]
  refine wf_congr fun v s2 => ?_
  rw [wf_bind]
  exact wf_congr fun ps s3 => wf_ok
theorem w_Dct : W (eDct trs) env s Q ↔ WPs trs env s fun ps s1 => WP (keyed ps) fun kvs => kvs.length ≤ 15 ∧ Q (.ref s1.length) (s1 ++ [.dct (mergeD [] kvs)]) := by
  unfold W eDct WPs
  rw [wf_bind]
  refine wf_congr fun ps s1 => ?_
  cases keyed ps with
  | none => exact ⟨fun ⟨_, _, e, _⟩ => (by cases e), fun ⟨_, e, _⟩ => (by cases e)⟩
  | some kvs =>
    rw [wp_some]
    dsimp only
    by_cases c : kvs.length ≤ 15
    · rw [if_pos c, wf_ok]; exact ⟨fun h => ⟨c, h⟩, And.right⟩
    · rw [if_neg c]; exact ⟨fun ⟨_, _, e, _⟩ => (by cases e), fun h => absurd h.1 c⟩
end
theorem add_refs {p q : Nat} {xs ys : List D} {s : S} (h : s[p]? = some (.lst xs)) (h' : s[q]? = some (.lst ys)) : addD (.ref p) (.ref q) s = if xs.length + ys.length ≤ 16777216 then some (.ref s.length, s ++ [.lst (xs ++ ys)]) else none := by simp only [addD, h, h']
end Mi

set_option Elab.async false
set_option linter.all false
set_option maxRecDepth 100000
set_option maxHeartbeats 4000000
namespace Mi
open PySem PySem.Spec PyProof.Rows L2
/-! ### tuple(d) of a written dict -/
section
variable {prog : Program} {w : World} {A : Around} {E : Value → Shared → Prop} {s : Shared} {T : String} {r d : Addr} {n : Nat} {P : Nat → Value → Prop} {OK : Heap → Prop}
theorem collect_kdl {Q : List Value → Shared → Prop} (K : PySem.W.KdlSrc prog w T r d n P OK) (hh : A.handled = none) (hok : OK s.heap) (hn : n ≤ sizeLine)
    (hQ : ∀ (h' : Heap) (tk : Nat) (acc : Array Value), (∀ b o, s.heap.get? b = some o → h'.get? b = some o) → ItemsOf P acc n → Q acc.toList { s with heap := h', toks := tk }) :
    wpAny (model prog w) A (collect (.ref r)) Q E s := by
  unfold collect
  refine wpAny_bind (wpAny_runValue (codeAny_builtin PySem.F.entry_proto_collect ?_))
  rw [Around.under_plainId PySem.F.plain_proto_collect _]
  show wpAny _ A.in1 (newList [] >>= fun l => again (.builtin "list.__iadd__" ⟨[l, .ref r], []⟩)) _ _ s
  refine wpAny_bind (wpAny_newObj_type ?_)
  refine wpAny_pure ⟨plainId_quiet PySem.F.plain_list_iadd _, codeAny_builtin PySem.F.entry_list_iadd ?_⟩
  rw [Around.under_plainId PySem.F.plain_list_iadd _]
  show wpAny _ A.in1 (Builtin.List.listExtendWith (.ref s.heap.objs.size) (.ref r) (.ref s.heap.objs.size)) _ _ _
  have hS : (s.heap.push { cls := .type "list", data := .seq ([] : List Value).toArray }).get? s.heap.objs.size = some { cls := .type "list", data := .seq #[] 0 } := Heap.get?_push_size _ rfl
  have hlt := K.there _ hok
  have hok' : OK (s.heap.push { cls := .type "list", data := .seq ([] : List Value).toArray }) := K.keep _ _ hok fun b _ o e => Heap.get?_push_of_some _ e
  refine wpAny_mono (PySem.W.kdl_extend (A := A) (R := fun rr s' => rr = .ok (.ret (.ref s.heap.objs.size)) ∧ ∃ (h' : Heap) (tk : Nat) (acc : Array Value) (c' : Nat), s' = { s with heap := h', toks := tk } ∧
      (∀ b o, s.heap.get? b = some o → h'.get? b = some o) ∧ h'.get? s.heap.objs.size = some { cls := .type "list", dict := none, data := .seq acc c', slots := #[] } ∧ ItemsOf P acc n)
    (s := { s with heap := s.heap.push { cls := .type "list", data := .seq ([] : List Value).toArray } }) K hh hok' s.heap.objs.size (Nat.ne_of_gt hlt.1) (Nat.ne_of_gt hlt.2) (.ref s.heap.objs.size) 0 hS
    (fun h' tk acc c' hk e hi => ⟨rfl, h', tk, acc, c', rfl, fun b o q => hk b o (Nat.ne_of_lt (Heap.lt_size q)) (Heap.get?_push_of_some _ q), e, hi⟩) hn) (fun fin s' h => ?_) (fun e s' h => ?_)
  · cases fin with
    | done f =>
      obtain ⟨e0, h', tk, acc, c', rfl, hk, hS', hi⟩ := h
      cases e0
      show wpAny _ A (load s.heap.objs.size >>= _) _ _ _
      exact wpAny_bind (wpAny_load hS' (wpAny_pure (hQ h' tk acc hk hi)))
    | again c' =>
      refine ⟨h.1, codeAny_mono h.2 fun rr s'' hr' => ?_⟩
      obtain ⟨e0, h', tk, acc, c', rfl, hk, hS', hi⟩ := hr'
      cases e0
      show wpAny _ A (load s.heap.objs.size >>= _) _ _ _
      exact wpAny_bind (wpAny_load hS' (wpAny_pure (hQ h' tk acc hk hi)))
  · exact absurd h.1 (by simp)
end
section
variable {prog : Program} {w : World} {A : Around} {E : Value → Shared → Prop} {s : Shared} {d : Addr} {n : Nat} {o : Obj} {es : Array DictEntry}
theorem code_tuple_new_dict {Q₁ : Value → Shared → Prop} (hh : A.handled = none) (lo : (d == sysModules) = false) (hx : o.ExactDict) (hd : o.data = .dict es n) (ho : s.heap.get? d = some o) (hz : es.size ≤ sizeLine)
    (h : ∀ (h' : Heap) (tk : Nat) (acc : Array Value), (∀ b o, s.heap.get? b = some o → h'.get? b = some o) → ItemsOf (fun i v => ∃ en : DictEntry, es[i]? = some en ∧ v = en.key) acc es.size →
      Q₁ (.ref h'.objs.size) { s with heap := h'.push { cls := .type "tuple", data := .seq acc }, toks := tk }) :
    codeAny (model prog w) A (.call (.builtin "tuple.__new__") ⟨[.type "tuple", .ref d], []⟩) (wants Q₁ E) s := by
  refine codeAny_of_tree ?_
  show wpAny _ A.in1 (do checkBuiltinCall "tuple.__new__" ⟨[.type "tuple", .ref d], []⟩; again (.builtin "tuple.__new__" ⟨[.type "tuple", .ref d], []⟩)) _ _ s
  refine wpAny_bind (wpAny_of_eq (PySem.F.newCall_tuple_1 _) (wpAny_pure ⟨plainId_quiet PySem.F.plain_tuple_new _, codeAny_builtin PySem.F.entry_tuple_new ?_⟩))
  rw [Around.under_plainId PySem.F.plain_tuple_new _]
  have hsub := sub_tuple_self
  have hinit := init_tuple_lookup
  have hmh := madeHere_tuple
  have hTI : s.TypeIs (.ref d) "dict" := ⟨_, ho, hx.1⟩
  have hh1 : A.in1.handled = none := hh
  wp_walk using wpAny_typeOf hTI, collect_kdl (A := A.in1) (kdl_raw lo hx hd) hh1 ho hz
  intro h' tk acc hk hacc
  show wpAny _ _ (Builtin.Tuple.tupleExact acc.toList.toArray >>= fun v => ret v) _ _ _
  unfold Builtin.Tuple.tupleExact
  refine wpAny_bind (wpAny_newObj_type ?_ (by show acc.toList.toArray.size ≤ sizeLine; simp only [Array.toArray_toList]; rw [hacc.1]; exact hz))
  refine wpAny_pure ?_
  have e : acc.toList.toArray = acc := by simp
  rw [e]
  exact h h' tk acc hk hacc
end
section
variable {prog : Program} {w : World} {A : Around} {E : Value → Shared → Prop} {s : Shared} {d : Addr} {n : Nat} {o : Obj} {es : Array DictEntry}
theorem call_tuple_dict {Q : Value → Shared → Prop} (hh : A.handled = none) (lo : (d == sysModules) = false) (hx : o.ExactDict) (hd : o.data = .dict es n) (ho : s.heap.get? d = some o) (hz : es.size ≤ sizeLine)
    (hQ : ∀ (h' : Heap) (tk : Nat) (acc : Array Value), (∀ b o, s.heap.get? b = some o → h'.get? b = some o) → ItemsOf (fun i v => ∃ en : DictEntry, es[i]? = some en ∧ v = en.key) acc es.size →
      Q (.ref h'.objs.size) { s with heap := h'.push { cls := .type "tuple", data := .seq acc }, toks := tk }) :
    wpAny (model prog w) A (call (.type "tuple") [.ref d]) Q E s := by
  refine callType_codes (Q₁ := fun obj s₁ => s₁.TypeIs obj "tuple" ∧ Q obj s₁) PySem.F.called_tuple (PySem.F.typeCall_tuple_1 _) PySem.F.entry_object_init
    (code_tuple_new_dict (A := A.in1) hh lo hx hd ho hz fun h' tk acc hk hacc => ⟨⟨_, Heap.get?_push_size _ rfl, rfl⟩, hQ h' tk acc hk hacc⟩) fun obj s₁ h₁ => ?_
  exact ⟨h₁.1, PySem.F.args_object_init_2 obj _, object_init_meets PySem.F.called_tuple.init.lookup PySem.F.called_tuple.made (by decide) prog w A.in1 _ s₁ ⟨h₁.1, rfl, h₁.2⟩⟩
end
section
variable {X : Cx} {W : XK}
theorem paired_len {α β : Type} {P : α → β → Prop} : ∀ {xs : List α} {ys : List β}, Paired P xs ys → xs.length = ys.length
  | _, _, .nil => rfl
  | _, _, .cons _ t => by rw [List.length_cons, List.length_cons, paired_len t]
theorem paired_get {α β : Type} {P : α → β → Prop} : ∀ {xs : List α} {ys : List β}, Paired P xs ys → ∀ {i : Nat} {x : α}, xs[i]? = some x → ∃ y, ys[i]? = some y ∧ P x y
  | _, _, .cons p _, 0, _, h => by cases h; exact ⟨_, rfl, p⟩
  | _, _, .cons _ t, i + 1, x, h => paired_get t (i := i) h
theorem call_tupG {x : Str} {kvs : List (Str × D)} (hc : X.calm = true) (h : GD X.K X.w X.mg x kvs) (hz : kvs.length ≤ 1000) :
    CallR X (.type "tuple") (fun xs H Q => ∃ a, X.mg x = some (.ref a) ∧ xs = [.ref a] ∧ ∀ q, H q = none → Q (.ref q) (upd H q (.tup (kvs.map fun kv => V.str kv.1)))) := by
  intro pins s σ H xs us Q I r hq
  obtain ⟨a, hm, e, q⟩ := hq
  subst e
  obtain ⟨u, eu, rx⟩ := vals1 r
  subst eu
  obtain rfl : u = Value.ref a := rx
  obtain ⟨a', es, n, hm', kd, p⟩ := h.ex
  rw [hm] at hm'; cases hm'
  have hl := paired_len p
  rw [Array.length_toList] at hl
  have hsz : es.size ≤ sizeLine := by rw [hl, sizeLine_eq]; omega
  refine call_tuple_dict (I.ok.hd hc) kd.low ⟨rfl, rfl, rfl⟩ rfl (I.kIn _ _ kd.at_) hsz fun h' tk acc hk hacc => ?_
  have I1 : Inv X pins σ H { s with heap := h', toks := tk } := I.kept hk
  have hval : Vals (kvs.map fun kv => V.str kv.1) acc.toList := by
    refine vals_of_at (by rw [List.length_map, Array.length_toList]; exact (hacc.1.trans hl).symm) fun j v u h1 h2 => ?_
    obtain ⟨en, e1, e2⟩ := hacc.2 j u (by rw [← Array.getElem?_toList]; exact h2)
    obtain ⟨kv, e3, ⟨t, e4⟩, _⟩ := paired_get p (i := j) (x := en) (by rw [Array.getElem?_toList]; exact e1)
    rw [List.getElem?_map, e3] at h1
    cases h1
    rw [e2, e4]
    exact ⟨t, rfl⟩
  have I2 : Inv X pins σ (upd H h'.objs.size (.tup (kvs.map fun kv => V.str kv.1))) { s with heap := h'.push { cls := .type "tuple", data := .seq acc }, toks := tk } :=
    I1.laid (t' := tk) (fun b o e => Heap.get?_push_of_some _ e) (Nat.le_refl _) (show ObjOk X.prog X.w _ _ _ (.tup (kvs.map fun kv => V.str kv.1)) from ⟨by rw [List.length_map, sizeLine_eq]; omega, acc.toList, hval, by rw [Array.toArray_toList]; exact IsTup.new _ _⟩)
  exact ⟨.ref h'.objs.size, _, I2, rfl, q _ (I1.hok.fresh (Nat.le_refl _))⟩
def tupGB (x : Str) (kvs : List (Str × D)) : OPN := fun ds s => match ds with
  | [.glo y] => if y = x then some (.tup (kvs.map fun kv => D.str kv.1), s) else none
  | _ => none
theorem reps_strs {g : G} {m : List Addr} {H : Hp} : ∀ (kvs : List (Str × D)), Reps g m H (kvs.map fun kv => V.str kv.1) (kvs.map fun kv => D.str kv.1)
  | [] => .nil
  | kv :: kvs => .cons (.str kv.1) (reps_strs kvs)
theorem on_tupG {g : G} {x : Str} {kvs : List (Str × D)} : ON g (fun xs H Q => ∃ a, g.mg x = some (.ref a) ∧ xs = [.ref a] ∧ ∀ q, H q = none → Q (.ref q) (upd H q (.tup (kvs.map fun kv => V.str kv.1)))) (tupGB x kvs) := by
  intro m H s vs ds y s' Q hold rv he q
  unfold tupGB at he
  split at he
  · rename_i z
    by_cases c : z = x
    · rw [if_pos c] at he; cases he
      subst c
      obtain ⟨v, rfl, r⟩ := reps1 rv
      cases r with
      | @glo a _ hm => exact ⟨a, hm, rfl, fun p hp => new_tup hold hp (reps_strs kvs) q⟩
    · rw [if_neg c] at he; cases he
  · cases he
end
/-! ### a datum of the module -/
/-- what stands at x in the module is d -/
structure GV (K : PySem.W.Frag) (mg : Str → Option Value) (x : Str) (d : D) : Prop where
  ex : ∃ (v : V) (u : Value), mg x = some u ∧ RelV v u ∧ ∀ m H, Rep ⟨K, mg⟩ m H v d
section
variable {X : Cx} {W : XK}
theorem s_gv {x : Str} {d : D} {pos : Pos} (h : GV X.K X.mg x d) (hg : Gl X x) (hdb : (x == ("__debug__" : Str)) = false := by decide) : PE X (.Name x pos) (sem ⟨X.K, X.mg⟩ W (cn d)) := by
  obtain ⟨v, u, hm, r, q⟩ := h.ex
  exact s_con (pe_glob hg hm r hdb) q
theorem gv_int {K : PySem.W.Frag} {mg : Str → Option Value} {x : Str} {i : Int} {t : Tok} (h : mg x = some (.int i t)) : GV K mg x (.int i) := ⟨⟨.int i, _, h, ⟨t, rfl⟩, fun _ _ => .int i⟩⟩
theorem gv_tup {K : PySem.W.Frag} {mg : Str → Option Value} {x : Str} {a : Addr} {its : Array Value} {n : Nat} {xs : List V} {ds : List D} (h : mg x = some (.ref a)) (e : K.lookup a = some ⟨.type "tuple", none, .seq its n, #[]⟩) (hz : its.size ≤ sizeLine) (hv : Vals xs its.toList) (r : ∀ m H, Reps ⟨K, mg⟩ m H xs ds) : GV K mg x (.tup ds) :=
  ⟨⟨.ref a, _, h, rfl, fun m H => .tup (.inr ⟨_, its, n, e, rfl, rfl, hz, hv⟩) (r m H)⟩⟩
end
/-! ### recursion -/
def noF : FN := fun _ _ => .no
theorem keeps_no {P : Program} {w : World} {K : PySem.W.Frag} {mg : Str → Option Value} {base : Heap} {x : Str} {st : Stmt} {f : Addr} {fd : FuncData} {ps : List Str} {L : Nat} (h : DefAt K mg x st ps f fd) : Keeps P w K mg base L x ps noF f fd := by
  have no : ∀ {vs H Q E}, ¬ spF ⟨K, mg⟩ ps.length noF vs H Q E := by
    intro vs H Q E z
    obtain ⟨m, s, ds, _, _, _, h⟩ := z
    exact h
  exact ⟨⟨fun _ _ _ _ z => absurd z no, fun _ _ _ _ _ _ _ _ _ _ _ _ _ z => absurd z no⟩, h.at_, h.fn.kp, h.bd⟩
/-! ### displays of dicts, for the printed derivations -/
section
variable {X : Cx} {g : G} {W : XK}
def PPm (X : Cx) (g : G) (W : XK) (pos : Pos) (keys : List (Option Expr)) (values : List Expr) (trs : List (EX × EX)) : Prop := PPs X pos keys values (trs.map fun p => (sem g W p.1, sem g W p.2))
theorem ppm_nil {pos : Pos} : PPm X g W pos [] [] [] := pps_nil
theorem ppm_cons {pos : Pos} {k v : Expr} {ks : List (Option Expr)} {vs : List Expr} {fk fv : EX} {trs : List (EX × EX)} (hk : PE X k (sem g W fk)) (hv : PE X v (sem g W fv)) (hr : PPm X g W pos ks vs trs) : PPm X g W pos (some k :: ks) (v :: vs) ((fk, fv) :: trs) := pps_cons hk hv hr
theorem s_dctm {pos : Pos} {keys : List (Option Expr)} {values : List Expr} {trs : List (EX × EX)} (h : PPm X g W pos keys values trs) (hall : keys.all (·.isSome) = true) (hl : keys.length = values.length) (h0 : keys ≠ [])
    (h15 : keys.length ≤ 15) : PE X (.Dict keys values pos) (sem g W (eDct trs)) := s_dct h hall hl h0 h15
end
end Mi

set_option Elab.async false
set_option linter.all false
set_option maxRecDepth 100000
namespace Mi
open PySem PySem.Spec PyProof.Rows L2
/-! ### more facts for walking -/
theorem in_top {neg : Bool} {d : D} {ds : List D} {s : S} : inD neg d (.ref s.length) (s ++ [O.lst ds]) = if (flatD d && ds.all flatD) = true then some (.bl (if neg then !(ds.any fun y => eqF y d) else ds.any fun y => eqF y d), s ++ [O.lst ds]) else none := in_ref top_get
theorem ixD_top {ds : List D} {i : Int} {s : S} : ixD (.ref s.length) (.int i) (s ++ [O.lst ds]) = (atI ds i).map fun x => (x, s ++ [O.lst ds]) := ixD_ref top_get
theorem tupB_top {ds : List D} {s : S} : tupB [.ref s.length] (s ++ [O.lst ds]) = some (.tup ds, s ++ [O.lst ds]) := tupB_ref top_get
theorem items_top {ds : List D} {s : S} : itemsD (.ref s.length) (s ++ [O.lst ds]) = some ds := items_ref top_get
theorem lenB_top {ds : List D} {s : S} : lenB [.ref s.length] (s ++ [O.lst ds]) = some (.int (ds.length : Int), s ++ [O.lst ds]) := lenB_ref top_get
theorem tru_bl {b : Bool} {s : S} : truD (.bl b) s = some b := rfl
theorem asgT_2 {i j : Nat} {a b : D} {env : Env} : asgT (.t [i, j]) (.tup [a, b]) env = some ((env.set i (some a)).set j (some b)) := rfl
theorem asgT_3 {i j k : Nat} {a b c : D} {env : Env} : asgT (.t [i, j, k]) (.tup [a, b, c]) env = some (((env.set i (some a)).set j (some b)).set k (some c)) := rfl
theorem blsD_map : ∀ bs : List Bool, blsD (bs.map D.bl) = some bs
  | [] => rfl
  | b :: bs => by show (blsD (bs.map D.bl)).map (b :: ·) = _; rw [blsD_map bs]; rfl
theorem intsD_map : ∀ L : List Int, intsD (L.map D.int) = some L
  | [] => rfl
  | b :: L => by show (intsD (L.map D.int)).map (b :: ·) = _; rw [intsD_map L]; rfl
theorem any_ref {q : Nat} {bs : List Bool} {s : S} (h : s[q]? = some (.lst (bs.map D.bl))) : Mi.anyB [.ref q] s = some (.bl (bs.any id), s) := by
  simp only [Mi.anyB, oneL, listItems, h, Option.bind_some, blsD_map, Option.map_some]
theorem all_ref {q : Nat} {bs : List Bool} {s : S} (h : s[q]? = some (.lst (bs.map D.bl))) : Mi.allB [.ref q] s = some (.bl (bs.all id), s) := by
  simp only [Mi.allB, oneL, listItems, h, Option.bind_some, blsD_map, Option.map_some]
theorem sum_ref {q : Nat} {L : List Int} {s : S} (h : s[q]? = some (.lst (L.map D.int))) : Mi.sumB [.ref q] s = some (.int L.sum, s) := by
  simp only [Mi.sumB, oneL, listItems, h, Option.bind_some, intsD_map, Option.map_some]
theorem sort_ref {q : Nat} {L : List Int} {s : S} (h : s[q]? = some (.lst (L.map D.int))) : sortB [.ref q] s = some (.ref s.length, s ++ [.lst ((sortI L).map D.int)]) := by
  simp only [sortB, oneL, listItems, h, Option.bind_some, intsD_map, Option.map_some]
theorem ws_cut {a b : ST} {env : Env} {s : S} {N I : Env → S → Prop} {Rt : D → S → Prop} {B C : Env → S → Prop} (h1 : WS a env s I Rt B C) (h2 : ∀ e s, I e s → WS b e s N Rt B C) : WS (sSeq a b) env s N Rt B C := ws_seq.mpr (WS.mono h1 h2 (fun _ _ h => h) (fun _ _ h => h) (fun _ _ h => h))
theorem neD_ints {p q : Nat} {s : S} {as bs : List Int} (h : s[p]? = some (.lst (as.map D.int))) (h' : s[q]? = some (.lst (bs.map D.int))) : neD (.ref p) (.ref q) s = some (.bl (!decide (as = bs)), s) := by
  unfold neD; rw [eqB_ints h h']
/-- each item gives a truth: the list of truths -/
theorem fm_all {α : Type} (f : α → Bool) (xs : List α) : (xs.filterMap fun x => some (D.bl (f x))) = (xs.map f).map D.bl := by
  rw [List.map_map]
  induction xs with
  | nil => rfl
  | cons x xs ih => rw [List.filterMap_cons, List.map_cons, ih]; rfl
theorem fm_map {α : Type} (f : α → D) (xs : List α) : (xs.filterMap fun x => some (f x)) = xs.map f := by
  induction xs with
  | nil => rfl
  | cons x xs ih => rw [List.filterMap_cons, List.map_cons, ih]
theorem fm_if {α : Type} (P : α → Bool) (en : α → D) (R : List α) : (R.filterMap fun x => if P x = true then some (en x) else none) = (R.filter P).map en := by
  induction R with
  | nil => rfl
  | cons x R ih =>
    by_cases c : P x = true
    · rw [List.filterMap_cons, if_pos c, List.filter_cons_of_pos c, List.map_cons, ih]
    · rw [List.filterMap_cons, if_neg c, List.filter_cons_of_neg c, ih]
theorem gtD_int {i j : Int} {s : S} : gtD (.int i) (.int j) s = some (.bl (decide (j < i)), s) := rfl
theorem addI_int {i j : Int} {s : S} : addI (.int i) (.int j) s = some (.int (i + j), s) := rfl
section
variable {b : ST} {c : EB} {e : EX} {env : Env} {s : S} {N : Env → S → Prop} {Rt : D → S → Prop} {B C : Env → S → Prop} {t : T} {Q : D → S → Prop} {vs : List Nat} {ok : S → Prop} {β : Type}
theorem cs_mapD {xs : List D} (g : D → Option D) (J : S → Prop) (hok : ok s) (hl : xs.length ≤ 16777216) (h0 : J s)
    (hs : ∀ x s, x ∈ xs → J s → ok s → WP (asgT t x (wipeE env vs)) fun e1 => WB c e1 s fun k s1 => if k = true then W e e1 s1 fun y s2 => ok s2 ∧ J s2 ∧ g x = some y else ok s1 ∧ J s1 ∧ g x = none)
    (hd : ∀ s, J s → ok s → Q (.ref s.length) (s ++ [O.lst (xs.filterMap g)])) : CS t vs c e ok env xs s Q := by
  have := cs_map (c := c) (e := e) (t := t) (vs := vs) (env := env) (Q := Q) (xs := xs) id g J hok hl h0 hs hd
  rwa [List.map_id] at this
theorem fs_foldD {xs : List D} (g : β → D → β) (a0 : β) (I : β → Env → S → Prop) (hok : ok s) (h0 : I a0 env s)
    (hs : ∀ a x env s, x ∈ xs → I a env s → ok s → WP (asgT t x env) fun e1 => WS b e1 s (fun e s => ok s ∧ I (g a x) e s) Rt N (fun e s => ok s ∧ I (g a x) e s))
    (hd : ∀ env s, I (xs.foldl g a0) env s → ok s → N env s) : FS t b ok xs env s N Rt B C := by
  have := fs_fold (b := b) (t := t) (env := env) (N := N) (Rt := Rt) (B := B) (C := C) (xs := xs) id g a0 I hok h0 hs hd
  rwa [List.map_id] at this
end
theorem cutD_init {xs : List D} : cutD xs none (some (-1)) = xs.dropLast := by
  unfold cutD HT.sIx
  simp only [List.drop_zero]
  rw [List.dropLast_eq_take]
  congr 1
  simp
  omega
theorem cutD_take {xs : List D} {n : Nat} : cutD xs none (some (n : Int)) = xs.take n := by
  unfold cutD
  rw [HT.sIx_nat, HT.sIx_none, List.drop_zero, Nat.sub_zero]
  by_cases h : n ≤ xs.length
  · rw [Nat.min_eq_left h]
  · rw [Nat.min_eq_right (by omega), List.take_of_length_le (Nat.le_refl _), List.take_of_length_le (by omega)]
theorem cutD_drop {xs : List D} {n : Nat} : cutD xs (some (n : Int)) none = xs.drop n := by
  unfold cutD
  rw [HT.sIx_nat, HT.sIx_none]
  by_cases h : n ≤ xs.length
  · rw [Nat.min_eq_left h, List.take_of_length_le (by rw [List.length_drop]; exact Nat.le_refl _)]
  · rw [Nat.min_eq_right (by omega), List.drop_of_length_le (Nat.le_refl _), List.drop_of_length_le (by omega), List.take_nil]
theorem atI_last {xs : List D} {l : D} (h : xs.getLast? = some l) : atI xs (-1) = some l := by
  unfold atI ixN
  rw [List.getLast?_eq_getElem?] at h
  have hp : 0 < xs.length := by
    cases xs with
    | nil => cases h
    | cons x xs => simp
  rw [if_neg (by omega), if_pos (by omega)]
  show xs[(-1 + (xs.length : Int)).toNat]? = some l
  rw [show (-1 + (xs.length : Int)).toNat = xs.length - 1 by omega]
  exact h
end Mi

set_option Elab.async false
set_option linter.all false
set_option maxRecDepth 100000
set_option maxHeartbeats 4000000
namespace My
open PySem PySem.Spec PyProof.Rows L2 Mi
def topS (i : Nat) : Stmt := PySem.Challenge.pw_sameclock_k60_words_and_programs_that_ar.main.body.getD i (.Pass ⟨0, 0, 0, 0⟩)
def kv_SHAPES : List (Str × D) := [("const", .str "rn"), ("copy", .str "rr"), ("op", .str "grrr"), ("select", .str "rrrr"), ("load", .str "rir"), ("store", .str "irr"), ("out", .str "r"), ("jump", .str "t"), ("branch", .str "rtt"), ("stop", .str "r")]
def dv_SIGNS : D := .tup [.str "+", .str "-", .str "*", .str "&", .str "|", .str "^", .str "<<", .str ">>", .str "==", .str "<", .str "<=", .str "div", .str "mod"]
def dv_WORD : D := .int 4294967296
def dv_MOST : D := .int 100000
def dv_LONGEST : D := .int 64
def dv_LABELS : D := .tup [.str "public", .str "secret"]
def dv_ENDS : D := .tup [.str "jump", .str "branch", .str "stop"]
structure Blt (K : PySem.W.Frag) (w : World) (mg : Str → Option Value) : Prop where
  int : mg "int" = none
  isinstance : mg "isinstance" = none
  bool : mg "bool" = none
  str : mg "str" = none
  tuple : mg "tuple" = none
  len : mg "len" = none
  all : mg "all" = none
  range : mg "range" = none
  any : mg "any" = none
  abs : mg "abs" = none
  gd_SHAPES : GD K w mg "SHAPES" kv_SHAPES
  gv_SIGNS : GV K mg "SIGNS" dv_SIGNS
  gv_WORD : GV K mg "WORD" dv_WORD
  gv_MOST : GV K mg "MOST" dv_MOST
  gv_LONGEST : GV K mg "LONGEST" dv_LONGEST
  gv_LABELS : GV K mg "LABELS" dv_LABELS
  gv_ENDS : GV K mg "ENDS" dv_ENDS
section
variable {P : Program} {w : World} {K : PySem.W.Frag} {mg : Str → Option Value} {base : Heap}
abbrev s_shifted : Stmt := topS 8
theorem sc_shifted : FnScope ["sign", "a", "b", "by"] ["sign", "a", "b"] (defScope s_shifted) := ⟨rfl, rfl, rfl, by decide +kernel, rfl, by decide +kernel, by decide +kernel⟩
noncomputable def g_shifted : ST :=
  (sSeq (sSet 3 (e2 modD (eB intB (aC (vr 2) aN)) (cn (.int 32))))
    (sSeq (sIf (tB1 (e2 eqD (vr 0) (cn (.str "<<")))) (sRet (e2 modD (eB intB (aC (e2 mulD (vr 1) (e2 shlD (cn (.int 1)) (vr 3))) aN)) (cn dv_WORD))) sSkip)
    (sRet (e2 divWD (vr 1) (e2 shlD (cn (.int 1)) (vr 3))))))
noncomputable def F_shifted : FN := fnB 4 3 g_shifted
theorem ok_shifted (B : Blt K w mg) {f : Addr} {fd : FuncData} (h : DefAt K mg "shifted" s_shifted ["sign", "a", "b"] f fd)  : Keeps P w K mg base 1 "shifted" ["sign", "a", "b"] F_shifted f fd :=
  keeps_of h sc_shifted fun cdv A outer s H E hr =>
    (ss_cons (c_set (ps_set (i := 3) sc_shifted.nd rfl (by first | exact Or.inl rfl | exact Or.inr rfl) (s_op op_mod o2_mod (s_blt (pe_callTy call_int1 (by rfl) B.int (by decide +kernel) (a_cons (s_var (pv 2)) a_nil)) on_int) s_int)))
    (ss_cons (c_if (ps_if (t_cmp (op_eqA hr.units) o2_eq (s_var (pv 0)) s_str (nomark _)) (ss_one (c_ret (ps_ret (s_op op_mod o2_mod (s_blt (pe_callTy call_int1 (by rfl) B.int (by decide +kernel) (a_cons (s_op op_mulA o2_mul (s_var (pv 1)) (s_op op_shl o2_shl s_int (s_var (pv 3)))) a_nil)) on_int) (s_gv B.gv_WORD (by rfl)))))) ss_nil))
    (ss_one (c_ret (ps_ret (s_op op_fdivW o2_divW (s_var (pv 1)) (s_op op_shl o2_shl s_int (s_var (pv 3)))))))))
abbrev s_divided : Stmt := topS 9
theorem sc_divided : FnScope ["sign", "a", "b"] ["sign", "a", "b"] (defScope s_divided) := ⟨rfl, rfl, rfl, by decide +kernel, rfl, by decide +kernel, by decide +kernel⟩
noncomputable def g_divided : ST :=
  (sSeq (sIf (tB1 (e2 eqD (vr 0) (cn (.str "div")))) (sRet (eIf (tB1 (e2 neD (vr 2) (cn (.int 0)))) (e2 divWD (vr 1) (vr 2)) (cn (.int 0)))) sSkip)
    (sRet (eIf (tB1 (e2 neD (vr 2) (cn (.int 0)))) (e2 subD (vr 1) (e2 mulD (vr 2) (e2 divWD (vr 1) (vr 2)))) (vr 1))))
noncomputable def F_divided : FN := fnB 3 3 g_divided
theorem ok_divided (B : Blt K w mg) {f : Addr} {fd : FuncData} (h : DefAt K mg "divided" s_divided ["sign", "a", "b"] f fd)  : Keeps P w K mg base 1 "divided" ["sign", "a", "b"] F_divided f fd :=
  keeps_of h sc_divided fun cdv A outer s H E hr =>
    (ss_cons (c_if (ps_if (t_cmp (op_eqA hr.units) o2_eq (s_var (pv 0)) s_str (nomark _)) (ss_one (c_ret (ps_ret (s_if (t_cmp (op_neA hr.units) o2_ne (s_var (pv 2)) s_int (nomark _)) (s_op op_fdivW o2_divW (s_var (pv 1)) (s_var (pv 2))) s_int)))) ss_nil))
    (ss_one (c_ret (ps_ret (s_if (t_cmp (op_neA hr.units) o2_ne (s_var (pv 2)) s_int (nomark _)) (s_op op_sub o2_sub (s_var (pv 1)) (s_op op_mulA o2_mul (s_var (pv 2)) (s_op op_fdivW o2_divW (s_var (pv 1)) (s_var (pv 2))))) (s_var (pv 1)))))))
abbrev s_apply : Stmt := topS 10
theorem sc_apply : FnScope ["sign", "a", "b"] ["sign", "a", "b"] (defScope s_apply) := ⟨rfl, rfl, rfl, by decide +kernel, rfl, by decide +kernel, by decide +kernel⟩
noncomputable def g_apply : ST :=
  (sSeq (sIf (tB1 (e2 (inD false) (vr 0) (eTup (aC (cn (.str "<<")) (aC (cn (.str ">>")) aN))))) (sRet (eCall 3 F_shifted (aC (vr 0) (aC (vr 1) (aC (vr 2) aN))))) sSkip)
    (sSeq (sIf (tB1 (e2 (inD false) (vr 0) (eTup (aC (cn (.str "div")) (aC (cn (.str "mod")) aN))))) (sRet (eCall 3 F_divided (aC (vr 0) (aC (vr 1) (aC (vr 2) aN))))) sSkip)
    (sSeq (sIf (tB1 (e2 eqD (vr 0) (cn (.str "==")))) (sRet (eB intB (aC (e2 eqD (vr 1) (vr 2)) aN))) sSkip)
    (sSeq (sIf (tB1 (e2 eqD (vr 0) (cn (.str "<")))) (sRet (eB intB (aC (e2 ltD (vr 1) (vr 2)) aN))) sSkip)
    (sSeq (sIf (tB1 (e2 eqD (vr 0) (cn (.str "<=")))) (sRet (eB intB (aC (e2 leD (vr 1) (vr 2)) aN))) sSkip)
    (sSeq (sIf (tB1 (e2 eqD (vr 0) (cn (.str "&")))) (sRet (e2 andD (vr 1) (vr 2))) sSkip)
    (sSeq (sIf (tB1 (e2 eqD (vr 0) (cn (.str "|")))) (sRet (e2 orD (vr 1) (vr 2))) sSkip)
    (sSeq (sIf (tB1 (e2 eqD (vr 0) (cn (.str "^")))) (sRet (e2 xorD (vr 1) (vr 2))) sSkip)
    (sSeq (sIf (tB1 (e2 eqD (vr 0) (cn (.str "+")))) (sRet (e2 modD (eB intB (aC (e2 addD (vr 1) (vr 2)) aN)) (cn dv_WORD))) sSkip)
    (sSeq (sIf (tB1 (e2 eqD (vr 0) (cn (.str "-")))) (sRet (e2 modD (eB intB (aC (e2 subD (vr 1) (vr 2)) aN)) (cn dv_WORD))) sSkip)
    (sRet (e2 modD (eB intB (aC (e2 mulD (vr 1) (vr 2)) aN)) (cn dv_WORD)))))))))))))
noncomputable def F_apply : FN := fnB 3 3 g_apply
theorem ok_apply (B : Blt K w mg) {f : Addr} {fd : FuncData} (h : DefAt K mg "apply" s_apply ["sign", "a", "b"] f fd) {f0 : Addr} {fd0 : FuncData} (h_shifted : Keeps P w K mg base 1 "shifted" ["sign", "a", "b"] F_shifted f0 fd0) {f1 : Addr} {fd1 : FuncData} (h_divided : Keeps P w K mg base 1 "divided" ["sign", "a", "b"] F_divided f1 fd1) : Keeps P w K mg base 2 "apply" ["sign", "a", "b"] F_apply f fd :=
  keeps_of h sc_apply fun cdv A outer s H E hr =>
    (ss_cons (c_if (ps_if (t_cmp op_in_seq (o2_in (neg := false)) (s_var (pv 0)) (s_tup (a_cons s_str (a_cons s_str a_nil))) (by rfl)) (ss_one (c_ret (ps_ret (s_own h_shifted (by decide) hr rfl (by rfl) (a_cons (s_var (pv 0)) (a_cons (s_var (pv 1)) (a_cons (s_var (pv 2)) a_nil))))))) ss_nil))
    (ss_cons (c_if (ps_if (t_cmp op_in_seq (o2_in (neg := false)) (s_var (pv 0)) (s_tup (a_cons s_str (a_cons s_str a_nil))) (by rfl)) (ss_one (c_ret (ps_ret (s_own h_divided (by decide) hr rfl (by rfl) (a_cons (s_var (pv 0)) (a_cons (s_var (pv 1)) (a_cons (s_var (pv 2)) a_nil))))))) ss_nil))
    (ss_cons (c_if (ps_if (t_cmp (op_eqA hr.units) o2_eq (s_var (pv 0)) s_str (nomark _)) (ss_one (c_ret (ps_ret (s_blt (pe_callTy call_int1 (by rfl) B.int (by decide +kernel) (a_cons (s_cmp (op_eqA hr.units) o2_eq (s_var (pv 1)) (s_var (pv 2)) (nomark _)) a_nil)) on_int)))) ss_nil))
    (ss_cons (c_if (ps_if (t_cmp (op_eqA hr.units) o2_eq (s_var (pv 0)) s_str (nomark _)) (ss_one (c_ret (ps_ret (s_blt (pe_callTy call_int1 (by rfl) B.int (by decide +kernel) (a_cons (s_cmp op_lt o2_lt (s_var (pv 1)) (s_var (pv 2)) (nomark _)) a_nil)) on_int)))) ss_nil))
    (ss_cons (c_if (ps_if (t_cmp (op_eqA hr.units) o2_eq (s_var (pv 0)) s_str (nomark _)) (ss_one (c_ret (ps_ret (s_blt (pe_callTy call_int1 (by rfl) B.int (by decide +kernel) (a_cons (s_cmp op_le o2_le (s_var (pv 1)) (s_var (pv 2)) (nomark _)) a_nil)) on_int)))) ss_nil))
    (ss_cons (c_if (ps_if (t_cmp (op_eqA hr.units) o2_eq (s_var (pv 0)) s_str (nomark _)) (ss_one (c_ret (ps_ret (s_op op_and o2_and (s_var (pv 1)) (s_var (pv 2)))))) ss_nil))
    (ss_cons (c_if (ps_if (t_cmp (op_eqA hr.units) o2_eq (s_var (pv 0)) s_str (nomark _)) (ss_one (c_ret (ps_ret (s_op op_or o2_or (s_var (pv 1)) (s_var (pv 2)))))) ss_nil))
    (ss_cons (c_if (ps_if (t_cmp (op_eqA hr.units) o2_eq (s_var (pv 0)) s_str (nomark _)) (ss_one (c_ret (ps_ret (s_op op_xor o2_xor (s_var (pv 1)) (s_var (pv 2)))))) ss_nil))
    (ss_cons (c_if (ps_if (t_cmp (op_eqA hr.units) o2_eq (s_var (pv 0)) s_str (nomark _)) (ss_one (c_ret (ps_ret (s_op op_mod o2_mod (s_blt (pe_callTy call_int1 (by rfl) B.int (by decide +kernel) (a_cons (s_op op_addA o2_add (s_var (pv 1)) (s_var (pv 2))) a_nil)) on_int) (s_gv B.gv_WORD (by rfl)))))) ss_nil))
    (ss_cons (c_if (ps_if (t_cmp (op_eqA hr.units) o2_eq (s_var (pv 0)) s_str (nomark _)) (ss_one (c_ret (ps_ret (s_op op_mod o2_mod (s_blt (pe_callTy call_int1 (by rfl) B.int (by decide +kernel) (a_cons (s_op op_sub o2_sub (s_var (pv 1)) (s_var (pv 2))) a_nil)) on_int) (s_gv B.gv_WORD (by rfl)))))) ss_nil))
    (ss_one (c_ret (ps_ret (s_op op_mod o2_mod (s_blt (pe_callTy call_int1 (by rfl) B.int (by decide +kernel) (a_cons (s_op op_mulA o2_mul (s_var (pv 1)) (s_var (pv 2))) a_nil)) on_int) (s_gv B.gv_WORD (by rfl))))))))))))))))
abbrev s_size_of : Stmt := topS 11
theorem sc_size_of : FnScope ["length", "size"] ["length"] (defScope s_size_of) := ⟨rfl, rfl, rfl, by decide +kernel, rfl, by decide +kernel, by decide +kernel⟩
noncomputable def g_size_of_b1 : ST :=
  (sSet 1 (e2 mulD (vr 1) (cn (.int 2))))
noncomputable def g_size_of : ST :=
  (sSeq (sSet 1 (cn (.int 1)))
    (sSeq (whl (tB1 (e2 ltD (vr 1) (vr 0))) g_size_of_b1 1000000)
    (sRet (vr 1))))
noncomputable def F_size_of : FN := fnB 2 1 g_size_of
theorem ok_size_of (B : Blt K w mg) {f : Addr} {fd : FuncData} (h : DefAt K mg "size_of" s_size_of ["length"] f fd)  : Keeps P w K mg base 1 "size_of" ["length"] F_size_of f fd :=
  keeps_of h sc_size_of fun cdv A outer s H E hr =>
    (ss_cons (c_set (ps_set (i := 1) sc_size_of.nd rfl (by first | exact Or.inl rfl | exact Or.inr rfl) s_int))
    (ss_cons (c_while (ps_while PassesOwn.never (t_cmp op_lt o2_lt (s_var (pv 1)) (s_var (pv 0)) (nomark _)) (ss_one (c_set (ps_set (i := 1) sc_size_of.nd rfl (by first | exact Or.inl rfl | exact Or.inr rfl) (s_op op_mulA o2_mul (s_var (pv 1)) s_int))))))
    (ss_one (c_ret (ps_ret (s_var (pv 1)))))))
abbrev s_is_number : Stmt := topS 12
theorem sc_is_number : FnScope ["thing", "most"] ["thing", "most"] (defScope s_is_number) := ⟨rfl, rfl, rfl, by decide +kernel, rfl, by decide +kernel, by decide +kernel⟩
noncomputable def g_is_number : ST :=
  (sRet (eAn (eB isiB (aC (vr 0) (aC (cn (.ty "int")) aN))) (eAn (eNo (eB isiB (aC (vr 0) (aC (cn (.ty "bool")) aN)))) (eCh leD leD (cn (.int 0)) (vr 0) (vr 1)))))
noncomputable def F_is_number : FN := fnB 2 2 g_is_number
theorem ok_is_number (B : Blt K w mg) {f : Addr} {fd : FuncData} (h : DefAt K mg "is_number" s_is_number ["thing", "most"] f fd)  : Keeps P w K mg base 1 "is_number" ["thing", "most"] F_is_number f fd :=
  keeps_of h sc_is_number fun cdv A outer s H E hr =>
    (ss_one (c_ret (ps_ret (s_and (s_blt (pe_callB call_isi (by rfl) B.isinstance (by decide +kernel) (a_cons (s_var (pv 0)) (a_cons (s_ty (by rfl) B.int (by decide +kernel)) a_nil))) on_isi) (s_and (s_not (s_blt (pe_callB call_isi (by rfl) B.isinstance (by decide +kernel) (a_cons (s_var (pv 0)) (a_cons (s_ty (by rfl) B.bool (by decide +kernel)) a_nil))) on_isi)) (s_one (s_chain (pe_chain op_le op_le s_int (s_var (pv 0)) (s_var (pv 1))) o2_le o2_le)))))))
abbrev s_is_text : Stmt := topS 13
theorem sc_is_text : FnScope ["thing", "texts"] ["thing", "texts"] (defScope s_is_text) := ⟨rfl, rfl, rfl, by decide +kernel, rfl, by decide +kernel, by decide +kernel⟩
noncomputable def g_is_text : ST :=
  (sRet (eAn (eB isiB (aC (vr 0) (aC (cn (.ty "str")) aN))) (e2 (inD false) (vr 0) (vr 1))))
noncomputable def F_is_text : FN := fnB 2 2 g_is_text
theorem ok_is_text (B : Blt K w mg) {f : Addr} {fd : FuncData} (h : DefAt K mg "is_text" s_is_text ["thing", "texts"] f fd)  : Keeps P w K mg base 1 "is_text" ["thing", "texts"] F_is_text f fd :=
  keeps_of h sc_is_text fun cdv A outer s H E hr =>
    (ss_one (c_ret (ps_ret (s_and (s_blt (pe_callB call_isi (by rfl) B.isinstance (by decide +kernel) (a_cons (s_var (pv 0)) (a_cons (s_ty (by rfl) B.str (by decide +kernel)) a_nil))) on_isi) (s_one (s_cmp op_in_seq (o2_in (neg := false)) (s_var (pv 0)) (s_var (pv 1)) (by rfl)))))))
abbrev s_part_fits : Stmt := topS 14
theorem sc_part_fits : FnScope ["thing", "kind", "arrays", "blocks", "bounds"] ["thing", "kind", "arrays", "blocks"] (defScope s_part_fits) := ⟨rfl, rfl, rfl, by decide +kernel, rfl, by decide +kernel, by decide +kernel⟩
noncomputable def g_part_fits : ST :=
  (sSeq (sIf (tB1 (e2 eqD (vr 1) (cn (.str "g")))) (sRet (eCall 2 F_is_text (aC (vr 0) (aC (cn dv_SIGNS) aN)))) sSkip)
    (sSeq (sSet 4 (eDct [((cn (.str "r")), (cn dv_MOST)), ((cn (.str "n")), (e2 subD (cn dv_WORD) (cn (.int 1)))), ((cn (.str "i")), (e2 subD (vr 2) (cn (.int 1)))), ((cn (.str "t")), (e2 subD (vr 3) (cn (.int 1))))]))
    (sRet (eCall 2 F_is_number (aC (vr 0) (aC (e2 dgetD (vr 4) (vr 1)) aN))))))
noncomputable def F_part_fits : FN := fnB 5 4 g_part_fits
theorem ok_part_fits (B : Blt K w mg) {f : Addr} {fd : FuncData} (h : DefAt K mg "part_fits" s_part_fits ["thing", "kind", "arrays", "blocks"] f fd) {f0 : Addr} {fd0 : FuncData} (h_is_text : Keeps P w K mg base 1 "is_text" ["thing", "texts"] F_is_text f0 fd0) {f1 : Addr} {fd1 : FuncData} (h_is_number : Keeps P w K mg base 1 "is_number" ["thing", "most"] F_is_number f1 fd1) : Keeps P w K mg base 2 "part_fits" ["thing", "kind", "arrays", "blocks"] F_part_fits f fd :=
  keeps_of h sc_part_fits fun cdv A outer s H E hr =>
    (ss_cons (c_if (ps_if (t_cmp (op_eqA hr.units) o2_eq (s_var (pv 1)) s_str (nomark _)) (ss_one (c_ret (ps_ret (s_own h_is_text (by decide) hr rfl (by rfl) (a_cons (s_var (pv 0)) (a_cons (s_gv B.gv_SIGNS (by rfl)) a_nil)))))) ss_nil))
    (ss_cons (c_set (ps_set (i := 4) sc_part_fits.nd rfl (by first | exact Or.inl rfl | exact Or.inr rfl) (s_dctm (ppm_cons s_str (s_gv B.gv_MOST (by rfl)) (ppm_cons s_str (s_op op_sub o2_sub (s_gv B.gv_WORD (by rfl)) s_int) (ppm_cons s_str (s_op op_sub o2_sub (s_var (pv 2)) s_int) (ppm_cons s_str (s_op op_sub o2_sub (s_var (pv 3)) s_int) ppm_nil)))) (by rfl) (by rfl) (fun z => by cases z) (by decide))))
    (ss_one (c_ret (ps_ret (s_own h_is_number (by decide) hr rfl (by rfl) (a_cons (s_var (pv 0)) (a_cons (c_2 (pe_dget (hu_of hr) (s_var (pv 4)) (s_var (pv 1)) (fun _ _ => rfl)) o2_dget) a_nil))))))))
abbrev s_is_row : Stmt := topS 15
theorem sc_is_row : FnScope ["thing", "arrays", "blocks", "shape", "at"] ["thing", "arrays", "blocks"] (defScope s_is_row) := ⟨rfl, rfl, rfl, by decide +kernel, rfl, by decide +kernel, by decide +kernel⟩
noncomputable def g_is_row : ST :=
  (sSeq (sIf (tO (tNo (tTl (eB isiB (aC (vr 0) (aC (cn (.ty "tuple")) aN))))) (tO (tB1 (e2 eqD (vr 0) (eTup aN))) (tNo (tTl (eCall 2 F_is_text (aC (e2 ixD (vr 0) (cn (.int 0))) (aC (eB (tupGB "SHAPES" kv_SHAPES) (aC (cn (.glo "SHAPES")) aN)) aN))))))) (sRet (cn (.bl false))) sSkip)
    (sSeq (sSet 3 (e2 (gixD "SHAPES" kv_SHAPES) (cn (.glo "SHAPES")) (e2 ixD (vr 0) (cn (.int 0)))))
    (sSeq (sIf (tB1 (e2 neD (eB lenB (aC (vr 0) aN)) (e2 addD (eB lenB (aC (vr 3) aN)) (cn (.int 1))))) (sRet (cn (.bl false))) sSkip)
    (sRet (eB allB (aC (eLc (iRg1 (eB lenB (aC (vr 3) aN))) (.n 4) [4] yes (eCall 4 F_part_fits (aC (e2 ixD (vr 0) (e2 addD (vr 4) (cn (.int 1)))) (aC (e2 ixD (vr 3) (vr 4)) (aC (vr 1) (aC (vr 2) aN)))))) aN))))))
noncomputable def F_is_row : FN := fnB 5 3 g_is_row
theorem ok_is_row (B : Blt K w mg) {f : Addr} {fd : FuncData} (h : DefAt K mg "is_row" s_is_row ["thing", "arrays", "blocks"] f fd) {f0 : Addr} {fd0 : FuncData} (h_is_text : Keeps P w K mg base 1 "is_text" ["thing", "texts"] F_is_text f0 fd0) {f1 : Addr} {fd1 : FuncData} (h_part_fits : Keeps P w K mg base 2 "part_fits" ["thing", "kind", "arrays", "blocks"] F_part_fits f1 fd1) : Keeps P w K mg base 3 "is_row" ["thing", "arrays", "blocks"] F_is_row f fd :=
  keeps_of h sc_is_row fun cdv A outer s H E hr =>
    (ss_cons (c_if (ps_if (PW.pt (t_or (t_not (t_truth (s_blt (pe_callB call_isi (by rfl) B.isinstance (by decide +kernel) (a_cons (s_var (pv 0)) (a_cons (s_ty (by rfl) B.tuple (by decide +kernel)) a_nil))) on_isi))) (t_or (t_cmp (op_eqA hr.units) o2_eq (s_var (pv 0)) (s_tup a_nil) (nomark _)) (t_or1 (t_not (t_truth (s_own h_is_text (by decide) hr rfl (by rfl) (a_cons (s_ix ix_seq o2_ix (s_var (pv 0)) s_int (fun _ _ => rfl)) (a_cons (s_blt (pe_callTy (call_tupG rfl B.gd_SHAPES (by decide +kernel)) (by rfl) B.tuple (by decide +kernel) (a_cons (s_gdn B.gd_SHAPES (by rfl)) a_nil)) on_tupG) a_nil))))))))) (ss_one (c_ret (ps_ret s_bl))) ss_nil))
    (ss_cons (c_set (ps_set (i := 3) sc_is_row.nd rfl (by first | exact Or.inl rfl | exact Or.inr rfl) (s_gix B.gd_SHAPES (s_gdn B.gd_SHAPES (by rfl)) (s_ix ix_seq o2_ix (s_var (pv 0)) s_int (fun _ _ => rfl)) (fun _ _ => rfl))))
    (ss_cons (c_if (ps_if (t_cmp (op_neA hr.units) o2_ne (s_blt (pe_callB call_lenA (by rfl) B.len (by decide +kernel) (a_cons (s_var (pv 0)) a_nil)) on_len) (s_op op_addA o2_add (s_blt (pe_callB call_lenA (by rfl) B.len (by decide +kernel) (a_cons (s_var (pv 3)) a_nil)) on_len) s_int) (nomark _)) (ss_one (c_ret (ps_ret s_bl))) ss_nil))
    (ss_one (c_ret (ps_ret (s_blt (pe_callB (cr_all rfl) (by rfl) B.all (by decide +kernel) (a_cons (s_lc0 (pe_lc (own := [("at", 4)]) (g := gT _ (.n 4)) (by rfl) sc_is_row.nd (i_rg1 (pi_range1 (by rfl) B.range (a_cons (s_blt (pe_callB call_lenA (by rfl) B.len (by decide +kernel) (a_cons (s_var (pv 3)) a_nil)) on_len) a_nil))) (blkOk_by (own := [("at", 4)]) (N := ["thing", "arrays", "blocks", "shape", "at"]) (sc := defScope s_is_row) (by decide +kernel)) (fun _ _ _ _ _ => (pg_name (i := 4) sc_is_row.nd rfl (by first | exact Or.inl rfl | exact Or.inr rfl))) (fun _ _ _ _ _ => pts_nil) (fun _ _ _ _ _ => (s_own h_part_fits (by decide) hr rfl (by rfl) (a_cons (s_ix ix_seq o2_ix (s_var (pv 0)) (s_op op_addA o2_add (s_var (pv 4)) s_int) (fun _ _ => rfl)) (a_cons (s_ix ix_seq o2_ix (s_var (pv 3)) (s_var (pv 4)) (fun _ _ => rfl)) (a_cons (s_var (pv 1)) (a_cons (s_var (pv 2)) a_nil))))))) (by decide)) a_nil)) on_all)))))))
abbrev s_is_block : Stmt := topS 16
theorem sc_is_block : FnScope ["thing", "arrays", "blocks", "row"] ["thing", "arrays", "blocks"] (defScope s_is_block) := ⟨rfl, rfl, rfl, by decide +kernel, rfl, by decide +kernel, by decide +kernel⟩
noncomputable def g_is_block : ST :=
  (sSeq (sIf (tO (tNo (tTl (eB isiB (aC (vr 0) (aC (cn (.ty "tuple")) aN))))) (tB1 (e2 eqD (vr 0) (eTup aN)))) (sRet (cn (.bl false))) sSkip)
    (sSeq (sIf (tNo (tTl (eB allB (aC (eLc (iSeq (vr 0)) (.n 3) [3] yes (eCall 3 F_is_row (aC (vr 3) (aC (vr 1) (aC (vr 2) aN))))) aN)))) (sRet (cn (.bl false))) sSkip)
    (sRet (eAn (e2 (inD false) (e2 ixD (e2 ixD (vr 0) (eNeg (cn (.int 1)))) (cn (.int 0))) (cn dv_ENDS)) (eNo (eB anyB (aC (eLc (iSeq (eSl (vr 0) oN (oS (eNeg (cn (.int 1)))))) (.n 3) [3] yes (e2 (inD false) (e2 ixD (vr 3) (cn (.int 0))) (cn dv_ENDS))) aN)))))))
noncomputable def F_is_block : FN := fnB 4 3 g_is_block
theorem ok_is_block (B : Blt K w mg) {f : Addr} {fd : FuncData} (h : DefAt K mg "is_block" s_is_block ["thing", "arrays", "blocks"] f fd) {f0 : Addr} {fd0 : FuncData} (h_is_row : Keeps P w K mg base 3 "is_row" ["thing", "arrays", "blocks"] F_is_row f0 fd0) : Keeps P w K mg base 4 "is_block" ["thing", "arrays", "blocks"] F_is_block f fd :=
  keeps_of h sc_is_block fun cdv A outer s H E hr =>
    (ss_cons (c_if (ps_if (PW.pt (t_or (t_not (t_truth (s_blt (pe_callB call_isi (by rfl) B.isinstance (by decide +kernel) (a_cons (s_var (pv 0)) (a_cons (s_ty (by rfl) B.tuple (by decide +kernel)) a_nil))) on_isi))) (t_or1 (t_cmp (op_eqA hr.units) o2_eq (s_var (pv 0)) (s_tup a_nil) (nomark _))))) (ss_one (c_ret (ps_ret s_bl))) ss_nil))
    (ss_cons (c_if (ps_if (t_not (t_truth (s_blt (pe_callB (cr_all rfl) (by rfl) B.all (by decide +kernel) (a_cons (s_lc0 (pe_lc (own := [("row", 3)]) (g := gT _ (.n 3)) (by rfl) sc_is_block.nd (i_seq (s_var (pv 0))) (blkOk_by (own := [("row", 3)]) (N := ["thing", "arrays", "blocks", "row"]) (sc := defScope s_is_block) (by decide +kernel)) (fun _ _ _ _ _ => (pg_name (i := 3) sc_is_block.nd rfl (by first | exact Or.inl rfl | exact Or.inr rfl))) (fun _ _ _ _ _ => pts_nil) (fun _ _ _ _ _ => (s_own h_is_row (by decide) hr rfl (by rfl) (a_cons (s_var (pv 3)) (a_cons (s_var (pv 1)) (a_cons (s_var (pv 2)) a_nil)))))) (by decide)) a_nil)) on_all))) (ss_one (c_ret (ps_ret s_bl))) ss_nil))
    (ss_one (c_ret (ps_ret (s_and (s_cmp op_in_seq (o2_in (neg := false)) (s_ix ix_seq o2_ix (s_ix ix_seq o2_ix (s_var (pv 0)) (s_neg s_int) (fun _ _ => rfl)) s_int (fun _ _ => rfl)) (s_gv B.gv_ENDS (by rfl)) (by rfl)) (s_one (s_not (s_blt (pe_callB (cr_any rfl) (by rfl) B.any (by decide +kernel) (a_cons (s_lc0 (pe_lc (own := [("row", 3)]) (g := gT _ (.n 3)) (by rfl) sc_is_block.nd (i_seq (s_slice (s_var (pv 0)) o_none (o_some (s_neg s_int)))) (blkOk_by (own := [("row", 3)]) (N := ["thing", "arrays", "blocks", "row"]) (sc := defScope s_is_block) (by decide +kernel)) (fun _ _ _ _ _ => (pg_name (i := 3) sc_is_block.nd rfl (by first | exact Or.inl rfl | exact Or.inr rfl))) (fun _ _ _ _ _ => pts_nil) (fun _ _ _ _ _ => (s_cmp op_in_seq (o2_in (neg := false)) (s_ix ix_seq o2_ix (s_var (pv 3)) s_int (fun _ _ => rfl)) (s_gv B.gv_ENDS (by rfl)) (by rfl)))) (by decide)) a_nil)) on_any)))))))))
abbrev s_is_array : Stmt := topS 17
theorem sc_is_array : FnScope ["thing"] ["thing"] (defScope s_is_array) := ⟨rfl, rfl, rfl, by decide +kernel, rfl, by decide +kernel, by decide +kernel⟩
noncomputable def g_is_array : ST :=
  (sSeq (sIf (tO (tNo (tTl (eB isiB (aC (vr 0) (aC (cn (.ty "tuple")) aN))))) (tO (tB1 (e2 neD (eB lenB (aC (vr 0) aN)) (cn (.int 3)))) (tNo (tTl (eB isiB (aC (e2 ixD (vr 0) (cn (.int 0))) (aC (cn (.ty "str")) aN))))))) (sRet (cn (.bl false))) sSkip)
    (sRet (eAn (eCall 2 F_is_number (aC (e2 ixD (vr 0) (cn (.int 1))) (aC (cn dv_LONGEST) aN))) (eAn (e2 gtD (e2 ixD (vr 0) (cn (.int 1))) (cn (.int 0))) (eCall 2 F_is_text (aC (e2 ixD (vr 0) (cn (.int 2))) (aC (cn dv_LABELS) aN)))))))
noncomputable def F_is_array : FN := fnB 1 1 g_is_array
theorem ok_is_array (B : Blt K w mg) {f : Addr} {fd : FuncData} (h : DefAt K mg "is_array" s_is_array ["thing"] f fd) {f0 : Addr} {fd0 : FuncData} (h_is_number : Keeps P w K mg base 1 "is_number" ["thing", "most"] F_is_number f0 fd0) {f1 : Addr} {fd1 : FuncData} (h_is_text : Keeps P w K mg base 1 "is_text" ["thing", "texts"] F_is_text f1 fd1) : Keeps P w K mg base 2 "is_array" ["thing"] F_is_array f fd :=
  keeps_of h sc_is_array fun cdv A outer s H E hr =>
    (ss_cons (c_if (ps_if (PW.pt (t_or (t_not (t_truth (s_blt (pe_callB call_isi (by rfl) B.isinstance (by decide +kernel) (a_cons (s_var (pv 0)) (a_cons (s_ty (by rfl) B.tuple (by decide +kernel)) a_nil))) on_isi))) (t_or (t_cmp (op_neA hr.units) o2_ne (s_blt (pe_callB call_lenA (by rfl) B.len (by decide +kernel) (a_cons (s_var (pv 0)) a_nil)) on_len) s_int (nomark _)) (t_or1 (t_not (t_truth (s_blt (pe_callB call_isi (by rfl) B.isinstance (by decide +kernel) (a_cons (s_ix ix_seq o2_ix (s_var (pv 0)) s_int (fun _ _ => rfl)) (a_cons (s_ty (by rfl) B.str (by decide +kernel)) a_nil))) on_isi))))))) (ss_one (c_ret (ps_ret s_bl))) ss_nil))
    (ss_one (c_ret (ps_ret (s_and (s_own h_is_number (by decide) hr rfl (by rfl) (a_cons (s_ix ix_seq o2_ix (s_var (pv 0)) s_int (fun _ _ => rfl)) (a_cons (s_gv B.gv_LONGEST (by rfl)) a_nil))) (s_and (s_cmp op_gt o2_gt (s_ix ix_seq o2_ix (s_var (pv 0)) s_int (fun _ _ => rfl)) s_int (nomark _)) (s_one (s_own h_is_text (by decide) hr rfl (by rfl) (a_cons (s_ix ix_seq o2_ix (s_var (pv 0)) s_int (fun _ _ => rfl)) (a_cons (s_gv B.gv_LABELS (by rfl)) a_nil))))))))))
abbrev s_is_ir : Stmt := topS 18
theorem sc_is_ir : FnScope ["thing", "arrays", "params", "blocks", "one", "block"] ["thing"] (defScope s_is_ir) := ⟨rfl, rfl, rfl, by decide +kernel, rfl, by decide +kernel, by decide +kernel⟩
noncomputable def g_is_ir : ST :=
  (sSeq (sIf (tO (tNo (tTl (eB isiB (aC (vr 0) (aC (cn (.ty "tuple")) aN))))) (tB1 (e2 neD (eB lenB (aC (vr 0) aN)) (cn (.int 3))))) (sRet (cn (.bl false))) sSkip)
    (sSeq (sAsg (.t [1, 2, 3]) (vr 0))
    (sSeq (sIf (tO (tNo (tTl (eB isiB (aC (vr 1) (aC (cn (.ty "tuple")) aN))))) (tO (tNo (tTl (eB isiB (aC (vr 3) (aC (cn (.ty "tuple")) aN))))) (tB1 (e2 eqD (vr 3) (eTup aN))))) (sRet (cn (.bl false))) sSkip)
    (sSeq (sIf (tO (tNo (tTl (eB allB (aC (eLc (iSeq (vr 1)) (.n 4) [4] yes (eCall 1 F_is_array (aC (vr 4) aN))) aN)))) (tNo (tTl (eCall 2 F_is_number (aC (vr 2) (aC (e2 addD (cn dv_MOST) (cn (.int 1))) aN)))))) (sRet (cn (.bl false))) sSkip)
    (sRet (eB allB (aC (eLc (iSeq (vr 3)) (.n 5) [5] yes (eCall 3 F_is_block (aC (vr 5) (aC (eB lenB (aC (vr 1) aN)) (aC (eB lenB (aC (vr 3) aN)) aN))))) aN)))))))
noncomputable def F_is_ir : FN := fnB 6 1 g_is_ir
theorem ok_is_ir (B : Blt K w mg) {f : Addr} {fd : FuncData} (h : DefAt K mg "is_ir" s_is_ir ["thing"] f fd) {f0 : Addr} {fd0 : FuncData} (h_is_number : Keeps P w K mg base 1 "is_number" ["thing", "most"] F_is_number f0 fd0) {f1 : Addr} {fd1 : FuncData} (h_is_array : Keeps P w K mg base 2 "is_array" ["thing"] F_is_array f1 fd1) {f2 : Addr} {fd2 : FuncData} (h_is_block : Keeps P w K mg base 4 "is_block" ["thing", "arrays", "blocks"] F_is_block f2 fd2) : Keeps P w K mg base 5 "is_ir" ["thing"] F_is_ir f fd :=
  keeps_of h sc_is_ir fun cdv A outer s H E hr =>
    (ss_cons (c_if (ps_if (PW.pt (t_or (t_not (t_truth (s_blt (pe_callB call_isi (by rfl) B.isinstance (by decide +kernel) (a_cons (s_var (pv 0)) (a_cons (s_ty (by rfl) B.tuple (by decide +kernel)) a_nil))) on_isi))) (t_or1 (t_cmp (op_neA hr.units) o2_ne (s_blt (pe_callB call_lenA (by rfl) B.len (by decide +kernel) (a_cons (s_var (pv 0)) a_nil)) on_len) s_int (nomark _))))) (ss_one (c_ret (ps_ret s_bl))) ss_nil))
    (ss_cons (c_asg (t := (.t [1, 2, 3])) (ps_asg (s_var (pv 0)) (pg_tup rfl (pgs_cons (pg_name (i := 1) sc_is_ir.nd rfl (by first | exact Or.inl rfl | exact Or.inr rfl)) (pgs_cons (pg_name (i := 2) sc_is_ir.nd rfl (by first | exact Or.inl rfl | exact Or.inr rfl)) (pgs_cons (pg_name (i := 3) sc_is_ir.nd rfl (by first | exact Or.inl rfl | exact Or.inr rfl)) pgs_nil))))))
    (ss_cons (c_if (ps_if (PW.pt (t_or (t_not (t_truth (s_blt (pe_callB call_isi (by rfl) B.isinstance (by decide +kernel) (a_cons (s_var (pv 1)) (a_cons (s_ty (by rfl) B.tuple (by decide +kernel)) a_nil))) on_isi))) (t_or (t_not (t_truth (s_blt (pe_callB call_isi (by rfl) B.isinstance (by decide +kernel) (a_cons (s_var (pv 3)) (a_cons (s_ty (by rfl) B.tuple (by decide +kernel)) a_nil))) on_isi))) (t_or1 (t_cmp (op_eqA hr.units) o2_eq (s_var (pv 3)) (s_tup a_nil) (nomark _)))))) (ss_one (c_ret (ps_ret s_bl))) ss_nil))
    (ss_cons (c_if (ps_if (PW.pt (t_or (t_not (t_truth (s_blt (pe_callB (cr_all rfl) (by rfl) B.all (by decide +kernel) (a_cons (s_lc0 (pe_lc (own := [("one", 4)]) (g := gT _ (.n 4)) (by rfl) sc_is_ir.nd (i_seq (s_var (pv 1))) (blkOk_by (own := [("one", 4)]) (N := ["thing", "arrays", "params", "blocks", "one", "block"]) (sc := defScope s_is_ir) (by decide +kernel)) (fun _ _ _ _ _ => (pg_name (i := 4) sc_is_ir.nd rfl (by first | exact Or.inl rfl | exact Or.inr rfl))) (fun _ _ _ _ _ => pts_nil) (fun _ _ _ _ _ => (s_own h_is_array (by decide) hr rfl (by rfl) (a_cons (s_var (pv 4)) a_nil)))) (by decide)) a_nil)) on_all))) (t_or1 (t_not (t_truth (s_own h_is_number (by decide) hr rfl (by rfl) (a_cons (s_var (pv 2)) (a_cons (s_op op_addA o2_add (s_gv B.gv_MOST (by rfl)) s_int) a_nil)))))))) (ss_one (c_ret (ps_ret s_bl))) ss_nil))
    (ss_one (c_ret (ps_ret (s_blt (pe_callB (cr_all rfl) (by rfl) B.all (by decide +kernel) (a_cons (s_lc0 (pe_lc (own := [("block", 5)]) (g := gT _ (.n 5)) (by rfl) sc_is_ir.nd (i_seq (s_var (pv 3))) (blkOk_by (own := [("block", 5)]) (N := ["thing", "arrays", "params", "blocks", "one", "block"]) (sc := defScope s_is_ir) (by decide +kernel)) (fun _ _ _ _ _ => (pg_name (i := 5) sc_is_ir.nd rfl (by first | exact Or.inl rfl | exact Or.inr rfl))) (fun _ _ _ _ _ => pts_nil) (fun _ _ _ _ _ => (s_own h_is_block (by decide) hr rfl (by rfl) (a_cons (s_var (pv 5)) (a_cons (s_blt (pe_callB call_lenA (by rfl) B.len (by decide +kernel) (a_cons (s_var (pv 1)) a_nil)) on_len) (a_cons (s_blt (pe_callB call_lenA (by rfl) B.len (by decide +kernel) (a_cons (s_var (pv 3)) a_nil)) on_len) a_nil)))))) (by decide)) a_nil)) on_all))))))))
abbrev s_law_draws : Stmt := topS 20
theorem sc_law_draws : FnScope ["script", "many", "draws", "mixed", "k", "cell", "rest", "turn"] ["script", "many"] (defScope s_law_draws) := ⟨rfl, rfl, rfl, by decide +kernel, rfl, by decide +kernel, by decide +kernel⟩
noncomputable def g_law_draws_b1 : ST :=
  (sIf (tB1 (e2 gtD (vr 6) (cn (.int 0)))) (sSeq (sEx (eM "list" appM (vr 2) (aC (e2 modD (eB intB (aC (vr 6) aN)) (cn (.int 997))) aN)))
    (sSet 6 (e2 divD (vr 6) (cn (.int 997))))) sSkip)
noncomputable def g_law_draws_b2 : ST :=
  (sSeq (sSet 5 (eB absB (aC (eB intB (aC (e2 ixD (vr 0) (vr 4)) aN)) aN)))
    (sSeq (sSet 3 (e2 modD (eB intB (aC (e2 addD (e2 addD (e2 mulD (vr 3) (cn (.int 48271))) (e2 modD (vr 5) (cn (.int 1000003)))) (vr 4)) aN)) (cn (.int 65537))))
    (sSeq (sSet 6 (cn (.int 0)))
    (sSeq (sIf (tB1 (e2 geD (vr 5) (e2 powD (cn (.int 10)) (cn (.int 18))))) (sSet 6 (vr 5)) (sSeq (sEx (eM "list" appM (vr 2) (aC (e2 modD (eB intB (aC (vr 5) aN)) (cn (.int 997))) aN)))
    (sEx (eM "list" appM (vr 2) (aC (e2 modD (e2 modD (eB intB (aC (e2 addD (e2 mulD (vr 3) (cn (.int 69621))) (cn (.int 5))) aN)) (cn (.int 65521))) (cn (.int 997))) aN)))))
    (sFor (.n 7) (iRg1 (cn (.int 60))) g_law_draws_b1)))))
noncomputable def g_law_draws_b3 : ST :=
  (sSeq (sSet 3 (e2 modD (eB intB (aC (e2 addD (e2 addD (e2 mulD (vr 3) (cn (.int 16807))) (vr 4)) (cn (.int 1))) aN)) (cn (.int 65537))))
    (sEx (eM "list" appM (vr 2) (aC (e2 modD (eB intB (aC (vr 3) aN)) (cn (.int 997))) aN))))
noncomputable def g_law_draws : ST :=
  (sSeq (sSet 2 (eLst aN))
    (sSeq (sSet 3 (cn (.int 7)))
    (sSeq (sFor (.n 4) (iRg1 (eB lenB (aC (vr 0) aN))) g_law_draws_b2)
    (sSeq (sFor (.n 4) (iRg1 (vr 1)) g_law_draws_b3)
    (sRet (eSl (vr 2) oN (oS (vr 1))))))))
noncomputable def F_law_draws : FN := fnB 8 2 g_law_draws
theorem ok_law_draws (B : Blt K w mg) {f : Addr} {fd : FuncData} (h : DefAt K mg "_law_draws" s_law_draws ["script", "many"] f fd)  : Keeps P w K mg base 1 "_law_draws" ["script", "many"] F_law_draws f fd :=
  keeps_of h sc_law_draws fun cdv A outer s H E hr =>
    (ss_cons (c_set (ps_set (i := 2) sc_law_draws.nd rfl (by first | exact Or.inl rfl | exact Or.inr rfl) (s_lst a_nil)))
    (ss_cons (c_set (ps_set (i := 3) sc_law_draws.nd rfl (by first | exact Or.inl rfl | exact Or.inr rfl) s_int))
    (ss_cons (c_for (t := (.n 4)) (ps_for PassesOwn.never rfl (i_rg1 (pi_range1 (by rfl) B.range (a_cons (s_blt (pe_callB call_lenA (by rfl) B.len (by decide +kernel) (a_cons (s_var (pv 0)) a_nil)) on_len) a_nil))) (pg_name (i := 4) sc_law_draws.nd rfl (by first | exact Or.inl rfl | exact Or.inr rfl)) (ss_cons (c_set (ps_set (i := 5) sc_law_draws.nd rfl (by first | exact Or.inl rfl | exact Or.inr rfl) (s_blt (pe_callB call_abs (by rfl) B.abs (by decide +kernel) (a_cons (s_blt (pe_callTy call_int1 (by rfl) B.int (by decide +kernel) (a_cons (s_ix ix_seq o2_ix (s_var (pv 0)) (s_var (pv 4)) (fun _ _ => rfl)) a_nil)) on_int) a_nil)) on_abs)))
    (ss_cons (c_set (ps_set (i := 3) sc_law_draws.nd rfl (by first | exact Or.inl rfl | exact Or.inr rfl) (s_op op_mod o2_mod (s_blt (pe_callTy call_int1 (by rfl) B.int (by decide +kernel) (a_cons (s_op op_addA o2_add (s_op op_addA o2_add (s_op op_mulA o2_mul (s_var (pv 3)) s_int) (s_op op_mod o2_mod (s_var (pv 5)) s_int)) (s_var (pv 4))) a_nil)) on_int) s_int)))
    (ss_cons (c_set (ps_set (i := 6) sc_law_draws.nd rfl (by first | exact Or.inl rfl | exact Or.inr rfl) s_int))
    (ss_cons (c_if (ps_if (t_cmp op_ge o2_ge (s_var (pv 5)) (s_op op_pow o2_pow s_int s_int) (nomark _)) (ss_one (c_set (ps_set (i := 6) sc_law_draws.nd rfl (by first | exact Or.inl rfl | exact Or.inr rfl) (s_var (pv 5))))) (ss_cons (c_ex (ps_expr (s_meth (pe_bm PySem.F.plainAttrs_list PySem.F.slot_list_append PySem.F.type_list_append mt_append (s_var (pv 2)) (a_cons (s_op op_mod o2_mod (s_blt (pe_callTy call_int1 (by rfl) B.int (by decide +kernel) (a_cons (s_var (pv 5)) a_nil)) on_int) s_int) a_nil)) om_app)))
    (ss_one (c_ex (ps_expr (s_meth (pe_bm PySem.F.plainAttrs_list PySem.F.slot_list_append PySem.F.type_list_append mt_append (s_var (pv 2)) (a_cons (s_op op_mod o2_mod (s_op op_mod o2_mod (s_blt (pe_callTy call_int1 (by rfl) B.int (by decide +kernel) (a_cons (s_op op_addA o2_add (s_op op_mulA o2_mul (s_var (pv 3)) s_int) s_int) a_nil)) on_int) s_int) s_int) a_nil)) om_app)))))))
    (ss_one (c_for (t := (.n 7)) (ps_for PassesOwn.never rfl (i_rg1 (pi_range1 (by rfl) B.range (a_cons s_int a_nil))) (pg_name (i := 7) sc_law_draws.nd rfl (by first | exact Or.inl rfl | exact Or.inr rfl)) (ss_one (c_if (ps_if (t_cmp op_gt o2_gt (s_var (pv 6)) s_int (nomark _)) (ss_cons (c_ex (ps_expr (s_meth (pe_bm PySem.F.plainAttrs_list PySem.F.slot_list_append PySem.F.type_list_append mt_append (s_var (pv 2)) (a_cons (s_op op_mod o2_mod (s_blt (pe_callTy call_int1 (by rfl) B.int (by decide +kernel) (a_cons (s_var (pv 6)) a_nil)) on_int) s_int) a_nil)) om_app)))
    (ss_one (c_set (ps_set (i := 6) sc_law_draws.nd rfl (by first | exact Or.inl rfl | exact Or.inr rfl) (s_op op_fdiv o2_div (s_var (pv 6)) s_int))))) ss_nil))))))))))))
    (ss_cons (c_for (t := (.n 4)) (ps_for PassesOwn.never rfl (i_rg1 (pi_range1 (by rfl) B.range (a_cons (s_var (pv 1)) a_nil))) (pg_name (i := 4) sc_law_draws.nd rfl (by first | exact Or.inl rfl | exact Or.inr rfl)) (ss_cons (c_set (ps_set (i := 3) sc_law_draws.nd rfl (by first | exact Or.inl rfl | exact Or.inr rfl) (s_op op_mod o2_mod (s_blt (pe_callTy call_int1 (by rfl) B.int (by decide +kernel) (a_cons (s_op op_addA o2_add (s_op op_addA o2_add (s_op op_mulA o2_mul (s_var (pv 3)) s_int) (s_var (pv 4))) s_int) a_nil)) on_int) s_int)))
    (ss_one (c_ex (ps_expr (s_meth (pe_bm PySem.F.plainAttrs_list PySem.F.slot_list_append PySem.F.type_list_append mt_append (s_var (pv 2)) (a_cons (s_op op_mod o2_mod (s_blt (pe_callTy call_int1 (by rfl) B.int (by decide +kernel) (a_cons (s_var (pv 3)) a_nil)) on_int) s_int) a_nil)) om_app)))))))
    (ss_one (c_ret (ps_ret (s_slice (s_var (pv 2)) o_none (o_some (s_var (pv 1)))))))))))
abbrev s_law_next : Stmt := topS 21
theorem sc_law_next : FnScope ["w", "many"] ["w", "many"] (defScope s_law_next) := ⟨rfl, rfl, rfl, by decide +kernel, rfl, by decide +kernel, by decide +kernel⟩
noncomputable def g_law_next : ST :=
  (sSeq (sDAugD addI (vr 0) (cn (.str "at")) (cn (.int 1)))
    (sSeq (sIf (tB1 (e2 gtD (e2 dgetD (vr 0) (cn (.str "at"))) (eB lenB (aC (e2 dgetD (vr 0) (cn (.str "draws"))) aN)))) (sRet (cn (.int 0))) sSkip)
    (sRet (e2 modD (eB intB (aC (e2 ixD (e2 dgetD (vr 0) (cn (.str "draws"))) (e2 subD (e2 dgetD (vr 0) (cn (.str "at"))) (cn (.int 1)))) aN)) (vr 1)))))
noncomputable def F_law_next : FN := fnB 2 2 g_law_next
theorem ok_law_next (B : Blt K w mg) {f : Addr} {fd : FuncData} (h : DefAt K mg "_law_next" s_law_next ["w", "many"] f fd)  : Keeps P w K mg base 1 "_law_next" ["w", "many"] F_law_next f fd :=
  keeps_of h sc_law_next fun cdv A outer s H E hr =>
    (ss_cons (c_daug (ps_daug (hu_of hr) (s_var (pv 0)) s_str s_int in_add (fun _ _ _ => rfl)) o2_addI)
    (ss_cons (c_if (ps_if (t_cmp op_gt o2_gt (c_2 (pe_dget (hu_of hr) (s_var (pv 0)) s_str (fun _ _ => rfl)) o2_dget) (s_blt (pe_callB call_lenA (by rfl) B.len (by decide +kernel) (a_cons (c_2 (pe_dget (hu_of hr) (s_var (pv 0)) s_str (fun _ _ => rfl)) o2_dget) a_nil)) on_len) (nomark _)) (ss_one (c_ret (ps_ret s_int))) ss_nil))
    (ss_one (c_ret (ps_ret (s_op op_mod o2_mod (s_blt (pe_callTy call_int1 (by rfl) B.int (by decide +kernel) (a_cons (s_ix ix_seq o2_ix (c_2 (pe_dget (hu_of hr) (s_var (pv 0)) s_str (fun _ _ => rfl)) o2_dget) (s_op op_sub o2_sub (c_2 (pe_dget (hu_of hr) (s_var (pv 0)) s_str (fun _ _ => rfl)) o2_dget) s_int) (fun _ _ => rfl)) a_nil)) on_int) (s_var (pv 1))))))))
abbrev s_law_row : Stmt := topS 22
theorem sc_law_row : FnScope ["w", "arrays", "blocks", "last", "d", "a", "b", "turn", "sign"] ["w", "arrays", "blocks", "last"] (defScope s_law_row) := ⟨rfl, rfl, rfl, by decide +kernel, rfl, by decide +kernel, by decide +kernel⟩
noncomputable def g_law_row : ST :=
  (sSeq (sSet 4 (eCall 2 F_law_next (aC (vr 0) (aC (cn (.int 9)) aN))))
    (sSeq (sSet 5 (eCall 2 F_law_next (aC (vr 0) (aC (cn (.int 9)) aN))))
    (sSeq (sSet 6 (eCall 2 F_law_next (aC (vr 0) (aC (cn (.int 9)) aN))))
    (sSeq (sIf (tTl (vr 3)) (sRet (e2 ixD (eLst (aC (eTup (aC (cn (.str "jump")) (aC (eCall 2 F_law_next (aC (vr 0) (aC (vr 2) aN))) aN))) (aC (eTup (aC (cn (.str "branch")) (aC (vr 5) (aC (eCall 2 F_law_next (aC (vr 0) (aC (vr 2) aN))) (aC (eCall 2 F_law_next (aC (vr 0) (aC (vr 2) aN))) aN))))) (aC (eTup (aC (cn (.str "stop")) (aC (vr 5) aN))) aN)))) (eCall 2 F_law_next (aC (vr 0) (aC (cn (.int 3)) aN))))) sSkip)
    (sSeq (sSet 7 (eCall 2 F_law_next (aC (vr 0) (aC (cn (.int 11)) aN))))
    (sSeq (sIf (tB1 (e2 ltD (vr 7) (cn (.int 2)))) (sRet (eTup (aC (cn (.str "const")) (aC (vr 4) (aC (e2 ixD (eLst (aC (eCall 2 F_law_next (aC (vr 0) (aC (cn (.int 7)) aN))) (aC (e2 subD (cn (.int 4294967295)) (eCall 2 F_law_next (aC (vr 0) (aC (cn (.int 9)) aN)))) (aC (e2 mulD (eCall 2 F_law_next (aC (vr 0) (aC (cn (.int 900)) aN))) (cn (.int 4771117))) (aC (e2 addD (cn (.int 31)) (eCall 2 F_law_next (aC (vr 0) (aC (cn (.int 4)) aN)))) aN))))) (eCall 2 F_law_next (aC (vr 0) (aC (cn (.int 4)) aN)))) aN))))) sSkip)
    (sSeq (sIf (tB1 (e2 eqD (vr 7) (cn (.int 2)))) (sRet (eTup (aC (cn (.str "copy")) (aC (vr 4) (aC (vr 5) aN))))) sSkip)
    (sSeq (sIf (tB1 (e2 ltD (vr 7) (cn (.int 6)))) (sSeq (sSet 8 (e2 ixD (eLst (aC (cn (.str "+")) (aC (cn (.str "-")) (aC (cn (.str "*")) (aC (cn (.str "&")) (aC (cn (.str "|")) (aC (cn (.str "^")) (aC (cn (.str "<<")) (aC (cn (.str ">>")) (aC (cn (.str "==")) (aC (cn (.str "<")) (aC (cn (.str "<=")) (aC (cn (.str "div")) (aC (cn (.str "mod")) aN)))))))))))))) (eCall 2 F_law_next (aC (vr 0) (aC (cn (.int 13)) aN)))))
    (sRet (eTup (aC (cn (.str "op")) (aC (vr 8) (aC (vr 4) (aC (vr 5) (aC (vr 6) aN)))))))) sSkip)
    (sSeq (sIf (tB1 (e2 eqD (vr 7) (cn (.int 6)))) (sRet (eTup (aC (cn (.str "select")) (aC (vr 4) (aC (eCall 2 F_law_next (aC (vr 0) (aC (cn (.int 9)) aN))) (aC (vr 5) (aC (vr 6) aN))))))) sSkip)
    (sSeq (sIf (tAn (tB1 (e2 ltD (vr 7) (cn (.int 9)))) (tB1 (e2 gtD (vr 1) (cn (.int 0))))) (sRet (e2 ixD (eLst (aC (eTup (aC (cn (.str "load")) (aC (vr 4) (aC (eCall 2 F_law_next (aC (vr 0) (aC (vr 1) aN))) (aC (vr 5) aN))))) (aC (eTup (aC (cn (.str "store")) (aC (eCall 2 F_law_next (aC (vr 0) (aC (vr 1) aN))) (aC (vr 5) (aC (vr 6) aN))))) aN))) (e2 subD (vr 7) (cn (.int 7))))) sSkip)
    (sRet (eTup (aC (cn (.str "out")) (aC (vr 5) aN))))))))))))))
noncomputable def F_law_row : FN := fnB 9 4 g_law_row
theorem ok_law_row (B : Blt K w mg) {f : Addr} {fd : FuncData} (h : DefAt K mg "_law_row" s_law_row ["w", "arrays", "blocks", "last"] f fd) {f0 : Addr} {fd0 : FuncData} (h_law_next : Keeps P w K mg base 1 "_law_next" ["w", "many"] F_law_next f0 fd0) : Keeps P w K mg base 2 "_law_row" ["w", "arrays", "blocks", "last"] F_law_row f fd :=
  keeps_of h sc_law_row fun cdv A outer s H E hr =>
    (ss_cons (c_set (ps_set (i := 4) sc_law_row.nd rfl (by first | exact Or.inl rfl | exact Or.inr rfl) (s_own h_law_next (by decide) hr rfl (by rfl) (a_cons (s_var (pv 0)) (a_cons s_int a_nil)))))
    (ss_cons (c_set (ps_set (i := 5) sc_law_row.nd rfl (by first | exact Or.inl rfl | exact Or.inr rfl) (s_own h_law_next (by decide) hr rfl (by rfl) (a_cons (s_var (pv 0)) (a_cons s_int a_nil)))))
    (ss_cons (c_set (ps_set (i := 6) sc_law_row.nd rfl (by first | exact Or.inl rfl | exact Or.inr rfl) (s_own h_law_next (by decide) hr rfl (by rfl) (a_cons (s_var (pv 0)) (a_cons s_int a_nil)))))
    (ss_cons (c_if (ps_if (t_truth (s_var (pv 3))) (ss_one (c_ret (ps_ret (s_ix ix_seq o2_ix (s_lst (a_cons (s_tup (a_cons s_str (a_cons (s_own h_law_next (by decide) hr rfl (by rfl) (a_cons (s_var (pv 0)) (a_cons (s_var (pv 2)) a_nil))) a_nil))) (a_cons (s_tup (a_cons s_str (a_cons (s_var (pv 5)) (a_cons (s_own h_law_next (by decide) hr rfl (by rfl) (a_cons (s_var (pv 0)) (a_cons (s_var (pv 2)) a_nil))) (a_cons (s_own h_law_next (by decide) hr rfl (by rfl) (a_cons (s_var (pv 0)) (a_cons (s_var (pv 2)) a_nil))) a_nil))))) (a_cons (s_tup (a_cons s_str (a_cons (s_var (pv 5)) a_nil))) a_nil)))) (s_own h_law_next (by decide) hr rfl (by rfl) (a_cons (s_var (pv 0)) (a_cons s_int a_nil))) (fun _ _ => rfl))))) ss_nil))
    (ss_cons (c_set (ps_set (i := 7) sc_law_row.nd rfl (by first | exact Or.inl rfl | exact Or.inr rfl) (s_own h_law_next (by decide) hr rfl (by rfl) (a_cons (s_var (pv 0)) (a_cons s_int a_nil)))))
    (ss_cons (c_if (ps_if (t_cmp op_lt o2_lt (s_var (pv 7)) s_int (nomark _)) (ss_one (c_ret (ps_ret (s_tup (a_cons s_str (a_cons (s_var (pv 4)) (a_cons (s_ix ix_seq o2_ix (s_lst (a_cons (s_own h_law_next (by decide) hr rfl (by rfl) (a_cons (s_var (pv 0)) (a_cons s_int a_nil))) (a_cons (s_op op_sub o2_sub s_int (s_own h_law_next (by decide) hr rfl (by rfl) (a_cons (s_var (pv 0)) (a_cons s_int a_nil)))) (a_cons (s_op op_mulA o2_mul (s_own h_law_next (by decide) hr rfl (by rfl) (a_cons (s_var (pv 0)) (a_cons s_int a_nil))) s_int) (a_cons (s_op op_addA o2_add s_int (s_own h_law_next (by decide) hr rfl (by rfl) (a_cons (s_var (pv 0)) (a_cons s_int a_nil)))) a_nil))))) (s_own h_law_next (by decide) hr rfl (by rfl) (a_cons (s_var (pv 0)) (a_cons s_int a_nil))) (fun _ _ => rfl)) a_nil))))))) ss_nil))
    (ss_cons (c_if (ps_if (t_cmp (op_eqA hr.units) o2_eq (s_var (pv 7)) s_int (nomark _)) (ss_one (c_ret (ps_ret (s_tup (a_cons s_str (a_cons (s_var (pv 4)) (a_cons (s_var (pv 5)) a_nil))))))) ss_nil))
    (ss_cons (c_if (ps_if (t_cmp op_lt o2_lt (s_var (pv 7)) s_int (nomark _)) (ss_cons (c_set (ps_set (i := 8) sc_law_row.nd rfl (by first | exact Or.inl rfl | exact Or.inr rfl) (s_ix ix_seq o2_ix (s_lst (a_cons s_str (a_cons s_str (a_cons s_str (a_cons s_str (a_cons s_str (a_cons s_str (a_cons s_str (a_cons s_str (a_cons s_str (a_cons s_str (a_cons s_str (a_cons s_str (a_cons s_str a_nil)))))))))))))) (s_own h_law_next (by decide) hr rfl (by rfl) (a_cons (s_var (pv 0)) (a_cons s_int a_nil))) (fun _ _ => rfl))))
    (ss_one (c_ret (ps_ret (s_tup (a_cons s_str (a_cons (s_var (pv 8)) (a_cons (s_var (pv 4)) (a_cons (s_var (pv 5)) (a_cons (s_var (pv 6)) a_nil)))))))))) ss_nil))
    (ss_cons (c_if (ps_if (t_cmp (op_eqA hr.units) o2_eq (s_var (pv 7)) s_int (nomark _)) (ss_one (c_ret (ps_ret (s_tup (a_cons s_str (a_cons (s_var (pv 4)) (a_cons (s_own h_law_next (by decide) hr rfl (by rfl) (a_cons (s_var (pv 0)) (a_cons s_int a_nil))) (a_cons (s_var (pv 5)) (a_cons (s_var (pv 6)) a_nil))))))))) ss_nil))
    (ss_cons (c_if (ps_if (PW.pt (t_and (t_cmp op_lt o2_lt (s_var (pv 7)) s_int (nomark _)) (t_and1 (t_cmp op_gt o2_gt (s_var (pv 1)) s_int (nomark _))))) (ss_one (c_ret (ps_ret (s_ix ix_seq o2_ix (s_lst (a_cons (s_tup (a_cons s_str (a_cons (s_var (pv 4)) (a_cons (s_own h_law_next (by decide) hr rfl (by rfl) (a_cons (s_var (pv 0)) (a_cons (s_var (pv 1)) a_nil))) (a_cons (s_var (pv 5)) a_nil))))) (a_cons (s_tup (a_cons s_str (a_cons (s_own h_law_next (by decide) hr rfl (by rfl) (a_cons (s_var (pv 0)) (a_cons (s_var (pv 1)) a_nil))) (a_cons (s_var (pv 5)) (a_cons (s_var (pv 6)) a_nil))))) a_nil))) (s_op op_sub o2_sub (s_var (pv 7)) s_int) (fun _ _ => rfl))))) ss_nil))
    (ss_one (c_ret (ps_ret (s_tup (a_cons s_str (a_cons (s_var (pv 5)) a_nil))))))))))))))))
abbrev s_law_program : Stmt := topS 23
theorem sc_law_program : FnScope ["w", "arrays", "k", "many", "blocks", "rows", "j"] ["w"] (defScope s_law_program) := ⟨rfl, rfl, rfl, by decide +kernel, rfl, by decide +kernel, by decide +kernel⟩
noncomputable def g_law_program_b1 : ST :=
  (sSeq (sSet 5 (eLc (iRg1 (eCall 2 F_law_next (aC (vr 0) (aC (cn (.int 8)) aN)))) (.n 6) [6] yes (eCall 4 F_law_row (aC (vr 0) (aC (eB lenB (aC (vr 1) aN)) (aC (vr 3) (aC (cn (.bl false)) aN)))))))
    (sEx (eM "list" appM (vr 4) (aC (eB tupB (aC (e2 addD (vr 5) (eLst (aC (eCall 4 F_law_row (aC (vr 0) (aC (eB lenB (aC (vr 1) aN)) (aC (vr 3) (aC (cn (.bl true)) aN))))) aN))) aN)) aN))))
noncomputable def g_law_program : ST :=
  (sSeq (sSet 1 (eB tupB (aC (eLc (iRg1 (eCall 2 F_law_next (aC (vr 0) (aC (cn (.int 4)) aN)))) (.n 2) [2] yes (eTup (aC (e2 addD (cn (.str "a")) (eB strB (aC (vr 2) aN))) (aC (e2 addD (cn (.int 1)) (eCall 2 F_law_next (aC (vr 0) (aC (cn (.int 11)) aN)))) (aC (e2 ixD (eLst (aC (cn (.str "public")) (aC (cn (.str "secret")) aN))) (eCall 2 F_law_next (aC (vr 0) (aC (cn (.int 2)) aN)))) aN))))) aN)))
    (sSeq (sSet 3 (e2 addD (cn (.int 1)) (eCall 2 F_law_next (aC (vr 0) (aC (cn (.int 5)) aN)))))
    (sSeq (sSet 4 (eLst aN))
    (sSeq (sFor (.n 2) (iRg1 (vr 3)) g_law_program_b1)
    (sRet (eTup (aC (vr 1) (aC (eCall 2 F_law_next (aC (vr 0) (aC (cn (.int 5)) aN))) (aC (eB tupB (aC (vr 4) aN)) aN)))))))))
noncomputable def F_law_program : FN := fnB 7 1 g_law_program
theorem ok_law_program (B : Blt K w mg) {f : Addr} {fd : FuncData} (h : DefAt K mg "_law_program" s_law_program ["w"] f fd) {f0 : Addr} {fd0 : FuncData} (h_law_next : Keeps P w K mg base 1 "_law_next" ["w", "many"] F_law_next f0 fd0) {f1 : Addr} {fd1 : FuncData} (h_law_row : Keeps P w K mg base 2 "_law_row" ["w", "arrays", "blocks", "last"] F_law_row f1 fd1) : Keeps P w K mg base 3 "_law_program" ["w"] F_law_program f fd :=
  keeps_of h sc_law_program fun cdv A outer s H E hr =>
    (ss_cons (c_set (ps_set (i := 1) sc_law_program.nd rfl (by first | exact Or.inl rfl | exact Or.inr rfl) (s_blt (pe_callTy call_tuple_of (by rfl) B.tuple (by decide +kernel) (a_cons (s_lc0 (pe_lc (own := [("k", 2)]) (g := gT _ (.n 2)) (by rfl) sc_law_program.nd (i_rg1 (pi_range1 (by rfl) B.range (a_cons (s_own h_law_next (by decide) hr rfl (by rfl) (a_cons (s_var (pv 0)) (a_cons s_int a_nil))) a_nil))) (blkOk_by (own := [("k", 2)]) (N := ["w", "arrays", "k", "many", "blocks", "rows", "j"]) (sc := defScope s_law_program) (by decide +kernel)) (fun _ _ _ _ _ => (pg_name (i := 2) sc_law_program.nd rfl (by first | exact Or.inl rfl | exact Or.inr rfl))) (fun _ _ _ _ _ => pts_nil) (fun _ _ _ _ _ => (s_tup (a_cons (s_op op_addA o2_add s_str (s_blt (pe_callTy call_str_int (by rfl) B.str (by decide +kernel) (a_cons (s_var (pv 2)) a_nil)) on_str)) (a_cons (s_op op_addA o2_add s_int (s_own h_law_next (by decide) hr rfl (by rfl) (a_cons (s_var (pv 0)) (a_cons s_int a_nil)))) (a_cons (s_ix ix_seq o2_ix (s_lst (a_cons s_str (a_cons s_str a_nil))) (s_own h_law_next (by decide) hr rfl (by rfl) (a_cons (s_var (pv 0)) (a_cons s_int a_nil))) (fun _ _ => rfl)) a_nil)))))) (by decide)) a_nil)) on_tup)))
    (ss_cons (c_set (ps_set (i := 3) sc_law_program.nd rfl (by first | exact Or.inl rfl | exact Or.inr rfl) (s_op op_addA o2_add s_int (s_own h_law_next (by decide) hr rfl (by rfl) (a_cons (s_var (pv 0)) (a_cons s_int a_nil))))))
    (ss_cons (c_set (ps_set (i := 4) sc_law_program.nd rfl (by first | exact Or.inl rfl | exact Or.inr rfl) (s_lst a_nil)))
    (ss_cons (c_for (t := (.n 2)) (ps_for PassesOwn.never rfl (i_rg1 (pi_range1 (by rfl) B.range (a_cons (s_var (pv 3)) a_nil))) (pg_name (i := 2) sc_law_program.nd rfl (by first | exact Or.inl rfl | exact Or.inr rfl)) (ss_cons (c_setLc0 (ps_setLc (i := 5) (own := [("j", 6)]) (g := gT _ (.n 6)) (by rfl) sc_law_program.nd rfl rfl (sw_true rfl rfl rfl (by decide +kernel)) (i_rg1 (pi_range1 (by rfl) B.range (a_cons (s_own h_law_next (by decide) hr rfl (by rfl) (a_cons (s_var (pv 0)) (a_cons s_int a_nil))) a_nil))) (blkOk_by (own := [("j", 6)]) (N := ["w", "arrays", "k", "many", "blocks", "rows", "j"]) (sc := defScope s_law_program) (by decide +kernel)) (fun _ _ _ _ _ => (pg_name (i := 6) sc_law_program.nd rfl (by first | exact Or.inl rfl | exact Or.inr rfl))) (fun _ _ _ _ _ => pts_nil) (fun _ _ _ _ _ => (s_own h_law_row (by decide) hr rfl (by rfl) (a_cons (s_var (pv 0)) (a_cons (s_blt (pe_callB call_lenA (by rfl) B.len (by decide +kernel) (a_cons (s_var (pv 1)) a_nil)) on_len) (a_cons (s_var (pv 3)) (a_cons s_bl a_nil))))))) (by decide))
    (ss_one (c_ex (ps_expr (s_meth (pe_bm PySem.F.plainAttrs_list PySem.F.slot_list_append PySem.F.type_list_append mt_append (s_var (pv 4)) (a_cons (s_blt (pe_callTy call_tuple_of (by rfl) B.tuple (by decide +kernel) (a_cons (s_op op_addA o2_add (s_var (pv 5)) (s_lst (a_cons (s_own h_law_row (by decide) hr rfl (by rfl) (a_cons (s_var (pv 0)) (a_cons (s_blt (pe_callB call_lenA (by rfl) B.len (by decide +kernel) (a_cons (s_var (pv 1)) a_nil)) on_len) (a_cons (s_var (pv 3)) (a_cons s_bl a_nil))))) a_nil))) a_nil)) on_tup) a_nil)) om_app)))))))
    (ss_one (c_ret (ps_ret (s_tup (a_cons (s_var (pv 1)) (a_cons (s_own h_law_next (by decide) hr rfl (by rfl) (a_cons (s_var (pv 0)) (a_cons s_int a_nil))) (a_cons (s_blt (pe_callTy call_tuple_of (by rfl) B.tuple (by decide +kernel) (a_cons (s_var (pv 4)) a_nil)) on_tup) a_nil)))))))))))
abbrev s_law_word : Stmt := topS 24
theorem sc_law_word : FnScope ["w"] ["w"] (defScope s_law_word) := ⟨rfl, rfl, rfl, by decide +kernel, rfl, by decide +kernel, by decide +kernel⟩
noncomputable def g_law_word : ST :=
  (sRet (e2 ixD (eLst (aC (eCall 2 F_law_next (aC (vr 0) (aC (cn (.int 8)) aN))) (aC (eCall 2 F_law_next (aC (vr 0) (aC (cn (.int 500)) aN))) (aC (e2 subD (cn (.int 4294967295)) (eCall 2 F_law_next (aC (vr 0) (aC (cn (.int 9)) aN)))) (aC (e2 mulD (eCall 2 F_law_next (aC (vr 0) (aC (cn (.int 900)) aN))) (cn (.int 4771117))) aN))))) (eCall 2 F_law_next (aC (vr 0) (aC (cn (.int 4)) aN)))))
noncomputable def F_law_word : FN := fnB 1 1 g_law_word
theorem ok_law_word (B : Blt K w mg) {f : Addr} {fd : FuncData} (h : DefAt K mg "_law_word" s_law_word ["w"] f fd) {f0 : Addr} {fd0 : FuncData} (h_law_next : Keeps P w K mg base 1 "_law_next" ["w", "many"] F_law_next f0 fd0) : Keeps P w K mg base 2 "_law_word" ["w"] F_law_word f fd :=
  keeps_of h sc_law_word fun cdv A outer s H E hr =>
    (ss_one (c_ret (ps_ret (s_ix ix_seq o2_ix (s_lst (a_cons (s_own h_law_next (by decide) hr rfl (by rfl) (a_cons (s_var (pv 0)) (a_cons s_int a_nil))) (a_cons (s_own h_law_next (by decide) hr rfl (by rfl) (a_cons (s_var (pv 0)) (a_cons s_int a_nil))) (a_cons (s_op op_sub o2_sub s_int (s_own h_law_next (by decide) hr rfl (by rfl) (a_cons (s_var (pv 0)) (a_cons s_int a_nil)))) (a_cons (s_op op_mulA o2_mul (s_own h_law_next (by decide) hr rfl (by rfl) (a_cons (s_var (pv 0)) (a_cons s_int a_nil))) s_int) a_nil))))) (s_own h_law_next (by decide) hr rfl (by rfl) (a_cons (s_var (pv 0)) (a_cons s_int a_nil))) (fun _ _ => rfl)))))
abbrev s_law_bits : Stmt := topS 25
theorem sc_law_bits : FnScope ["sign", "a", "b", "word", "k", "one", "other"] ["sign", "a", "b"] (defScope s_law_bits) := ⟨rfl, rfl, rfl, by decide +kernel, rfl, by decide +kernel, by decide +kernel⟩
noncomputable def g_law_bits_b1 : ST :=
  (sSeq (sSet 5 (e2 modD (eB intB (aC (e2 divWD (vr 1) (e2 shlD (cn (.int 1)) (vr 4))) aN)) (cn (.int 2))))
    (sSeq (sSet 6 (e2 modD (eB intB (aC (e2 divWD (vr 2) (e2 shlD (cn (.int 1)) (vr 4))) aN)) (cn (.int 2))))
    (sIf (tO (tAn (tB1 (e2 eqD (vr 0) (cn (.str "&")))) (tB1 (e2 eqD (e2 addD (vr 5) (vr 6)) (cn (.int 2))))) (tO (tAn (tB1 (e2 eqD (vr 0) (cn (.str "|")))) (tB1 (e2 gtD (e2 addD (vr 5) (vr 6)) (cn (.int 0))))) (tAn (tB1 (e2 eqD (vr 0) (cn (.str "^")))) (tB1 (e2 neD (vr 5) (vr 6)))))) (sAug 3 addI (e2 shlD (cn (.int 1)) (vr 4))) sSkip)))
noncomputable def g_law_bits : ST :=
  (sSeq (sSet 3 (cn (.int 0)))
    (sSeq (sFor (.n 4) (iRg1 (cn (.int 32))) g_law_bits_b1)
    (sRet (vr 3))))
noncomputable def F_law_bits : FN := fnB 7 3 g_law_bits
theorem ok_law_bits (B : Blt K w mg) {f : Addr} {fd : FuncData} (h : DefAt K mg "_law_bits" s_law_bits ["sign", "a", "b"] f fd)  : Keeps P w K mg base 1 "_law_bits" ["sign", "a", "b"] F_law_bits f fd :=
  keeps_of h sc_law_bits fun cdv A outer s H E hr =>
    (ss_cons (c_set (ps_set (i := 3) sc_law_bits.nd rfl (by first | exact Or.inl rfl | exact Or.inr rfl) s_int))
    (ss_cons (c_for (t := (.n 4)) (ps_for PassesOwn.never rfl (i_rg1 (pi_range1 (by rfl) B.range (a_cons s_int a_nil))) (pg_name (i := 4) sc_law_bits.nd rfl (by first | exact Or.inl rfl | exact Or.inr rfl)) (ss_cons (c_set (ps_set (i := 5) sc_law_bits.nd rfl (by first | exact Or.inl rfl | exact Or.inr rfl) (s_op op_mod o2_mod (s_blt (pe_callTy call_int1 (by rfl) B.int (by decide +kernel) (a_cons (s_op op_fdivW o2_divW (s_var (pv 1)) (s_op op_shl o2_shl s_int (s_var (pv 4)))) a_nil)) on_int) s_int)))
    (ss_cons (c_set (ps_set (i := 6) sc_law_bits.nd rfl (by first | exact Or.inl rfl | exact Or.inr rfl) (s_op op_mod o2_mod (s_blt (pe_callTy call_int1 (by rfl) B.int (by decide +kernel) (a_cons (s_op op_fdivW o2_divW (s_var (pv 2)) (s_op op_shl o2_shl s_int (s_var (pv 4)))) a_nil)) on_int) s_int)))
    (ss_one (c_if (ps_if (PW.pt (t_or (PW.pt (t_and (t_cmp (op_eqA hr.units) o2_eq (s_var (pv 0)) s_str (nomark _)) (t_and1 (t_cmp (op_eqA hr.units) o2_eq (s_op op_addA o2_add (s_var (pv 5)) (s_var (pv 6))) s_int (nomark _))))) (t_or (PW.pt (t_and (t_cmp (op_eqA hr.units) o2_eq (s_var (pv 0)) s_str (nomark _)) (t_and1 (t_cmp op_gt o2_gt (s_op op_addA o2_add (s_var (pv 5)) (s_var (pv 6))) s_int (nomark _))))) (t_or1 (PW.pt (t_and (t_cmp (op_eqA hr.units) o2_eq (s_var (pv 0)) s_str (nomark _)) (t_and1 (t_cmp (op_neA hr.units) o2_ne (s_var (pv 5)) (s_var (pv 6)) (nomark _))))))))) (ss_one (c_aug (ps_aug (i := 3) sc_law_bits.nd rfl (by first | exact Or.inl rfl | exact Or.inr rfl) (s_op op_shl o2_shl s_int (s_var (pv 4))) (ip_of iop_add)) (o2_I0 fun _ _ _ _ => .int _))) ss_nil)))))))
    (ss_one (c_ret (ps_ret (s_var (pv 3)))))))
abbrev s_law_applied : Stmt := topS 26
theorem sc_law_applied : FnScope ["sign", "a", "b", "word", "k", "result", "quotient", "rest"] ["sign", "a", "b"] (defScope s_law_applied) := ⟨rfl, rfl, rfl, by decide +kernel, rfl, by decide +kernel, by decide +kernel⟩
noncomputable def g_law_applied_b1 : ST :=
  (sSet 3 (e2 modD (eB intB (aC (e2 mulD (vr 3) (cn (.int 2))) aN)) (cn (.int 4294967296))))
noncomputable def g_law_applied_b2 : ST :=
  (sSet 3 (e2 divD (vr 3) (cn (.int 2))))
noncomputable def g_law_applied_b3 : ST :=
  (sIf (tB1 (e2 leD (e2 mulD (vr 2) (e2 shlD (cn (.int 1)) (e2 subD (cn (.int 31)) (vr 4)))) (vr 7))) (sSeq (sSet 7 (e2 subD (vr 7) (e2 mulD (vr 2) (e2 shlD (cn (.int 1)) (e2 subD (cn (.int 31)) (vr 4))))))
    (sSet 6 (e2 addD (vr 6) (e2 shlD (cn (.int 1)) (e2 subD (cn (.int 31)) (vr 4)))))) sSkip)
noncomputable def g_law_applied : ST :=
  (sSeq (sIf (tB1 (e2 (inD false) (vr 0) (eLst (aC (cn (.str "&")) (aC (cn (.str "|")) (aC (cn (.str "^")) aN)))))) (sRet (eCall 3 F_law_bits (aC (vr 0) (aC (vr 1) (aC (vr 2) aN))))) sSkip)
    (sSeq (sIf (tB1 (e2 eqD (vr 0) (cn (.str "<<")))) (sSeq (sSet 3 (vr 1))
    (sSeq (sFor (.n 4) (iRg1 (e2 modD (eB intB (aC (vr 2) aN)) (cn (.int 32)))) g_law_applied_b1)
    (sRet (vr 3)))) sSkip)
    (sSeq (sIf (tB1 (e2 eqD (vr 0) (cn (.str ">>")))) (sSeq (sSet 3 (vr 1))
    (sSeq (sFor (.n 4) (iRg1 (e2 modD (eB intB (aC (vr 2) aN)) (cn (.int 32)))) g_law_applied_b2)
    (sRet (vr 3)))) sSkip)
    (sSeq (sIf (tB1 (e2 (inD false) (vr 0) (eLst (aC (cn (.str "==")) (aC (cn (.str "<")) (aC (cn (.str "<=")) aN)))))) (sRet (eB intB (aC (eO (eAn (e2 eqD (vr 0) (cn (.str "=="))) (e2 eqD (vr 1) (vr 2))) (eO (eAn (e2 eqD (vr 0) (cn (.str "<"))) (e2 ltD (vr 1) (vr 2))) (eAn (e2 eqD (vr 0) (cn (.str "<="))) (eNo (e2 ltD (vr 2) (vr 1)))))) aN))) sSkip)
    (sSeq (sIf (tB1 (e2 (inD false) (vr 0) (eLst (aC (cn (.str "+")) (aC (cn (.str "-")) (aC (cn (.str "*")) aN)))))) (sSeq (sSet 5 (e2 addD (vr 1) (vr 2)))
    (sSeq (sIf (tB1 (e2 eqD (vr 0) (cn (.str "-")))) (sSet 5 (e2 addD (e2 subD (vr 1) (vr 2)) (cn (.int 4294967296)))) (sIf (tB1 (e2 eqD (vr 0) (cn (.str "*")))) (sSet 5 (e2 mulD (vr 1) (vr 2))) sSkip))
    (sRet (e2 subD (vr 5) (e2 mulD (cn (.int 4294967296)) (e2 divWD (vr 5) (cn (.int 4294967296)))))))) sSkip)
    (sSeq (sIf (tB1 (e2 eqD (vr 2) (cn (.int 0)))) (sRet (e2 ixD (eLst (aC (cn (.int 0)) (aC (vr 1) aN))) (eB intB (aC (e2 eqD (vr 0) (cn (.str "mod"))) aN)))) sSkip)
    (sSeq (sSet 6 (cn (.int 0)))
    (sSeq (sSet 7 (vr 1))
    (sSeq (sFor (.n 4) (iRg1 (cn (.int 32))) g_law_applied_b3)
    (sRet (e2 ixD (eLst (aC (vr 6) (aC (vr 7) aN))) (eB intB (aC (e2 eqD (vr 0) (cn (.str "mod"))) aN)))))))))))))
noncomputable def F_law_applied : FN := fnB 8 3 g_law_applied
theorem ok_law_applied (B : Blt K w mg) {f : Addr} {fd : FuncData} (h : DefAt K mg "_law_applied" s_law_applied ["sign", "a", "b"] f fd) {f0 : Addr} {fd0 : FuncData} (h_law_bits : Keeps P w K mg base 1 "_law_bits" ["sign", "a", "b"] F_law_bits f0 fd0) : Keeps P w K mg base 2 "_law_applied" ["sign", "a", "b"] F_law_applied f fd :=
  keeps_of h sc_law_applied fun cdv A outer s H E hr =>
    (ss_cons (c_if (ps_if (t_cmp op_in_seq (o2_in (neg := false)) (s_var (pv 0)) (s_lst (a_cons s_str (a_cons s_str (a_cons s_str a_nil)))) (by rfl)) (ss_one (c_ret (ps_ret (s_own h_law_bits (by decide) hr rfl (by rfl) (a_cons (s_var (pv 0)) (a_cons (s_var (pv 1)) (a_cons (s_var (pv 2)) a_nil))))))) ss_nil))
    (ss_cons (c_if (ps_if (t_cmp (op_eqA hr.units) o2_eq (s_var (pv 0)) s_str (nomark _)) (ss_cons (c_set (ps_set (i := 3) sc_law_applied.nd rfl (by first | exact Or.inl rfl | exact Or.inr rfl) (s_var (pv 1))))
    (ss_cons (c_for (t := (.n 4)) (ps_for PassesOwn.never rfl (i_rg1 (pi_range1 (by rfl) B.range (a_cons (s_op op_mod o2_mod (s_blt (pe_callTy call_int1 (by rfl) B.int (by decide +kernel) (a_cons (s_var (pv 2)) a_nil)) on_int) s_int) a_nil))) (pg_name (i := 4) sc_law_applied.nd rfl (by first | exact Or.inl rfl | exact Or.inr rfl)) (ss_one (c_set (ps_set (i := 3) sc_law_applied.nd rfl (by first | exact Or.inl rfl | exact Or.inr rfl) (s_op op_mod o2_mod (s_blt (pe_callTy call_int1 (by rfl) B.int (by decide +kernel) (a_cons (s_op op_mulA o2_mul (s_var (pv 3)) s_int) a_nil)) on_int) s_int))))))
    (ss_one (c_ret (ps_ret (s_var (pv 3))))))) ss_nil))
    (ss_cons (c_if (ps_if (t_cmp (op_eqA hr.units) o2_eq (s_var (pv 0)) s_str (nomark _)) (ss_cons (c_set (ps_set (i := 3) sc_law_applied.nd rfl (by first | exact Or.inl rfl | exact Or.inr rfl) (s_var (pv 1))))
    (ss_cons (c_for (t := (.n 4)) (ps_for PassesOwn.never rfl (i_rg1 (pi_range1 (by rfl) B.range (a_cons (s_op op_mod o2_mod (s_blt (pe_callTy call_int1 (by rfl) B.int (by decide +kernel) (a_cons (s_var (pv 2)) a_nil)) on_int) s_int) a_nil))) (pg_name (i := 4) sc_law_applied.nd rfl (by first | exact Or.inl rfl | exact Or.inr rfl)) (ss_one (c_set (ps_set (i := 3) sc_law_applied.nd rfl (by first | exact Or.inl rfl | exact Or.inr rfl) (s_op op_fdiv o2_div (s_var (pv 3)) s_int))))))
    (ss_one (c_ret (ps_ret (s_var (pv 3))))))) ss_nil))
    (ss_cons (c_if (ps_if (t_cmp op_in_seq (o2_in (neg := false)) (s_var (pv 0)) (s_lst (a_cons s_str (a_cons s_str (a_cons s_str a_nil)))) (by rfl)) (ss_one (c_ret (ps_ret (s_blt (pe_callTy call_int1 (by rfl) B.int (by decide +kernel) (a_cons (s_or (s_and (s_cmp (op_eqA hr.units) o2_eq (s_var (pv 0)) s_str (nomark _)) (s_one (s_cmp (op_eqA hr.units) o2_eq (s_var (pv 1)) (s_var (pv 2)) (nomark _)))) (s_or (s_and (s_cmp (op_eqA hr.units) o2_eq (s_var (pv 0)) s_str (nomark _)) (s_one (s_cmp op_lt o2_lt (s_var (pv 1)) (s_var (pv 2)) (nomark _)))) (s_one (s_and (s_cmp (op_eqA hr.units) o2_eq (s_var (pv 0)) s_str (nomark _)) (s_one (s_not (s_cmp op_lt o2_lt (s_var (pv 2)) (s_var (pv 1)) (nomark _)))))))) a_nil)) on_int)))) ss_nil))
    (ss_cons (c_if (ps_if (t_cmp op_in_seq (o2_in (neg := false)) (s_var (pv 0)) (s_lst (a_cons s_str (a_cons s_str (a_cons s_str a_nil)))) (by rfl)) (ss_cons (c_set (ps_set (i := 5) sc_law_applied.nd rfl (by first | exact Or.inl rfl | exact Or.inr rfl) (s_op op_addA o2_add (s_var (pv 1)) (s_var (pv 2)))))
    (ss_cons (c_if (ps_if (t_cmp (op_eqA hr.units) o2_eq (s_var (pv 0)) s_str (nomark _)) (ss_one (c_set (ps_set (i := 5) sc_law_applied.nd rfl (by first | exact Or.inl rfl | exact Or.inr rfl) (s_op op_addA o2_add (s_op op_sub o2_sub (s_var (pv 1)) (s_var (pv 2))) s_int)))) (ss_one (c_if (ps_if (t_cmp (op_eqA hr.units) o2_eq (s_var (pv 0)) s_str (nomark _)) (ss_one (c_set (ps_set (i := 5) sc_law_applied.nd rfl (by first | exact Or.inl rfl | exact Or.inr rfl) (s_op op_mulA o2_mul (s_var (pv 1)) (s_var (pv 2)))))) ss_nil)))))
    (ss_one (c_ret (ps_ret (s_op op_sub o2_sub (s_var (pv 5)) (s_op op_mulA o2_mul s_int (s_op op_fdivW o2_divW (s_var (pv 5)) s_int)))))))) ss_nil))
    (ss_cons (c_if (ps_if (t_cmp (op_eqA hr.units) o2_eq (s_var (pv 2)) s_int (nomark _)) (ss_one (c_ret (ps_ret (s_ix ix_seq o2_ix (s_lst (a_cons s_int (a_cons (s_var (pv 1)) a_nil))) (s_blt (pe_callTy call_int1 (by rfl) B.int (by decide +kernel) (a_cons (s_cmp (op_eqA hr.units) o2_eq (s_var (pv 0)) s_str (nomark _)) a_nil)) on_int) (fun _ _ => rfl))))) ss_nil))
    (ss_cons (c_set (ps_set (i := 6) sc_law_applied.nd rfl (by first | exact Or.inl rfl | exact Or.inr rfl) s_int))
    (ss_cons (c_set (ps_set (i := 7) sc_law_applied.nd rfl (by first | exact Or.inl rfl | exact Or.inr rfl) (s_var (pv 1))))
    (ss_cons (c_for (t := (.n 4)) (ps_for PassesOwn.never rfl (i_rg1 (pi_range1 (by rfl) B.range (a_cons s_int a_nil))) (pg_name (i := 4) sc_law_applied.nd rfl (by first | exact Or.inl rfl | exact Or.inr rfl)) (ss_one (c_if (ps_if (t_cmp op_le o2_le (s_op op_mulA o2_mul (s_var (pv 2)) (s_op op_shl o2_shl s_int (s_op op_sub o2_sub s_int (s_var (pv 4))))) (s_var (pv 7)) (nomark _)) (ss_cons (c_set (ps_set (i := 7) sc_law_applied.nd rfl (by first | exact Or.inl rfl | exact Or.inr rfl) (s_op op_sub o2_sub (s_var (pv 7)) (s_op op_mulA o2_mul (s_var (pv 2)) (s_op op_shl o2_shl s_int (s_op op_sub o2_sub s_int (s_var (pv 4))))))))
    (ss_one (c_set (ps_set (i := 6) sc_law_applied.nd rfl (by first | exact Or.inl rfl | exact Or.inr rfl) (s_op op_addA o2_add (s_var (pv 6)) (s_op op_shl o2_shl s_int (s_op op_sub o2_sub s_int (s_var (pv 4))))))))) ss_nil)))))
    (ss_one (c_ret (ps_ret (s_ix ix_seq o2_ix (s_lst (a_cons (s_var (pv 6)) (a_cons (s_var (pv 7)) a_nil))) (s_blt (pe_callTy call_int1 (by rfl) B.int (by decide +kernel) (a_cons (s_cmp (op_eqA hr.units) o2_eq (s_var (pv 0)) s_str (nomark _)) a_nil)) on_int) (fun _ _ => rfl))))))))))))))
abbrev s_law_is_number : Stmt := topS 27
theorem sc_law_is_number : FnScope ["thing", "most"] ["thing", "most"] (defScope s_law_is_number) := ⟨rfl, rfl, rfl, by decide +kernel, rfl, by decide +kernel, by decide +kernel⟩
noncomputable def g_law_is_number : ST :=
  (sRet (eAn (eB isiB (aC (vr 0) (aC (cn (.ty "int")) aN))) (eAn (eNo (eB isiB (aC (vr 0) (aC (cn (.ty "bool")) aN)))) (eAn (e2 leD (cn (.int 0)) (vr 0)) (e2 leD (vr 0) (vr 1))))))
noncomputable def F_law_is_number : FN := fnB 2 2 g_law_is_number
theorem ok_law_is_number (B : Blt K w mg) {f : Addr} {fd : FuncData} (h : DefAt K mg "_law_is_number" s_law_is_number ["thing", "most"] f fd)  : Keeps P w K mg base 1 "_law_is_number" ["thing", "most"] F_law_is_number f fd :=
  keeps_of h sc_law_is_number fun cdv A outer s H E hr =>
    (ss_one (c_ret (ps_ret (s_and (s_blt (pe_callB call_isi (by rfl) B.isinstance (by decide +kernel) (a_cons (s_var (pv 0)) (a_cons (s_ty (by rfl) B.int (by decide +kernel)) a_nil))) on_isi) (s_and (s_not (s_blt (pe_callB call_isi (by rfl) B.isinstance (by decide +kernel) (a_cons (s_var (pv 0)) (a_cons (s_ty (by rfl) B.bool (by decide +kernel)) a_nil))) on_isi)) (s_and (s_cmp op_le o2_le s_int (s_var (pv 0)) (nomark _)) (s_one (s_cmp op_le o2_le (s_var (pv 0)) (s_var (pv 1)) (nomark _)))))))))
abbrev s_law_is_row : Stmt := topS 28
theorem sc_law_is_row : FnScope ["row", "arrays", "blocks", "last", "shape", "k", "part", "kind"] ["row", "arrays", "blocks", "last"] (defScope s_law_is_row) := ⟨rfl, rfl, rfl, by decide +kernel, rfl, by decide +kernel, by decide +kernel⟩
noncomputable def g_law_is_row_b1 : ST :=
  (sSeq (sSet 6 (e2 ixD (vr 0) (e2 addD (vr 5) (cn (.int 1)))))
    (sSeq (sSet 7 (e2 ixD (e2 dgetD (vr 4) (e2 ixD (vr 0) (cn (.int 0)))) (vr 5)))
    (sIf (tB1 (e2 eqD (vr 7) (cn (.str "g")))) (sIf (tO (tNo (tTl (eB isiB (aC (vr 6) (aC (cn (.ty "str")) aN))))) (tB1 (e2 (inD true) (vr 6) (eLst (aC (cn (.str "+")) (aC (cn (.str "-")) (aC (cn (.str "*")) (aC (cn (.str "&")) (aC (cn (.str "|")) (aC (cn (.str "^")) (aC (cn (.str "<<")) (aC (cn (.str ">>")) (aC (cn (.str "==")) (aC (cn (.str "<")) (aC (cn (.str "<=")) (aC (cn (.str "div")) (aC (cn (.str "mod")) aN))))))))))))))))) (sRet (cn (.bl false))) sSkip) (sIf (tNo (tTl (eCall 2 F_law_is_number (aC (vr 6) (aC (e2 dgetD (eDct [((cn (.str "r")), (cn (.int 100000))), ((cn (.str "n")), (cn (.int 4294967295))), ((cn (.str "i")), (e2 subD (vr 1) (cn (.int 1)))), ((cn (.str "t")), (e2 subD (vr 2) (cn (.int 1))))]) (vr 7)) aN))))) (sRet (cn (.bl false))) sSkip))))
noncomputable def g_law_is_row : ST :=
  (sSeq (sIf (tO (tNo (tTl (eB isiB (aC (vr 0) (aC (cn (.ty "tuple")) aN))))) (tO (tB1 (e2 eqD (vr 0) (eTup aN))) (tNo (tTl (eB isiB (aC (e2 ixD (vr 0) (cn (.int 0))) (aC (cn (.ty "str")) aN))))))) (sRet (cn (.bl false))) sSkip)
    (sSeq (sSet 4 (eDct [((cn (.str "const")), (cn (.str "rn"))), ((cn (.str "copy")), (cn (.str "rr"))), ((cn (.str "op")), (cn (.str "grrr"))), ((cn (.str "select")), (cn (.str "rrrr"))), ((cn (.str "load")), (cn (.str "rir"))), ((cn (.str "store")), (cn (.str "irr"))), ((cn (.str "out")), (cn (.str "r")))]))
    (sSeq (sIf (tTl (vr 3)) (sSet 4 (eDct [((cn (.str "jump")), (cn (.str "t"))), ((cn (.str "branch")), (cn (.str "rtt"))), ((cn (.str "stop")), (cn (.str "r")))])) sSkip)
    (sSeq (sIf (tO (tB1 (e2 (dinD true) (e2 ixD (vr 0) (cn (.int 0))) (vr 4))) (tB1 (e2 neD (eB lenB (aC (vr 0) aN)) (e2 addD (eB lenB (aC (e2 dgetD (vr 4) (e2 ixD (vr 0) (cn (.int 0)))) aN)) (cn (.int 1)))))) (sRet (cn (.bl false))) sSkip)
    (sSeq (sFor (.n 5) (iRg1 (eB lenB (aC (e2 dgetD (vr 4) (e2 ixD (vr 0) (cn (.int 0)))) aN))) g_law_is_row_b1)
    (sRet (cn (.bl true))))))))
noncomputable def F_law_is_row : FN := fnB 8 4 g_law_is_row
theorem ok_law_is_row (B : Blt K w mg) {f : Addr} {fd : FuncData} (h : DefAt K mg "_law_is_row" s_law_is_row ["row", "arrays", "blocks", "last"] f fd) {f0 : Addr} {fd0 : FuncData} (h_law_is_number : Keeps P w K mg base 1 "_law_is_number" ["thing", "most"] F_law_is_number f0 fd0) : Keeps P w K mg base 2 "_law_is_row" ["row", "arrays", "blocks", "last"] F_law_is_row f fd :=
  keeps_of h sc_law_is_row fun cdv A outer s H E hr =>
    (ss_cons (c_if (ps_if (PW.pt (t_or (t_not (t_truth (s_blt (pe_callB call_isi (by rfl) B.isinstance (by decide +kernel) (a_cons (s_var (pv 0)) (a_cons (s_ty (by rfl) B.tuple (by decide +kernel)) a_nil))) on_isi))) (t_or (t_cmp (op_eqA hr.units) o2_eq (s_var (pv 0)) (s_tup a_nil) (nomark _)) (t_or1 (t_not (t_truth (s_blt (pe_callB call_isi (by rfl) B.isinstance (by decide +kernel) (a_cons (s_ix ix_seq o2_ix (s_var (pv 0)) s_int (fun _ _ => rfl)) (a_cons (s_ty (by rfl) B.str (by decide +kernel)) a_nil))) on_isi))))))) (ss_one (c_ret (ps_ret s_bl))) ss_nil))
    (ss_cons (c_set (ps_set (i := 4) sc_law_is_row.nd rfl (by first | exact Or.inl rfl | exact Or.inr rfl) (s_dctm (ppm_cons s_str s_str (ppm_cons s_str s_str (ppm_cons s_str s_str (ppm_cons s_str s_str (ppm_cons s_str s_str (ppm_cons s_str s_str (ppm_cons s_str s_str ppm_nil))))))) (by rfl) (by rfl) (fun z => by cases z) (by decide))))
    (ss_cons (c_if (ps_if (t_truth (s_var (pv 3))) (ss_one (c_set (ps_set (i := 4) sc_law_is_row.nd rfl (by first | exact Or.inl rfl | exact Or.inr rfl) (s_dctm (ppm_cons s_str s_str (ppm_cons s_str s_str (ppm_cons s_str s_str ppm_nil))) (by rfl) (by rfl) (fun z => by cases z) (by decide))))) ss_nil))
    (ss_cons (c_if (ps_if (PW.pt (t_or (c_2t (pt_cmp (pc_dnotin (hu_of hr) (s_ix ix_seq o2_ix (s_var (pv 0)) s_int (fun _ _ => rfl)) (s_var (pv 4))) (by rfl)) o2_dnotin) (t_or1 (t_cmp (op_neA hr.units) o2_ne (s_blt (pe_callB call_lenA (by rfl) B.len (by decide +kernel) (a_cons (s_var (pv 0)) a_nil)) on_len) (s_op op_addA o2_add (s_blt (pe_callB call_lenA (by rfl) B.len (by decide +kernel) (a_cons (c_2 (pe_dget (hu_of hr) (s_var (pv 4)) (s_ix ix_seq o2_ix (s_var (pv 0)) s_int (fun _ _ => rfl)) (fun _ _ => rfl)) o2_dget) a_nil)) on_len) s_int) (nomark _))))) (ss_one (c_ret (ps_ret s_bl))) ss_nil))
    (ss_cons (c_for (t := (.n 5)) (ps_for PassesOwn.never rfl (i_rg1 (pi_range1 (by rfl) B.range (a_cons (s_blt (pe_callB call_lenA (by rfl) B.len (by decide +kernel) (a_cons (c_2 (pe_dget (hu_of hr) (s_var (pv 4)) (s_ix ix_seq o2_ix (s_var (pv 0)) s_int (fun _ _ => rfl)) (fun _ _ => rfl)) o2_dget) a_nil)) on_len) a_nil))) (pg_name (i := 5) sc_law_is_row.nd rfl (by first | exact Or.inl rfl | exact Or.inr rfl)) (ss_cons (c_set (ps_set (i := 6) sc_law_is_row.nd rfl (by first | exact Or.inl rfl | exact Or.inr rfl) (s_ix ix_seq o2_ix (s_var (pv 0)) (s_op op_addA o2_add (s_var (pv 5)) s_int) (fun _ _ => rfl))))
    (ss_cons (c_set (ps_set (i := 7) sc_law_is_row.nd rfl (by first | exact Or.inl rfl | exact Or.inr rfl) (s_ix ix_seq o2_ix (c_2 (pe_dget (hu_of hr) (s_var (pv 4)) (s_ix ix_seq o2_ix (s_var (pv 0)) s_int (fun _ _ => rfl)) (fun _ _ => rfl)) o2_dget) (s_var (pv 5)) (fun _ _ => rfl))))
    (ss_one (c_if (ps_if (t_cmp (op_eqA hr.units) o2_eq (s_var (pv 7)) s_str (nomark _)) (ss_one (c_if (ps_if (PW.pt (t_or (t_not (t_truth (s_blt (pe_callB call_isi (by rfl) B.isinstance (by decide +kernel) (a_cons (s_var (pv 6)) (a_cons (s_ty (by rfl) B.str (by decide +kernel)) a_nil))) on_isi))) (t_or1 (t_cmp op_notIn_seq (o2_in (neg := true)) (s_var (pv 6)) (s_lst (a_cons s_str (a_cons s_str (a_cons s_str (a_cons s_str (a_cons s_str (a_cons s_str (a_cons s_str (a_cons s_str (a_cons s_str (a_cons s_str (a_cons s_str (a_cons s_str (a_cons s_str a_nil)))))))))))))) (by rfl))))) (ss_one (c_ret (ps_ret s_bl))) ss_nil))) (ss_one (c_if (ps_if (t_not (t_truth (s_own h_law_is_number (by decide) hr rfl (by rfl) (a_cons (s_var (pv 6)) (a_cons (c_2 (pe_dget (hu_of hr) (s_dctm (ppm_cons s_str s_int (ppm_cons s_str s_int (ppm_cons s_str (s_op op_sub o2_sub (s_var (pv 1)) s_int) (ppm_cons s_str (s_op op_sub o2_sub (s_var (pv 2)) s_int) ppm_nil)))) (by rfl) (by rfl) (fun z => by cases z) (by decide)) (s_var (pv 7)) (fun _ _ => rfl)) o2_dget) a_nil))))) (ss_one (c_ret (ps_ret s_bl))) ss_nil))))))))))
    (ss_one (c_ret (ps_ret s_bl))))))))
abbrev s_law_is_program : Stmt := topS 29
theorem sc_law_is_program : FnScope ["thing", "one", "block", "k"] ["thing"] (defScope s_law_is_program) := ⟨rfl, rfl, rfl, by decide +kernel, rfl, by decide +kernel, by decide +kernel⟩
noncomputable def g_law_is_program_b1 : ST :=
  (sSeq (sIf (tO (tNo (tTl (eB isiB (aC (vr 1) (aC (cn (.ty "tuple")) aN))))) (tO (tB1 (e2 neD (eB lenB (aC (vr 1) aN)) (cn (.int 3)))) (tO (tNo (tTl (eB isiB (aC (e2 ixD (vr 1) (cn (.int 0))) (aC (cn (.ty "str")) aN))))) (tO (tNo (tTl (eCall 2 F_law_is_number (aC (e2 ixD (vr 1) (cn (.int 1))) (aC (cn (.int 64)) aN))))) (tB1 (e2 eqD (e2 ixD (vr 1) (cn (.int 1))) (cn (.int 0)))))))) (sRet (cn (.bl false))) sSkip)
    (sIf (tO (tNo (tTl (eB isiB (aC (e2 ixD (vr 1) (cn (.int 2))) (aC (cn (.ty "str")) aN))))) (tB1 (e2 (inD true) (e2 ixD (vr 1) (cn (.int 2))) (eLst (aC (cn (.str "public")) (aC (cn (.str "secret")) aN)))))) (sRet (cn (.bl false))) sSkip))
noncomputable def g_law_is_program_b2 : ST :=
  (sIf (tNo (tTl (eCall 4 F_law_is_row (aC (e2 ixD (vr 2) (vr 3)) (aC (eB lenB (aC (e2 ixD (vr 0) (cn (.int 0))) aN)) (aC (eB lenB (aC (e2 ixD (vr 0) (cn (.int 2))) aN)) (aC (e2 eqD (vr 3) (e2 subD (eB lenB (aC (vr 2) aN)) (cn (.int 1)))) aN))))))) (sRet (cn (.bl false))) sSkip)
noncomputable def g_law_is_program_b3 : ST :=
  (sSeq (sIf (tO (tNo (tTl (eB isiB (aC (vr 2) (aC (cn (.ty "tuple")) aN))))) (tB1 (e2 eqD (vr 2) (eTup aN)))) (sRet (cn (.bl false))) sSkip)
    (sFor (.n 3) (iRg1 (eB lenB (aC (vr 2) aN))) g_law_is_program_b2))
noncomputable def g_law_is_program : ST :=
  (sSeq (sIf (tO (tNo (tTl (eB isiB (aC (vr 0) (aC (cn (.ty "tuple")) aN))))) (tO (tB1 (e2 neD (eB lenB (aC (vr 0) aN)) (cn (.int 3)))) (tO (tNo (tTl (eB isiB (aC (e2 ixD (vr 0) (cn (.int 0))) (aC (cn (.ty "tuple")) aN))))) (tNo (tTl (eB isiB (aC (e2 ixD (vr 0) (cn (.int 2))) (aC (cn (.ty "tuple")) aN)))))))) (sRet (cn (.bl false))) sSkip)
    (sSeq (sFor (.n 1) (iSeq (e2 ixD (vr 0) (cn (.int 0)))) g_law_is_program_b1)
    (sSeq (sIf (tO (tNo (tTl (eCall 2 F_law_is_number (aC (e2 ixD (vr 0) (cn (.int 1))) (aC (cn (.int 100001)) aN))))) (tB1 (e2 eqD (e2 ixD (vr 0) (cn (.int 2))) (eTup aN)))) (sRet (cn (.bl false))) sSkip)
    (sSeq (sFor (.n 2) (iSeq (e2 ixD (vr 0) (cn (.int 2)))) g_law_is_program_b3)
    (sRet (cn (.bl true)))))))
noncomputable def F_law_is_program : FN := fnB 4 1 g_law_is_program
theorem ok_law_is_program (B : Blt K w mg) {f : Addr} {fd : FuncData} (h : DefAt K mg "_law_is_program" s_law_is_program ["thing"] f fd) {f0 : Addr} {fd0 : FuncData} (h_law_is_number : Keeps P w K mg base 1 "_law_is_number" ["thing", "most"] F_law_is_number f0 fd0) {f1 : Addr} {fd1 : FuncData} (h_law_is_row : Keeps P w K mg base 2 "_law_is_row" ["row", "arrays", "blocks", "last"] F_law_is_row f1 fd1) : Keeps P w K mg base 3 "_law_is_program" ["thing"] F_law_is_program f fd :=
  keeps_of h sc_law_is_program fun cdv A outer s H E hr =>
    (ss_cons (c_if (ps_if (PW.pt (t_or (t_not (t_truth (s_blt (pe_callB call_isi (by rfl) B.isinstance (by decide +kernel) (a_cons (s_var (pv 0)) (a_cons (s_ty (by rfl) B.tuple (by decide +kernel)) a_nil))) on_isi))) (t_or (t_cmp (op_neA hr.units) o2_ne (s_blt (pe_callB call_lenA (by rfl) B.len (by decide +kernel) (a_cons (s_var (pv 0)) a_nil)) on_len) s_int (nomark _)) (t_or (t_not (t_truth (s_blt (pe_callB call_isi (by rfl) B.isinstance (by decide +kernel) (a_cons (s_ix ix_seq o2_ix (s_var (pv 0)) s_int (fun _ _ => rfl)) (a_cons (s_ty (by rfl) B.tuple (by decide +kernel)) a_nil))) on_isi))) (t_or1 (t_not (t_truth (s_blt (pe_callB call_isi (by rfl) B.isinstance (by decide +kernel) (a_cons (s_ix ix_seq o2_ix (s_var (pv 0)) s_int (fun _ _ => rfl)) (a_cons (s_ty (by rfl) B.tuple (by decide +kernel)) a_nil))) on_isi)))))))) (ss_one (c_ret (ps_ret s_bl))) ss_nil))
    (ss_cons (c_for (t := (.n 1)) (ps_for PassesOwn.never rfl (i_seq (s_ix ix_seq o2_ix (s_var (pv 0)) s_int (fun _ _ => rfl))) (pg_name (i := 1) sc_law_is_program.nd rfl (by first | exact Or.inl rfl | exact Or.inr rfl)) (ss_cons (c_if (ps_if (PW.pt (t_or (t_not (t_truth (s_blt (pe_callB call_isi (by rfl) B.isinstance (by decide +kernel) (a_cons (s_var (pv 1)) (a_cons (s_ty (by rfl) B.tuple (by decide +kernel)) a_nil))) on_isi))) (t_or (t_cmp (op_neA hr.units) o2_ne (s_blt (pe_callB call_lenA (by rfl) B.len (by decide +kernel) (a_cons (s_var (pv 1)) a_nil)) on_len) s_int (nomark _)) (t_or (t_not (t_truth (s_blt (pe_callB call_isi (by rfl) B.isinstance (by decide +kernel) (a_cons (s_ix ix_seq o2_ix (s_var (pv 1)) s_int (fun _ _ => rfl)) (a_cons (s_ty (by rfl) B.str (by decide +kernel)) a_nil))) on_isi))) (t_or (t_not (t_truth (s_own h_law_is_number (by decide) hr rfl (by rfl) (a_cons (s_ix ix_seq o2_ix (s_var (pv 1)) s_int (fun _ _ => rfl)) (a_cons s_int a_nil))))) (t_or1 (t_cmp (op_eqA hr.units) o2_eq (s_ix ix_seq o2_ix (s_var (pv 1)) s_int (fun _ _ => rfl)) s_int (nomark _)))))))) (ss_one (c_ret (ps_ret s_bl))) ss_nil))
    (ss_one (c_if (ps_if (PW.pt (t_or (t_not (t_truth (s_blt (pe_callB call_isi (by rfl) B.isinstance (by decide +kernel) (a_cons (s_ix ix_seq o2_ix (s_var (pv 1)) s_int (fun _ _ => rfl)) (a_cons (s_ty (by rfl) B.str (by decide +kernel)) a_nil))) on_isi))) (t_or1 (t_cmp op_notIn_seq (o2_in (neg := true)) (s_ix ix_seq o2_ix (s_var (pv 1)) s_int (fun _ _ => rfl)) (s_lst (a_cons s_str (a_cons s_str a_nil))) (by rfl))))) (ss_one (c_ret (ps_ret s_bl))) ss_nil))))))
    (ss_cons (c_if (ps_if (PW.pt (t_or (t_not (t_truth (s_own h_law_is_number (by decide) hr rfl (by rfl) (a_cons (s_ix ix_seq o2_ix (s_var (pv 0)) s_int (fun _ _ => rfl)) (a_cons s_int a_nil))))) (t_or1 (t_cmp (op_eqA hr.units) o2_eq (s_ix ix_seq o2_ix (s_var (pv 0)) s_int (fun _ _ => rfl)) (s_tup a_nil) (nomark _))))) (ss_one (c_ret (ps_ret s_bl))) ss_nil))
    (ss_cons (c_for (t := (.n 2)) (ps_for PassesOwn.never rfl (i_seq (s_ix ix_seq o2_ix (s_var (pv 0)) s_int (fun _ _ => rfl))) (pg_name (i := 2) sc_law_is_program.nd rfl (by first | exact Or.inl rfl | exact Or.inr rfl)) (ss_cons (c_if (ps_if (PW.pt (t_or (t_not (t_truth (s_blt (pe_callB call_isi (by rfl) B.isinstance (by decide +kernel) (a_cons (s_var (pv 2)) (a_cons (s_ty (by rfl) B.tuple (by decide +kernel)) a_nil))) on_isi))) (t_or1 (t_cmp (op_eqA hr.units) o2_eq (s_var (pv 2)) (s_tup a_nil) (nomark _))))) (ss_one (c_ret (ps_ret s_bl))) ss_nil))
    (ss_one (c_for (t := (.n 3)) (ps_for PassesOwn.never rfl (i_rg1 (pi_range1 (by rfl) B.range (a_cons (s_blt (pe_callB call_lenA (by rfl) B.len (by decide +kernel) (a_cons (s_var (pv 2)) a_nil)) on_len) a_nil))) (pg_name (i := 3) sc_law_is_program.nd rfl (by first | exact Or.inl rfl | exact Or.inr rfl)) (ss_one (c_if (ps_if (t_not (t_truth (s_own h_law_is_row (by decide) hr rfl (by rfl) (a_cons (s_ix ix_seq o2_ix (s_var (pv 2)) (s_var (pv 3)) (fun _ _ => rfl)) (a_cons (s_blt (pe_callB call_lenA (by rfl) B.len (by decide +kernel) (a_cons (s_ix ix_seq o2_ix (s_var (pv 0)) s_int (fun _ _ => rfl)) a_nil)) on_len) (a_cons (s_blt (pe_callB call_lenA (by rfl) B.len (by decide +kernel) (a_cons (s_ix ix_seq o2_ix (s_var (pv 0)) s_int (fun _ _ => rfl)) a_nil)) on_len) (a_cons (s_cmp (op_eqA hr.units) o2_eq (s_var (pv 3)) (s_op op_sub o2_sub (s_blt (pe_callB call_lenA (by rfl) B.len (by decide +kernel) (a_cons (s_var (pv 2)) a_nil)) on_len) s_int) (nomark _)) a_nil))))))) (ss_one (c_ret (ps_ret s_bl))) ss_nil)))))))))
    (ss_one (c_ret (ps_ret s_bl)))))))
abbrev s_law_spoilt : Stmt := topS 30
theorem sc_law_spoilt : FnScope ["w", "thing", "steps", "others", "at", "turn"] ["w", "thing", "steps"] (defScope s_law_spoilt) := ⟨rfl, rfl, rfl, by decide +kernel, rfl, by decide +kernel, by decide +kernel⟩
noncomputable def g_law_spoilt (F_self : FN) : ST :=
  (sSeq (sIf (tO (tNo (tTl (eB isiB (aC (vr 1) (aC (cn (.ty "tuple")) aN))))) (tO (tB1 (e2 eqD (vr 1) (eTup aN))) (tO (tB1 (e2 eqD (vr 2) (cn (.int 0)))) (tB1 (e2 eqD (eCall 2 F_law_next (aC (vr 0) (aC (cn (.int 6)) aN))) (cn (.int 0))))))) (sSeq (sSet 3 (eLst (aC (cn .non) (aC (cn (.bl true)) (aC (cn (.bl false)) (aC (eNeg (cn (.int 1))) (aC (cn (.int 0)) (aC (cn (.int 1)) (aC (cn (.int 100001)) (aC (cn (.int 4294967296)) (aC (cn (.int 65)) (aC (cn (.str "public")) (aC (cn (.str "op")) (aC (cn (.str "+")) (aC (cn (.str "")) (aC (eTup aN) (aC (eTup (aC (cn (.str "stop")) (aC (cn (.int 0)) aN))) (aC (eTup (aC (cn (.str "a")) (aC (cn (.int 1)) (aC (cn (.str "secret")) aN)))) (aC (eTup (aC (eTup (aC (cn (.str "jump")) (aC (cn (.int 0)) aN))) aN)) aN)))))))))))))))))))
    (sRet (e2 ixD (vr 3) (eCall 2 F_law_next (aC (vr 0) (aC (eB lenB (aC (vr 3) aN)) aN)))))) sSkip)
    (sSeq (sSet 4 (eCall 2 F_law_next (aC (vr 0) (aC (eB lenB (aC (vr 1) aN)) aN))))
    (sSeq (sSet 5 (eCall 2 F_law_next (aC (vr 0) (aC (cn (.int 9)) aN))))
    (sSeq (sIf (tB1 (e2 eqD (vr 5) (cn (.int 0)))) (sRet (e2 addD (eSl (vr 1) oN (oS (vr 4))) (eSl (vr 1) (oS (e2 addD (vr 4) (cn (.int 1)))) oN))) sSkip)
    (sSeq (sIf (tB1 (e2 eqD (vr 5) (cn (.int 1)))) (sRet (e2 addD (e2 addD (eSl (vr 1) oN (oS (vr 4))) (eTup (aC (e2 ixD (vr 1) (vr 4)) aN))) (eSl (vr 1) (oS (vr 4)) oN))) sSkip)
    (sRet (e2 addD (e2 addD (eSl (vr 1) oN (oS (vr 4))) (eTup (aC (eCall 3 F_self (aC (vr 0) (aC (e2 ixD (vr 1) (vr 4)) (aC (e2 subD (vr 2) (cn (.int 1))) aN)))) aN))) (eSl (vr 1) (oS (e2 addD (vr 4) (cn (.int 1)))) oN))))))))
noncomputable def F_law_spoilt : Nat → FN
  | 0 => noF
  | r + 1 => fnB 6 3 (g_law_spoilt (F_law_spoilt r))
theorem ok_law_spoilt (B : Blt K w mg) {f : Addr} {fd : FuncData} (h : DefAt K mg "_law_spoilt" s_law_spoilt ["w", "thing", "steps"] f fd) {f0 : Addr} {fd0 : FuncData} (h_law_next : Keeps P w K mg base 1 "_law_next" ["w", "many"] F_law_next f0 fd0) : ∀ r : Nat, Keeps P w K mg base (1 + r) "_law_spoilt" ["w", "thing", "steps"] (F_law_spoilt r) f fd
  | 0 => keeps_no h
  | r + 1 => keeps_of (k := 1 + r) h sc_law_spoilt fun cdv A outer s H E hr =>
    have ih := ok_law_spoilt B h h_law_next r
    (ss_cons (c_if (ps_if (PW.pt (t_or (t_not (t_truth (s_blt (pe_callB call_isi (by rfl) B.isinstance (by decide +kernel) (a_cons (s_var (pv 1)) (a_cons (s_ty (by rfl) B.tuple (by decide +kernel)) a_nil))) on_isi))) (t_or (t_cmp (op_eqA hr.units) o2_eq (s_var (pv 1)) (s_tup a_nil) (nomark _)) (t_or (t_cmp (op_eqA hr.units) o2_eq (s_var (pv 2)) s_int (nomark _)) (t_or1 (t_cmp (op_eqA hr.units) o2_eq (s_own h_law_next (by omega) hr rfl (by rfl) (a_cons (s_var (pv 0)) (a_cons s_int a_nil))) s_int (nomark _))))))) (ss_cons (c_set (ps_set (i := 3) sc_law_spoilt.nd rfl (by first | exact Or.inl rfl | exact Or.inr rfl) (s_lst (a_cons s_non (a_cons s_bl (a_cons s_bl (a_cons (s_neg s_int) (a_cons s_int (a_cons s_int (a_cons s_int (a_cons s_int (a_cons s_int (a_cons s_str (a_cons s_str (a_cons s_str (a_cons s_str (a_cons (s_tup a_nil) (a_cons (s_tup (a_cons s_str (a_cons s_int a_nil))) (a_cons (s_tup (a_cons s_str (a_cons s_int (a_cons s_str a_nil)))) (a_cons (s_tup (a_cons (s_tup (a_cons s_str (a_cons s_int a_nil))) a_nil)) a_nil))))))))))))))))))))
    (ss_one (c_ret (ps_ret (s_ix ix_seq o2_ix (s_var (pv 3)) (s_own h_law_next (by omega) hr rfl (by rfl) (a_cons (s_var (pv 0)) (a_cons (s_blt (pe_callB call_lenA (by rfl) B.len (by decide +kernel) (a_cons (s_var (pv 3)) a_nil)) on_len) a_nil))) (fun _ _ => rfl)))))) ss_nil))
    (ss_cons (c_set (ps_set (i := 4) sc_law_spoilt.nd rfl (by first | exact Or.inl rfl | exact Or.inr rfl) (s_own h_law_next (by omega) hr rfl (by rfl) (a_cons (s_var (pv 0)) (a_cons (s_blt (pe_callB call_lenA (by rfl) B.len (by decide +kernel) (a_cons (s_var (pv 1)) a_nil)) on_len) a_nil)))))
    (ss_cons (c_set (ps_set (i := 5) sc_law_spoilt.nd rfl (by first | exact Or.inl rfl | exact Or.inr rfl) (s_own h_law_next (by omega) hr rfl (by rfl) (a_cons (s_var (pv 0)) (a_cons s_int a_nil)))))
    (ss_cons (c_if (ps_if (t_cmp (op_eqA hr.units) o2_eq (s_var (pv 5)) s_int (nomark _)) (ss_one (c_ret (ps_ret (s_op op_addA o2_add (s_slice (s_var (pv 1)) o_none (o_some (s_var (pv 4)))) (s_slice (s_var (pv 1)) (o_some (s_op op_addA o2_add (s_var (pv 4)) s_int)) o_none))))) ss_nil))
    (ss_cons (c_if (ps_if (t_cmp (op_eqA hr.units) o2_eq (s_var (pv 5)) s_int (nomark _)) (ss_one (c_ret (ps_ret (s_op op_addA o2_add (s_op op_addA o2_add (s_slice (s_var (pv 1)) o_none (o_some (s_var (pv 4)))) (s_tup (a_cons (s_ix ix_seq o2_ix (s_var (pv 1)) (s_var (pv 4)) (fun _ _ => rfl)) a_nil))) (s_slice (s_var (pv 1)) (o_some (s_var (pv 4))) o_none))))) ss_nil))
    (ss_one (c_ret (ps_ret (s_op op_addA o2_add (s_op op_addA o2_add (s_slice (s_var (pv 1)) o_none (o_some (s_var (pv 4)))) (s_tup (a_cons (s_own ih (by omega) hr rfl (by rfl) (a_cons (s_var (pv 0)) (a_cons (s_ix ix_seq o2_ix (s_var (pv 1)) (s_var (pv 4)) (fun _ _ => rfl)) (a_cons (s_op op_sub o2_sub (s_var (pv 2)) s_int) a_nil)))) a_nil))) (s_slice (s_var (pv 1)) (o_some (s_op op_addA o2_add (s_var (pv 4)) s_int)) o_none))))))))))
abbrev s_law : Stmt := topS 31
theorem sc_law : FnScope ["script", "w", "k", "a", "b", "told", "length", "size", "program", "thing"] ["script"] (defScope s_law) := ⟨rfl, rfl, rfl, by decide +kernel, rfl, by decide +kernel, by decide +kernel⟩
noncomputable def g_law_b1 : ST :=
  (sSeq (sSet 3 (eCall 1 F_law_word (aC (vr 1) aN)))
    (sSeq (sSet 4 (e2 ixD (eLst (aC (eCall 1 F_law_word (aC (vr 1) aN)) (aC (vr 3) (aC (eCall 2 F_law_next (aC (vr 1) (aC (cn (.int 40)) aN))) aN)))) (eCall 2 F_law_next (aC (vr 1) (aC (cn (.int 3)) aN)))))
    (sSeq (sSet 5 (eCall 3 F_apply (aC (e2 ixD (cn dv_SIGNS) (vr 2)) (aC (vr 3) (aC (vr 4) aN)))))
    (sIf (tO (tNo (tTl (eCall 2 F_law_is_number (aC (vr 5) (aC (cn (.int 4294967295)) aN))))) (tB1 (e2 neD (vr 5) (eCall 3 F_law_applied (aC (e2 ixD (cn dv_SIGNS) (vr 2)) (aC (vr 3) (aC (vr 4) aN))))))) (sRet (cn (.bl false))) sSkip))))
noncomputable def g_law_b2 : ST :=
  (sSeq (sSet 9 (eCall 3 (F_law_spoilt 7) (aC (vr 1) (aC (vr 8) (aC (e2 addD (cn (.int 1)) (eCall 2 F_law_next (aC (vr 1) (aC (cn (.int 5)) aN)))) aN)))))
    (sSeq (sSet 5 (eCall 1 F_is_ir (aC (vr 9) aN)))
    (sIf (tO (tNo (tTl (eB isiB (aC (vr 5) (aC (cn (.ty "bool")) aN))))) (tB1 (e2 neD (vr 5) (eCall 1 F_law_is_program (aC (vr 9) aN))))) (sRet (cn (.bl false))) sSkip)))
noncomputable def g_law : ST :=
  (sSeq (sSet 1 (eDct [((cn (.str "draws")), (eCall 2 F_law_draws (aC (vr 0) (aC (cn (.int 420)) aN)))), ((cn (.str "at")), (cn (.int 0)))]))
    (sSeq (sIf (tB1 (e2 neD (eB tupB (aC (cn dv_SIGNS) aN)) (eTup (aC (cn (.str "+")) (aC (cn (.str "-")) (aC (cn (.str "*")) (aC (cn (.str "&")) (aC (cn (.str "|")) (aC (cn (.str "^")) (aC (cn (.str "<<")) (aC (cn (.str ">>")) (aC (cn (.str "==")) (aC (cn (.str "<")) (aC (cn (.str "<=")) (aC (cn (.str "div")) (aC (cn (.str "mod")) aN)))))))))))))))) (sRet (cn (.bl false))) sSkip)
    (sSeq (sFor (.n 2) (iRg1 (cn (.int 13))) g_law_b1)
    (sSeq (sSet 6 (e2 addD (cn (.int 1)) (eCall 2 F_law_next (aC (vr 1) (aC (cn (.int 64)) aN)))))
    (sSeq (sSet 7 (eCall 1 F_size_of (aC (vr 6) aN)))
    (sSeq (sIf (tO (tB1 (e2 (inD true) (vr 7) (eLst (aC (cn (.int 1)) (aC (cn (.int 2)) (aC (cn (.int 4)) (aC (cn (.int 8)) (aC (cn (.int 16)) (aC (cn (.int 32)) (aC (cn (.int 64)) aN)))))))))) (tO (tB1 (e2 ltD (vr 7) (vr 6))) (tB1 (e2 geD (vr 7) (e2 mulD (cn (.int 2)) (vr 6)))))) (sRet (cn (.bl false))) sSkip)
    (sSeq (sSet 8 (eCall 1 F_law_program (aC (vr 1) aN)))
    (sSeq (sIf (tB1 (e2 isNotD (eCall 1 F_is_ir (aC (vr 8) aN)) (cn (.bl true)))) (sRet (cn (.bl false))) sSkip)
    (sSeq (sFor (.n 2) (iRg1 (cn (.int 5))) g_law_b2)
    (sRet (cn (.bl true))))))))))))
noncomputable def F_law : FN := fnB 10 1 g_law
theorem ok_law (B : Blt K w mg) {f : Addr} {fd : FuncData} (h : DefAt K mg "law" s_law ["script"] f fd) {f0 : Addr} {fd0 : FuncData} (h_law_draws : Keeps P w K mg base 1 "_law_draws" ["script", "many"] F_law_draws f0 fd0) {f1 : Addr} {fd1 : FuncData} (h_law_word : Keeps P w K mg base 2 "_law_word" ["w"] F_law_word f1 fd1) {f2 : Addr} {fd2 : FuncData} (h_law_next : Keeps P w K mg base 1 "_law_next" ["w", "many"] F_law_next f2 fd2) {f3 : Addr} {fd3 : FuncData} (h_apply : Keeps P w K mg base 2 "apply" ["sign", "a", "b"] F_apply f3 fd3) {f4 : Addr} {fd4 : FuncData} (h_law_applied : Keeps P w K mg base 2 "_law_applied" ["sign", "a", "b"] F_law_applied f4 fd4) {f5 : Addr} {fd5 : FuncData} (h_law_is_number : Keeps P w K mg base 1 "_law_is_number" ["thing", "most"] F_law_is_number f5 fd5) {f6 : Addr} {fd6 : FuncData} (h_size_of : Keeps P w K mg base 1 "size_of" ["length"] F_size_of f6 fd6) {f7 : Addr} {fd7 : FuncData} (h_law_program : Keeps P w K mg base 3 "_law_program" ["w"] F_law_program f7 fd7) {f8 : Addr} {fd8 : FuncData} (h_is_ir : Keeps P w K mg base 5 "is_ir" ["thing"] F_is_ir f8 fd8) {f9 : Addr} {fd9 : FuncData} (h_law_spoilt : Keeps P w K mg base 8 "_law_spoilt" ["w", "thing", "steps"] (F_law_spoilt 7) f9 fd9) {f10 : Addr} {fd10 : FuncData} (h_law_is_program : Keeps P w K mg base 3 "_law_is_program" ["thing"] F_law_is_program f10 fd10) : Keeps P w K mg base 9 "law" ["script"] F_law f fd :=
  keeps_of h sc_law fun cdv A outer s H E hr =>
    (ss_cons (c_set (ps_set (i := 1) sc_law.nd rfl (by first | exact Or.inl rfl | exact Or.inr rfl) (s_dctm (ppm_cons s_str (s_own h_law_draws (by decide) hr rfl (by rfl) (a_cons (s_var (pv 0)) (a_cons s_int a_nil))) (ppm_cons s_str s_int ppm_nil)) (by rfl) (by rfl) (fun z => by cases z) (by decide))))
    (ss_cons (c_if (ps_if (t_cmp (op_neA hr.units) o2_ne (s_blt (pe_callTy call_tuple_of (by rfl) B.tuple (by decide +kernel) (a_cons (s_gv B.gv_SIGNS (by rfl)) a_nil)) on_tup) (s_tup (a_cons s_str (a_cons s_str (a_cons s_str (a_cons s_str (a_cons s_str (a_cons s_str (a_cons s_str (a_cons s_str (a_cons s_str (a_cons s_str (a_cons s_str (a_cons s_str (a_cons s_str a_nil)))))))))))))) (nomark _)) (ss_one (c_ret (ps_ret s_bl))) ss_nil))
    (ss_cons (c_for (t := (.n 2)) (ps_for PassesOwn.never rfl (i_rg1 (pi_range1 (by rfl) B.range (a_cons s_int a_nil))) (pg_name (i := 2) sc_law.nd rfl (by first | exact Or.inl rfl | exact Or.inr rfl)) (ss_cons (c_set (ps_set (i := 3) sc_law.nd rfl (by first | exact Or.inl rfl | exact Or.inr rfl) (s_own h_law_word (by decide) hr rfl (by rfl) (a_cons (s_var (pv 1)) a_nil))))
    (ss_cons (c_set (ps_set (i := 4) sc_law.nd rfl (by first | exact Or.inl rfl | exact Or.inr rfl) (s_ix ix_seq o2_ix (s_lst (a_cons (s_own h_law_word (by decide) hr rfl (by rfl) (a_cons (s_var (pv 1)) a_nil)) (a_cons (s_var (pv 3)) (a_cons (s_own h_law_next (by decide) hr rfl (by rfl) (a_cons (s_var (pv 1)) (a_cons s_int a_nil))) a_nil)))) (s_own h_law_next (by decide) hr rfl (by rfl) (a_cons (s_var (pv 1)) (a_cons s_int a_nil))) (fun _ _ => rfl))))
    (ss_cons (c_set (ps_set (i := 5) sc_law.nd rfl (by first | exact Or.inl rfl | exact Or.inr rfl) (s_own h_apply (by decide) hr rfl (by rfl) (a_cons (s_ix ix_seq o2_ix (s_gv B.gv_SIGNS (by rfl)) (s_var (pv 2)) (fun _ _ => rfl)) (a_cons (s_var (pv 3)) (a_cons (s_var (pv 4)) a_nil))))))
    (ss_one (c_if (ps_if (PW.pt (t_or (t_not (t_truth (s_own h_law_is_number (by decide) hr rfl (by rfl) (a_cons (s_var (pv 5)) (a_cons s_int a_nil))))) (t_or1 (t_cmp (op_neA hr.units) o2_ne (s_var (pv 5)) (s_own h_law_applied (by decide) hr rfl (by rfl) (a_cons (s_ix ix_seq o2_ix (s_gv B.gv_SIGNS (by rfl)) (s_var (pv 2)) (fun _ _ => rfl)) (a_cons (s_var (pv 3)) (a_cons (s_var (pv 4)) a_nil)))) (nomark _))))) (ss_one (c_ret (ps_ret s_bl))) ss_nil))))))))
    (ss_cons (c_set (ps_set (i := 6) sc_law.nd rfl (by first | exact Or.inl rfl | exact Or.inr rfl) (s_op op_addA o2_add s_int (s_own h_law_next (by decide) hr rfl (by rfl) (a_cons (s_var (pv 1)) (a_cons s_int a_nil))))))
    (ss_cons (c_set (ps_set (i := 7) sc_law.nd rfl (by first | exact Or.inl rfl | exact Or.inr rfl) (s_own h_size_of (by decide) hr rfl (by rfl) (a_cons (s_var (pv 6)) a_nil))))
    (ss_cons (c_if (ps_if (PW.pt (t_or (t_cmp op_notIn_seq (o2_in (neg := true)) (s_var (pv 7)) (s_lst (a_cons s_int (a_cons s_int (a_cons s_int (a_cons s_int (a_cons s_int (a_cons s_int (a_cons s_int a_nil)))))))) (by rfl)) (t_or (t_cmp op_lt o2_lt (s_var (pv 7)) (s_var (pv 6)) (nomark _)) (t_or1 (t_cmp op_ge o2_ge (s_var (pv 7)) (s_op op_mulA o2_mul s_int (s_var (pv 6))) (nomark _)))))) (ss_one (c_ret (ps_ret s_bl))) ss_nil))
    (ss_cons (c_set (ps_set (i := 8) sc_law.nd rfl (by first | exact Or.inl rfl | exact Or.inr rfl) (s_own h_law_program (by decide) hr rfl (by rfl) (a_cons (s_var (pv 1)) a_nil))))
    (ss_cons (c_if (ps_if (t_cmp op_isNotA o2_isNot (s_own h_is_ir (by decide) hr rfl (by rfl) (a_cons (s_var (pv 8)) a_nil)) s_bl (nomark _)) (ss_one (c_ret (ps_ret s_bl))) ss_nil))
    (ss_cons (c_for (t := (.n 2)) (ps_for PassesOwn.never rfl (i_rg1 (pi_range1 (by rfl) B.range (a_cons s_int a_nil))) (pg_name (i := 2) sc_law.nd rfl (by first | exact Or.inl rfl | exact Or.inr rfl)) (ss_cons (c_set (ps_set (i := 9) sc_law.nd rfl (by first | exact Or.inl rfl | exact Or.inr rfl) (s_own h_law_spoilt (by decide) hr rfl (by rfl) (a_cons (s_var (pv 1)) (a_cons (s_var (pv 8)) (a_cons (s_op op_addA o2_add s_int (s_own h_law_next (by decide) hr rfl (by rfl) (a_cons (s_var (pv 1)) (a_cons s_int a_nil)))) a_nil))))))
    (ss_cons (c_set (ps_set (i := 5) sc_law.nd rfl (by first | exact Or.inl rfl | exact Or.inr rfl) (s_own h_is_ir (by decide) hr rfl (by rfl) (a_cons (s_var (pv 9)) a_nil))))
    (ss_one (c_if (ps_if (PW.pt (t_or (t_not (t_truth (s_blt (pe_callB call_isi (by rfl) B.isinstance (by decide +kernel) (a_cons (s_var (pv 5)) (a_cons (s_ty (by rfl) B.bool (by decide +kernel)) a_nil))) on_isi))) (t_or1 (t_cmp (op_neA hr.units) o2_ne (s_var (pv 5)) (s_own h_law_is_program (by decide) hr rfl (by rfl) (a_cons (s_var (pv 9)) a_nil)) (nomark _))))) (ss_one (c_ret (ps_ret s_bl))) ss_nil)))))))
    (ss_one (c_ret (ps_ret s_bl))))))))))))
end
end My

set_option Elab.async false
set_option linter.all false
set_option maxRecDepth 100000
set_option maxHeartbeats 4000000
namespace My
open PySem PySem.Spec PyProof.Rows L2 Mi
local macro_rules | `(tactic| walk_at "mi") => `(tactic| try simp only [↓w_vr, ↓w_cn, ↓w_e2, ↓w_tup, ↓w_lst, ↓w_aN, ↓w_aC, ↓w_call, ↓w_B, ↓w_M, ↓w_oN, ↓w_oS, ↓w_sl, ↓w_B1, ↓w_Tl, ↓w_An, ↓w_Or, ↓w_No, ↓w_eAn, ↓w_eO, ↓w_eNo, ↓w_eNeg, ↓w_eIf, ↓w_ch, ↓w_Dn, ↓w_lRg1, ↓w_trg1, ↓w_yes, ↓ws_seq, ↓ws_skip, ↓ws_set, ↓ws_ex, ↓ws_ret, ↓ws_retN, ↓ws_bk, ↓ws_ct, ↓ws_if, ↓ws_asg, ↓ws_dput, ↓ws_daug, ↓ws_lput, ↓ws_aug, ↓wp_some, ↓wp_none, ↓wp_if, ↓wp_map, ↓wf_ok, ↓asI_int, ↓asBl_bl,
  List.getElem?_cons_zero, List.getElem?_cons_succ, List.set_cons_zero, List.set_cons_succ, opI_int, addD_int, mulD_int, intB_int, intB_bl, absB_int, lenB_rol, lenB_tup, ixD_rol, ixD_tup, atI0, atI1, atI2, atI3, atI4, asgT_n, tyQ, appQ, slQ, slD_tup, wipeE, List.length_cons, List.length_nil, List.length_map, true_and, and_true, decide_true, ↓reduceIte, bl_t, List.map_cons, List.map_nil, List.cons_append, List.nil_append, List.replicate_succ, List.replicate_zero, Nat.reduceAdd, Nat.reduceLeDiff, Int.reduceLT, Int.reduceLE, Int.reduceNeg, Int.reduceSub])
/-- the draws: ints from 0 to 996 -/
def Dr (ns : List Int) : Prop := ∀ n ∈ ns, 0 ≤ n ∧ n < 997
theorem Dr.snoc {ns : List Int} {n : Int} (h : Dr ns) (h0 : 0 ≤ n) (h1 : n < 997) : Dr (ns ++ [n]) := fun m hm => by
  rcases List.mem_append.mp hm with z | z
  · exact h m z
  · rw [List.mem_singleton.mp z]; exact ⟨h0, h1⟩
theorem mapI_snoc (ns : List Int) (n : Int) : ns.map D.int ++ [D.int n] = (ns ++ [n]).map D.int := by rw [List.map_append]; rfl
theorem cut_ints (ns : List Int) (lo hi : Option Int) : ∃ ms : List Int, Mi.cutD (ns.map D.int) lo hi = ms.map D.int ∧ (∀ m ∈ ms, m ∈ ns) ∧ ms.length ≤ ns.length := by
  unfold Mi.cutD
  rw [← List.map_drop, ← List.map_take]
  exact ⟨_, rfl, fun m hm => List.mem_of_mem_drop (i := HT.sIx (ns.map D.int).length 0 lo) (List.mem_of_mem_take hm), by rw [List.length_take, List.length_drop]; omega⟩
theorem draws_ok (ns : List Int) (hl : ns.length ≤ 63) (many : Int) (hm : 0 ≤ many ∧ many ≤ 100000) (s : S) : WF (F_law_draws [.rol (ns.map D.int), .int many] s) fun d s' => ∃ ms a, Dr ms ∧ ms.length ≤ 200000 ∧ d = .ref (s ++ [O.lst a]).length ∧ s' = (s ++ [O.lst a]) ++ [O.lst (ms.map D.int)] := by
  unfold F_law_draws
  refine (wf_fn (by rfl)).mpr ?_
  unfold g_law_draws
  walk_at "mi"
  refine ws_forR (fun i env s1 => ∃ (mixed : Int) (x4 x5 x6 x7 : Option D) (ms : List Int), env = [some (.rol (ns.map D.int)), some (.int many), some (.ref s.length), some (.int mixed), x4, x5, x6, x7] ∧ 0 ≤ mixed ∧ mixed < 65537 ∧ s1 = s ++ [.lst (ms.map D.int)] ∧ Dr ms ∧ ms.length ≤ 62 * i) ns.length ?_ ?_ ?_
  · walk_at "mi"
    exact ⟨_, rfl, by omega, by omega, by omega, 7, none, none, none, none, [], rfl, by decide, by decide, rfl, fun _ h => (by cases h), Nat.zero_le _⟩
  · rintro i env s1 hi ⟨mixed, x4, x5, x6, x7, ms, rfl, h1, h2, rfl, hd, hlen⟩
    have hg : atI (ns.map D.int) (i : Int) = some (.int ns[i]) := atI_nat' (by rw [List.getElem?_map, List.getElem?_eq_getElem hi]; rfl)
    generalize ns[i] = cell0 at hg
    unfold g_law_draws_b2
    walk_at "mi"
    simp only [hg]
    walk_at "mi"
    generalize (if cell0 < 0 then -cell0 else cell0) = cell
    refine ⟨.inr (by decide), ?_⟩
    generalize hmx : (mixed * 48271 + cell % 1000003 + (i : Int)) % 65537 = mx
    have b1 : 0 ≤ mx := by rw [← hmx]; exact Int.emod_nonneg _ (by decide)
    have b2 : mx < 65537 := by rw [← hmx]; exact Int.emod_lt_of_pos _ (by decide)
    have hen : ms.length < 16777216 := by omega
    refine ⟨by decide, ?_⟩
    have inner : ∀ (B C : Mi.Env → S → Prop) (ms' : List Int) (rest : Int) (x7 : Option D), Dr ms' → ms'.length ≤ 62 * i + 2 →
        WS (sFor (T.n 7) (iRg1 (cn (D.int 60))) g_law_draws_b1) [some (.rol (ns.map D.int)), some (.int many), some (.ref s.length), some (.int mx), some (.int (i : Int)), some (.int cell), some (.int rest), x7] (s ++ [.lst (ms'.map D.int)])
          (fun env s1 => ∃ (mixed : Int) (x4 x5 x6 x7 : Option D) (ms : List Int), env = [some (.rol (ns.map D.int)), some (.int many), some (.ref s.length), some (.int mixed), x4, x5, x6, x7] ∧ 0 ≤ mixed ∧ mixed < 65537 ∧ s1 = s ++ [.lst (ms.map D.int)] ∧ Dr ms ∧ ms.length ≤ 62 * (i + 1))
          (fun d s' => ∃ ms a, Dr ms ∧ ms.length ≤ 200000 ∧ d = .ref (s ++ [O.lst a]).length ∧ s' = (s ++ [O.lst a]) ++ [O.lst (ms.map D.int)]) B C := by
      intro B C ms' rest x7 hd' hlen'
      refine ws_forR (fun j env s1 => ∃ (rest : Int) (x7 : Option D) (ms : List Int), env = [some (.rol (ns.map D.int)), some (.int many), some (.ref s.length), some (.int mx), some (.int (i : Int)), some (.int cell), some (.int rest), x7] ∧ s1 = s ++ [.lst (ms.map D.int)] ∧ Dr ms ∧ ms.length ≤ 62 * i + 2 + j) 60 ?_ ?_ ?_
      · walk_at "mi"
        exact ⟨_, rfl, by decide, by decide, rfl, rest, x7, ms', rfl, rfl, hd', hlen'⟩
      · rintro j env s1 hj ⟨rest, x7, ms, rfl, rfl, hd, hlen⟩
        unfold g_law_draws_b1
        walk_at "mi"
        split
        · rename_i hr
          have hen : ms.length < 16777216 := by omega
          refine ⟨hen, rest / 997, _, ms ++ [rest % 997], rfl, by rw [mapI_snoc], hd.snoc (Int.emod_nonneg _ (by decide)) (Int.emod_lt_of_pos _ (by decide)), ?_⟩
          rw [List.length_append, List.length_singleton]; omega
        · exact ⟨rest, _, ms, rfl, rfl, hd, by omega⟩
      · rintro env s1 ⟨rest, x7, ms, rfl, rfl, hd, hlen⟩
        exact ⟨mx, _, _, _, _, ms, rfl, b1, b2, rfl, hd, by omega⟩
    split
    · exact inner _ _ ms cell x7 hd (by omega)
    · refine ⟨hen, .inr (by decide), ?_⟩
      refine ⟨by rw [List.length_append, List.length_map, List.length_singleton]; omega, ?_⟩
      rw [mapI_snoc, mapI_snoc]
      exact inner _ _ _ 0 x7 ((hd.snoc (Int.emod_nonneg _ (by decide)) (Int.emod_lt_of_pos _ (by decide))).snoc (Int.emod_nonneg _ (by decide)) (Int.emod_lt_of_pos _ (by decide))) (by rw [List.length_append, List.length_append, List.length_singleton, List.length_singleton]; omega)
  · rintro env s1 ⟨mixed, x4, x5, x6, x7, ms, rfl, h1, h2, rfl, hd, hlen⟩
    refine ws_forR (fun j env s1 => ∃ (mixed : Int) (x4 : Option D) (ms : List Int), env = [some (.rol (ns.map D.int)), some (.int many), some (.ref s.length), some (.int mixed), x4, x5, x6, x7] ∧ s1 = s ++ [.lst (ms.map D.int)] ∧ Dr ms ∧ ms.length ≤ 62 * ns.length + j) many.toNat ?_ ?_ ?_
    · walk_at "mi"
      exact ⟨_, rfl, hm.1, by omega, rfl, mixed, x4, ms, rfl, rfl, hd, hlen⟩
    · rintro j env s1 hj ⟨mixed, x4, ms, rfl, rfl, hd, hlen⟩
      unfold g_law_draws_b3
      walk_at "mi"
      refine ⟨.inr (by decide), by omega, _, _, ms ++ [_], rfl, by rw [mapI_snoc], hd.snoc (Int.emod_nonneg _ (by decide)) (Int.emod_lt_of_pos _ (by decide)), ?_⟩
      rw [List.length_append, List.length_singleton]; omega
    · rintro env s1 ⟨mixed, x4, ms, rfl, rfl, hd, hlen⟩
      walk_at "mi"
      obtain ⟨ms2, e1, h3, h4⟩ := cut_ints ms none (some many)
      rw [e1]
      exact ⟨ms2, _, fun m hm => hd m (h3 m hm), by omega, rfl, rfl⟩
end My

set_option Elab.async false
set_option linter.all false
set_option maxRecDepth 100000
set_option maxHeartbeats 4000000
namespace My
open PySem PySem.Spec PyProof.Rows L2 Mi
local macro_rules | `(tactic| walk_at "mi") => `(tactic| try simp only [↓w_vr, ↓w_cn, ↓w_e2, ↓w_tup, ↓w_lst, ↓w_aN, ↓w_aC, ↓w_call, ↓w_B, ↓w_M, ↓w_oN, ↓w_oS, ↓w_sl, ↓w_B1, ↓w_Tl, ↓w_An, ↓w_Or, ↓w_No, ↓w_eAn, ↓w_eO, ↓w_eNo, ↓w_eNeg, ↓w_eIf, ↓w_ch, ↓w_Dn, ↓w_lRg1, ↓w_trg1, ↓w_yes, ↓ws_seq, ↓ws_skip, ↓ws_set, ↓ws_ex, ↓ws_ret, ↓ws_retN, ↓ws_bk, ↓ws_ct, ↓ws_if, ↓ws_asg, ↓ws_dput, ↓ws_daug, ↓ws_lput, ↓ws_aug, ↓wp_some, ↓wp_none, ↓wp_if, ↓wp_map, ↓wf_ok, ↓asI_int, ↓asBl_bl,
  List.getElem?_cons_zero, List.getElem?_cons_succ, List.set_cons_zero, List.set_cons_succ, opI_int, addD_int, mulD_int, intB_int, intB_bl, absB_int, lenB_rol, lenB_tup, ixD_rol, ixD_tup, atI0, atI1, atI2, atI3, atI4, asgT_n, tyQ, appQ, slQ, slD_tup, wipeE, List.length_cons, List.length_nil, List.length_map, true_and, and_true, decide_true, ↓reduceIte, bl_t, List.map_cons, List.map_nil, List.cons_append, List.nil_append, List.replicate_succ, List.replicate_zero, Nat.reduceAdd, Nat.reduceLeDiff, Int.reduceLT, Int.reduceLE, Int.reduceNeg, Int.reduceSub])
theorem dctAt_ref {p : Nat} {kvs : List (Key × D)} {s : S} (h : s[p]? = some (.dct kvs)) : dctAt (.ref p) s = some kvs := by simp only [dctAt, h]
theorem dget_k {p : Nat} {kvs : List (Key × D)} {s : S} {k : D} {k' : Key} (h : s[p]? = some (.dct kvs)) (hk : keyD k = some k') : dgetD (.ref p) k s = (valD kvs k').map fun v => (v, s) := by simp only [dgetD, dctAt_ref h, hk]
theorem dput_k {p : Nat} {kvs : List (Key × D)} {s : S} {k v : D} {k' : Key} (h : s[p]? = some (.dct kvs)) (hk : keyD k = some k') : dputD (.ref p) k v s = if kvs.length < 16777216 then some (s.set p (.dct (putD kvs k' v))) else none := by simp only [dputD, dctAt_ref h, hk]
theorem din_k {p : Nat} {kvs : List (Key × D)} {s : S} {k : D} {k' : Key} {neg : Bool} (h : s[p]? = some (.dct kvs)) (hk : keyD k = some k') : dinD neg k (.ref p) s = some (.bl (if neg then !(valD kvs k').isSome else (valD kvs k').isSome), s) := by simp only [dinD, dctAt_ref h, hk]
def wK (pd : Nat) (a : Int) : List (Key × D) := [(Sum.inr ("draws" : Str), D.ref pd), (Sum.inr ("at" : Str), D.int a)]
theorem wk_at (pd : Nat) (a : Int) : valD (wK pd a) (.inr "at") = some (.int a) := by kernel_rfl
theorem wk_dr (pd : Nat) (a : Int) : valD (wK pd a) (.inr "draws") = some (.ref pd) := by kernel_rfl
theorem wk_put (pd : Nat) (a b : Int) : putD (wK pd a) (.inr "at") (.int b) = wK pd b := by kernel_rfl
/-- the draws' state at pw, pd -/
def Wd (pw pd : Nat) (s : S) : Prop := ∃ (a : Int) (ms : List Int), 0 ≤ a ∧ s[pw]? = some (.dct (wK pd a)) ∧ s[pd]? = some (.lst (ms.map D.int)) ∧ Dr ms ∧ ms.length ≤ 200000 ∧ pw ≠ pd
/-- all that stood, but for pw, stands -/
def Fr (pw : Nat) (s s' : S) : Prop := s.length ≤ s'.length ∧ ∀ p, p < s.length → p ≠ pw → s'[p]? = s[p]?
theorem Fr.refl (pw : Nat) (s : S) : Fr pw s s := ⟨Nat.le_refl _, fun _ _ _ => rfl⟩
theorem Fr.trans {pw : Nat} {s s1 s2 : S} (a : Fr pw s s1) (b : Fr pw s1 s2) : Fr pw s s2 := ⟨Nat.le_trans a.1 b.1, fun p h n => (b.2 p (Nat.lt_of_lt_of_le h a.1) n).trans (a.2 p h n)⟩
theorem Fr.app (pw : Nat) (s t : S) : Fr pw s (s ++ t) := ⟨by rw [List.length_append]; omega, fun p h _ => List.getElem?_append_left h⟩
theorem Fr.get {pw : Nat} {s s' : S} (a : Fr pw s s') {p : Nat} {o : O} (h : s[p]? = some o) (n : p ≠ pw) : s'[p]? = some o := by rw [a.2 p (List.getElem?_eq_some_iff.mp h).1 n]; exact h
theorem Wd.app {pw pd : Nat} {s : S} (h : Wd pw pd s) (t : S) : Wd pw pd (s ++ t) := by
  obtain ⟨a, ms, h0, h1, h2, h3, h4, h5⟩ := h
  exact ⟨a, ms, h0, old_get h1, old_get h2, h3, h4, h5⟩
theorem Wd.lt {pw pd : Nat} {s : S} (h : Wd pw pd s) : pw < s.length ∧ pd < s.length := by
  obtain ⟨a, ms, h0, h1, h2, h3, h4, h5⟩ := h
  exact ⟨(List.getElem?_eq_some_iff.mp h1).1, (List.getElem?_eq_some_iff.mp h2).1⟩
theorem Wd.set {pw pd : Nat} {s : S} (h : Wd pw pd s) {q : Nat} {o : O} (h1 : q ≠ pw) (h2 : q ≠ pd) : Wd pw pd (s.set q o) := by
  obtain ⟨a, ms, h0, e1, e2, h3, h4, h5⟩ := h
  exact ⟨a, ms, h0, by rw [List.getElem?_set_ne h1]; exact e1, by rw [List.getElem?_set_ne h2]; exact e2, h3, h4, h5⟩
theorem next_ok {pw pd : Nat} {s : S} {n : Int} {Q : D → S → Prop} (h : Wd pw pd s) (hn : 0 < n) (k : ∀ (i : Int) (s' : S), 0 ≤ i → i < n → Wd pw pd s' → Fr pw s s' → Q (.int i) s') : WF (F_law_next [.ref pw, .int n] s) Q := by
  obtain ⟨a, ms, h0, h1, h2, h3, h4, h5⟩ := h
  have l1 : pw < s.length := (List.getElem?_eq_some_iff.mp h1).1
  unfold F_law_next
  refine (wf_fn (by rfl)).mpr ?_
  unfold g_law_next
  walk_at "mi"
  rw [dget_k h1 (by rfl), wk_at]
  walk_at "mi"
  rw [dput_k h1 (by rfl), wk_put]
  have g1 : (s.set pw (.dct (wK pd (a + 1))))[pw]? = some (.dct (wK pd (a + 1))) := List.getElem?_set_self l1
  have g2 : (s.set pw (.dct (wK pd (a + 1))))[pd]? = some (.lst (ms.map D.int)) := by rw [List.getElem?_set_ne h5]; exact h2
  generalize hs : s.set pw (.dct (wK pd (a + 1))) = s1 at g1 g2
  have w1 : Wd pw pd s1 := ⟨a + 1, ms, by omega, g1, g2, h3, h4, h5⟩
  have f1 : Fr pw s s1 := by
    rw [← hs]
    exact ⟨by rw [List.length_set]; exact Nat.le_refl _, fun p _ np => List.getElem?_set_ne (fun z => np z.symm)⟩
  walk_at "mi"
  refine ⟨(by show (2 : Nat) < 16777216; omega), ?_⟩
  rw [dget_k g1 (by rfl), wk_at]
  walk_at "mi"
  rw [dget_k g1 (by rfl), wk_dr]
  walk_at "mi"
  rw [lenB_ref g2]
  walk_at "mi"
  split
  · exact k 0 s1 (by decide) hn w1 f1
  · rename_i hc
    rw [dget_k g1 (by rfl), wk_dr]
    walk_at "mi"
    rw [dget_k g1 (by rfl), wk_at]
    walk_at "mi"
    have hlt : a.toNat < ms.length := by omega
    have ha : a + 1 - 1 = (a.toNat : Int) := by omega
    rw [ixD_ref g2, ha, atI_nat' (d := .int ms[a.toNat]) (by rw [List.getElem?_map, List.getElem?_eq_getElem hlt]; rfl)]
    walk_at "mi"
    exact ⟨hn, k _ s1 (Int.emod_nonneg _ (by omega)) (Int.emod_lt_of_pos _ hn) w1 f1⟩
end My

set_option Elab.async false
set_option linter.all false
set_option maxRecDepth 100000
set_option maxHeartbeats 4000000
namespace My
open PySem PySem.Spec PyProof.Rows L2 Mi
local macro_rules | `(tactic| walk_at "mi") => `(tactic| try simp only [↓w_vr, ↓w_cn, ↓w_e2, ↓w_tup, ↓w_lst, ↓w_aN, ↓w_aC, ↓w_call, ↓w_B, ↓w_M, ↓w_oN, ↓w_oS, ↓w_sl, ↓w_B1, ↓w_Tl, ↓w_An, ↓w_Or, ↓w_No, ↓w_eAn, ↓w_eO, ↓w_eNo, ↓w_eNeg, ↓w_eIf, ↓w_ch, ↓w_Dn, ↓w_lRg1, ↓w_trg1, ↓w_yes, ↓ws_seq, ↓ws_skip, ↓ws_set, ↓ws_ex, ↓ws_ret, ↓ws_retN, ↓ws_bk, ↓ws_ct, ↓ws_if, ↓ws_asg, ↓ws_dput, ↓ws_daug, ↓ws_lput, ↓ws_aug, ↓wp_some, ↓wp_none, ↓wp_if, ↓wp_map, ↓wf_ok, ↓asI_int, ↓asBl_bl,
  List.getElem?_cons_zero, List.getElem?_cons_succ, List.set_cons_zero, List.set_cons_succ, opI_int, addD_int, mulD_int, intB_int, intB_bl, absB_int, lenB_rol, lenB_tup, ixD_rol, ixD_tup, atI0, atI1, atI2, atI3, atI4, asgT_n, tyQ, appQ, slQ, slD_tup, wipeE, List.length_cons, List.length_nil, List.length_map, true_and, and_true, decide_true, ↓reduceIte, bl_t, List.map_cons, List.map_nil, List.cons_append, List.nil_append, List.replicate_succ, List.replicate_zero, Nat.reduceAdd, Nat.reduceLeDiff, Int.reduceLT, Int.reduceLE, Int.reduceNeg, Int.reduceSub])
inductive Row where
  | const (d n : Int) | copy (d a : Int) | op (g : Str) (d a b : Int) | select (d c a b : Int) | load (d i a : Int) | store (i a v : Int)
  | out (a : Int) | jump (t : Int) | branch (a t u : Int) | stop (a : Int)
def Row.enc : Row → D
  | .const d n => .tup [.str "const", .int d, .int n]
  | .copy d a => .tup [.str "copy", .int d, .int a]
  | .op g d a b => .tup [.str "op", .str g, .int d, .int a, .int b]
  | .select d c a b => .tup [.str "select", .int d, .int c, .int a, .int b]
  | .load d i a => .tup [.str "load", .int d, .int i, .int a]
  | .store i a v => .tup [.str "store", .int i, .int a, .int v]
  | .out a => .tup [.str "out", .int a]
  | .jump t => .tup [.str "jump", .int t]
  | .branch a t u => .tup [.str "branch", .int a, .int t, .int u]
  | .stop a => .tup [.str "stop", .int a]
def Row.reads : Row → List Int
  | .copy _ a => [a]
  | .op _ _ a b => [a, b]
  | .select _ c a b => [c, a, b]
  | .load _ _ a => [a]
  | .store _ a v => [a, v]
  | .out a => [a]
  | .branch a _ _ => [a]
  | .stop a => [a]
  | _ => []
def Row.writes : Row → Int
  | .const d _ => d
  | .copy d _ => d
  | .op _ d _ _ => d
  | .select d _ _ _ => d
  | .load d _ _ => d
  | _ => -1

def Signs : List Str := ["+", "-", "*", "&", "|", "^", "<<", ">>", "==", "<", "<=", "div", "mod"]
abbrev Rg (a : Int) : Prop := 0 ≤ a ∧ a < 9
/-- a drawn row -/
def Row.Ok (A B : Int) : Row → Prop
  | .const d n => Rg d ∧ 0 ≤ n ∧ n < 4294967296
  | .copy d a => Rg d ∧ Rg a
  | .op g d a b => g ∈ Signs ∧ Rg d ∧ Rg a ∧ Rg b
  | .select d c a b => Rg d ∧ Rg c ∧ Rg a ∧ Rg b
  | .load d i a => Rg d ∧ (0 ≤ i ∧ i < A) ∧ Rg a
  | .store i a v => (0 ≤ i ∧ i < A) ∧ Rg a ∧ Rg v
  | .out a => Rg a
  | .jump t => 0 ≤ t ∧ t < B
  | .branch a t u => Rg a ∧ (0 ≤ t ∧ t < B) ∧ (0 ≤ u ∧ u < B)
  | .stop a => Rg a
def Row.last : Row → Bool
  | .jump _ => true
  | .branch _ _ _ => true
  | .stop _ => true
  | _ => false
theorem row_ok {pw pd : Nat} {s : S} {A B : Int} {l : Bool} {Q : D → S → Prop} (hW0 : Wd pw pd s) (hA : 0 ≤ A) (hB : 0 < B) (k : ∀ (r : Row) (s' : S), r.Ok A B → r.last = l → Wd pw pd s' → Fr pw s s' → Q r.enc s') : WF (F_law_row [.ref pw, .int A, .int B, .bl l] s) Q := by
  unfold F_law_row
  refine (wf_fn (by rfl)).mpr ?_
  unfold g_law_row
  walk_at "mi"
  refine next_ok hW0 (by omega) ?_
  intro k1 s1 a1 b1 hW1 hF1
  walk_at "mi"
  refine next_ok hW1 (by omega) ?_
  intro k2 s2 a2 b2 hW2 hF2
  walk_at "mi"
  refine next_ok hW2 (by omega) ?_
  intro k3 s3 a3 b3 hW3 hF3
  walk_at "mi"
  have tl : ∀ s, WP (truD (.bl l) s) = WP (some l) := fun _ => rfl
  simp only [tl]
  walk_at "mi"
  cases l with
  | true =>
    simp only [↓reduceIte]
    walk_at "mi"
    refine next_ok hW3 (by omega) ?_
    intro k4 s4 a4 b4 hW4 hF4
    walk_at "mi"
    refine next_ok hW4 (by omega) ?_
    intro k5 s5 a5 b5 hW5 hF5
    walk_at "mi"
    refine next_ok hW5 (by omega) ?_
    intro k6 s6 a6 b6 hW6 hF6
    walk_at "mi"
    refine next_ok (hW6.app _) (by omega) ?_
    intro k7 s7 a7 b7 hW7 hF7
    have g7 := hF7.get (top_get) (Nat.ne_of_gt hW6.lt.1)
    have fin : Fr pw s s7 := hF1.trans (hF2.trans (hF3.trans (hF4.trans (hF5.trans (hF6.trans ((Fr.app _ _ _).trans hF7))))))
    rw [ixD_ref g7]
    obtain rfl | rfl | rfl : k7 = 0 ∨ k7 = 1 ∨ k7 = 2 := by omega
    · walk_at "mi"
      exact k (.jump k4) s7 ⟨a4, b4⟩ rfl hW7 fin
    · walk_at "mi"
      exact k (.branch k2 k5 k6) s7 ⟨⟨a2, b2⟩, ⟨a5, b5⟩, a6, b6⟩ rfl hW7 fin
    · walk_at "mi"
      exact k (.stop k2) s7 ⟨a2, b2⟩ rfl hW7 fin
  | false =>
    simp only [Bool.false_eq_true, ↓reduceIte]
    walk_at "mi"
    refine next_ok hW3 (by omega) ?_
    intro k4 s4 a4 b4 hW4 hF4
    walk_at "mi"
    have f4 : Fr pw s s4 := hF1.trans (hF2.trans (hF3.trans hF4))
    split
    · rename_i c1
      refine next_ok hW4 (by omega) ?_
      intro k5 s5 a5 b5 hW5 hF5
      walk_at "mi"
      refine next_ok hW5 (by omega) ?_
      intro k6 s6 a6 b6 hW6 hF6
      walk_at "mi"
      refine next_ok hW6 (by omega) ?_
      intro k7 s7 a7 b7 hW7 hF7
      walk_at "mi"
      refine ⟨.inr (by decide), ?_⟩
      refine next_ok hW7 (by omega) ?_
      intro k8 s8 a8 b8 hW8 hF8
      walk_at "mi"
      refine next_ok (hW8.app _) (by omega) ?_
      intro k9 s9 a9 b9 hW9 hF9
      have g9 := hF9.get (top_get) (Nat.ne_of_gt hW8.lt.1)
      have fin : Fr pw s s9 := f4.trans (hF5.trans (hF6.trans (hF7.trans (hF8.trans ((Fr.app _ _ _).trans hF9)))))
      rw [ixD_ref g9]
      obtain rfl | rfl | rfl | rfl : k9 = 0 ∨ k9 = 1 ∨ k9 = 2 ∨ k9 = 3 := by omega
      · walk_at "mi"
        exact k (.const k1 (k5)) s9 ⟨⟨a1, b1⟩, by omega, by omega⟩ rfl hW9 fin
      · walk_at "mi"
        exact k (.const k1 (4294967295 - k6)) s9 ⟨⟨a1, b1⟩, by omega, by omega⟩ rfl hW9 fin
      · walk_at "mi"
        exact k (.const k1 (k7 * 4771117)) s9 ⟨⟨a1, b1⟩, by omega, by omega⟩ rfl hW9 fin
      · walk_at "mi"
        exact k (.const k1 (31 + k8)) s9 ⟨⟨a1, b1⟩, by omega, by omega⟩ rfl hW9 fin
    · rename_i c1
      by_cases c2 : k4 = 2
      · have e : eqD (.int k4) (.int 2) s4 = some (.bl true, s4) := by subst c2; rfl
        rw [e]
        walk_at "mi"
        exact k (.copy k1 k2) s4 ⟨⟨a1, b1⟩, a2, b2⟩ rfl hW4 f4
      · have e : eqD (.int k4) (.int 2) s4 = some (.bl false, s4) := by
          show some (D.bl (decide (k4 = 2)), s4) = _
          rw [decide_eq_false c2]
        rw [e]
        walk_at "mi"
        simp only [Bool.false_eq_true, ↓reduceIte]
        walk_at "mi"
        split
        · rename_i c3
          refine next_ok (hW4.app _) (by omega) ?_
          intro k5 s5 a5 b5 hW5 hF5
          have g5 := hF5.get (top_get) (Nat.ne_of_gt hW4.lt.1)
          have fin : Fr pw s s5 := f4.trans ((Fr.app _ _ _).trans hF5)
          rw [ixD_ref g5]
          have hsg : ∃ g ∈ Signs, atI [D.str "+", D.str "-", D.str "*", D.str "&", D.str "|", D.str "^", D.str "<<", D.str ">>", D.str "==", D.str "<", D.str "<=", D.str "div", D.str "mod"] k5 = some (D.str g) := by
            obtain ⟨j, rfl⟩ := Int.eq_ofNat_of_zero_le a5
            have hl : j < Signs.length := by show j < 13; omega
            refine ⟨Signs[j], List.getElem_mem hl, ?_⟩
            refine atI_nat' ?_
            show (Signs.map D.str)[j]? = _
            rw [List.getElem?_map, List.getElem?_eq_getElem hl]
            rfl
          obtain ⟨g, hg, eg⟩ := hsg
          rw [eg]
          walk_at "mi"
          exact k (.op g k1 k2 k3) s5 ⟨hg, ⟨a1, b1⟩, ⟨a2, b2⟩, a3, b3⟩ rfl hW5 fin
        · rename_i c3
          by_cases c4 : k4 = 6
          · have e : eqD (.int k4) (.int 6) s4 = some (.bl true, s4) := by subst c4; rfl
            rw [e]
            walk_at "mi"
            refine next_ok hW4 (by omega) ?_
            intro k5 s5 a5 b5 hW5 hF5
            walk_at "mi"
            exact k (.select k1 k5 k2 k3) s5 ⟨⟨a1, b1⟩, ⟨a5, b5⟩, ⟨a2, b2⟩, a3, b3⟩ rfl hW5 (f4.trans hF5)
          · have e : eqD (.int k4) (.int 6) s4 = some (.bl false, s4) := by
              show some (D.bl (decide (k4 = 6)), s4) = _
              rw [decide_eq_false c4]
            rw [e]
            walk_at "mi"
            simp only [Bool.false_eq_true, ↓reduceIte]
            walk_at "mi"
            split
            · rename_i c5
              split
              · rename_i c6
                refine next_ok hW4 c6 ?_
                intro k5 s5 a5 b5 hW5 hF5
                walk_at "mi"
                refine next_ok hW5 c6 ?_
                intro k6 s6 a6 b6 hW6 hF6
                walk_at "mi"
                have fin : Fr pw s (s6 ++ [O.lst [D.tup [D.str "load", D.int k1, D.int k5, D.int k2], D.tup [D.str "store", D.int k6, D.int k2, D.int k3]]]) := f4.trans (hF5.trans (hF6.trans (Fr.app _ _ _)))
                rw [ixD_ref top_get]
                obtain rfl | rfl : k4 = 7 ∨ k4 = 8 := by omega
                · walk_at "mi"
                  exact k (.load k1 k5 k2) _ ⟨⟨a1, b1⟩, ⟨a5, b5⟩, a2, b2⟩ rfl (hW6.app _) fin
                · walk_at "mi"
                  exact k (.store k6 k2 k3) _ ⟨⟨a6, b6⟩, ⟨a2, b2⟩, a3, b3⟩ rfl (hW6.app _) fin
              · walk_at "mi"
                exact k (.out k2) s4 ⟨a2, b2⟩ rfl hW4 f4
            · walk_at "mi"
              exact k (.out k2) s4 ⟨a2, b2⟩ rfl hW4 f4
end My

set_option Elab.async false
set_option linter.all false
set_option maxRecDepth 100000
set_option maxHeartbeats 4000000
namespace My
open PySem PySem.Spec PyProof.Rows L2 Mi
local macro_rules | `(tactic| walk_at "mi") => `(tactic| try simp only [↓w_vr, ↓w_cn, ↓w_e2, ↓w_tup, ↓w_lst, ↓w_aN, ↓w_aC, ↓w_call, ↓w_B, ↓w_M, ↓w_oN, ↓w_oS, ↓w_sl, ↓w_B1, ↓w_Tl, ↓w_An, ↓w_Or, ↓w_No, ↓w_eAn, ↓w_eO, ↓w_eNo, ↓w_eNeg, ↓w_eIf, ↓w_ch, ↓w_Dn, ↓w_lRg1, ↓w_trg1, ↓w_yes, ↓ws_forS, ↓ws_forG, ↓w_lcS, ↓w_lcG, ↓w_dcS, ↓w_dcG, items_tup, items_rol, ↓ws_seq, ↓ws_skip, ↓ws_set, ↓ws_ex, ↓ws_ret, ↓ws_retN, ↓ws_bk, ↓ws_ct, ↓ws_if, ↓ws_asg, ↓ws_dput, ↓ws_daug, ↓ws_lput, ↓ws_aug, ↓wp_some, ↓wp_none, ↓wp_if, ↓wp_map, ↓wf_ok, ↓asI_int, ↓asBl_bl,
  List.getElem?_cons_zero, List.getElem?_cons_succ, List.set_cons_zero, List.set_cons_succ, opI_int, addD_int, mulD_int, intB_int, intB_bl, absB_int, lenB_rol, lenB_tup, ixD_rol, ixD_tup, atI0, atI1, atI2, atI3, atI4, asgT_n, tyQ, appQ, slQ, slD_tup, wipeE, List.length_cons, List.length_nil, List.length_map, true_and, and_true, decide_true, ↓reduceIte, bl_t, List.map_cons, List.map_nil, List.cons_append, List.nil_append, List.replicate_succ, List.replicate_zero, Nat.reduceAdd, Nat.reduceLeDiff, Int.reduceLT, Int.reduceLE, Int.reduceNeg, Int.reduceSub])
/-- an array: its name, length, whether it is secret -/
structure Ar where
  name : Str
  len : Int
  sec : Bool
def lab (b : Bool) : Str := if b then "secret" else "public"
def Ar.enc (a : Ar) : D := .tup [.str a.name, .int a.len, .str (lab a.sec)]
def encB (b : List Row) : D := .tup (b.map Row.enc)
structure Pg where
  arrays : List Ar
  params : Int
  blocks : List (List Row)
def Pg.enc (p : Pg) : D := .tup [.tup (p.arrays.map Ar.enc), .int p.params, .tup (p.blocks.map encB)]
/-- a drawn block -/
def BlkOk' (A B : Int) (b : List Row) : Prop := ∃ (rs : List Row) (r : Row), b = rs ++ [r] ∧ r.last = true ∧ r.Ok A B ∧ rs.length ≤ 7 ∧ ∀ x ∈ rs, x.last = false ∧ x.Ok A B
structure Pg.Ok (p : Pg) : Prop where
  na : p.arrays.length ≤ 3
  al : ∀ a ∈ p.arrays, 1 ≤ a.len ∧ a.len ≤ 11 ∧ PyData.strOk a.name = true
  pr : 0 ≤ p.params ∧ p.params < 5
  nb : 1 ≤ p.blocks.length ∧ p.blocks.length ≤ 5
  bl : ∀ b ∈ p.blocks, BlkOk' p.arrays.length p.blocks.length b
theorem program_ok {pw pd : Nat} {s : S} {Q : D → S → Prop} (hW0 : Wd pw pd s) (k : ∀ (p : Pg) (s' : S), p.Ok → Wd pw pd s' → Fr pw s s' → Q p.enc s') : WF (F_law_program [.ref pw] s) Q := by
  unfold F_law_program
  refine (wf_fn (by rfl)).mpr ?_
  unfold g_law_program
  walk_at "mi"
  refine next_ok hW0 (by omega) ?_
  intro k1 s1 a1 b1 hW1 hF1
  walk_at "mi"
  refine ⟨by omega, ?_⟩
  refine cs_rng (fun i ys s1 => Wd pw pd s1 ∧ Fr pw s s1 ∧ ∃ as : List Ar, ys = as.map Ar.enc ∧ as.length = i ∧ ∀ a ∈ as, 1 ≤ a.len ∧ a.len ≤ 11 ∧ PyData.strOk a.name = true) (by omega) ⟨hW1, hF1, [], rfl, rfl, fun _ h => by cases h⟩ ?_ ?_
  · rintro i ys s2 hi ⟨hW2, hF2, as, rfl, hl, ha⟩
    walk_at "mi"
    have hk : (i : Int).natAbs.log2 < 1920 ∧ ("a" : Str).length + (toString (i : Int) : Str).length ≤ 16777216 ∧ PyData.strOk (("a" : Str) ++ (toString (i : Int) : Str)) = true := by
      obtain rfl | rfl | rfl : i = 0 ∨ i = 1 ∨ i = 2 := by omega
      all_goals (refine ⟨?_, ?_, ?_⟩ <;> decide +kernel)
    rw [strB_int, if_pos hk.1]
    walk_at "mi"
    rw [addD_str, if_pos hk.2.1]
    walk_at "mi"
    refine next_ok hW2 (by omega) ?_
    intro k3 s3 a3 b3 hW3 hF3
    walk_at "mi"
    refine next_ok (hW3.app _) (by omega) ?_
    intro k4 s4 a4 b4 hW4 hF4
    walk_at "mi"
    have g4 := hF4.get (top_get) (Nat.ne_of_gt hW3.lt.1)
    rw [ixD_ref g4]
    have fin : Fr pw s s4 := hF2.trans (hF3.trans ((Fr.app _ _ _).trans hF4))
    obtain rfl | rfl : k4 = 0 ∨ k4 = 1 := by omega
    · walk_at "mi"
      exact ⟨hW4, fin, as ++ [⟨_, 1 + k3, false⟩], by rw [List.map_append]; rfl, by rw [List.length_append, hl]; rfl, fun a h => (List.mem_append.mp h).elim (ha a) fun h => by rw [List.mem_singleton.mp h]; exact ⟨by show 1 ≤ 1 + k3; omega, by show 1 + k3 ≤ 11; omega, hk.2.2⟩⟩
    · walk_at "mi"
      exact ⟨hW4, fin, as ++ [⟨_, 1 + k3, true⟩], by rw [List.map_append]; rfl, by rw [List.length_append, hl]; rfl, fun a h => (List.mem_append.mp h).elim (ha a) fun h => by rw [List.mem_singleton.mp h]; exact ⟨by show 1 ≤ 1 + k3; omega, by show 1 + k3 ≤ 11; omega, hk.2.2⟩⟩
  · rintro ys s2 ⟨hW2, hF2, as, rfl, hl, ha⟩
    rw [tupB_ref top_get]
    walk_at "mi"
    refine next_ok (hW2.app _) (by omega) ?_
    intro k3 s3 a3 b3 hW3 hF3
    walk_at "mi"
    have hF3' : Fr pw s s3 := hF2.trans ((Fr.app _ _ _).trans hF3)
    clear hF3
    -- the blocks
    have hq : s3.length ≠ pw := Nat.ne_of_gt hW3.lt.1
    have hq2 : s3.length ≠ pd := Nat.ne_of_gt hW3.lt.2
    refine ⟨by omega, ?_⟩
    have hA : (as.length : Int) = k1.toNat := by rw [hl]
    refine fs_rng (fun i env s4 => ∃ (x2 x5 x6 : Option D) (bs : List (List Row)), env = [some (.ref pw), some (.tup (as.map Ar.enc)), x2, some (.int (1 + k3)), some (.ref s3.length), x5, x6] ∧ Wd pw pd s4 ∧ Fr pw s s4 ∧ s3.length < s4.length ∧ s4[s3.length]? = some (.lst (bs.map encB)) ∧ bs.length = i ∧ ∀ b ∈ bs, BlkOk' as.length (1 + k3) b)
      ⟨_, _, _, [], rfl, hW3.app _, hF3'.trans (Fr.app _ _ _), by rw [List.length_append, List.length_singleton]; omega, top_get, rfl, fun _ h => by cases h⟩ ?_ ?_
    · rintro i env s4 hi ⟨x2, x5, x6, bs, rfl, hW4, hF4, hlt, hg, hlb, hb⟩
      unfold g_law_program_b1
      walk_at "mi"
      refine next_ok hW4 (by omega) ?_
      intro k5 s5 a5 b5 hW5 hF5
      walk_at "mi"
      refine ⟨by omega, ?_⟩
      have hg5 := hF5.get hg hq
      refine cs_rng (fun j ys s6 => Wd pw pd s6 ∧ Fr pw s5 s6 ∧ ∃ rs : List Row, ys = rs.map Row.enc ∧ rs.length = j ∧ ∀ r ∈ rs, r.last = false ∧ r.Ok as.length (1 + k3)) (by omega) ⟨hW5, Fr.refl _ _, [], rfl, rfl, fun _ h => by cases h⟩ ?_ ?_
      · rintro j ys s6 hj ⟨hW6, hF6, rs, rfl, hlr, hr⟩
        walk_at "mi"
        refine row_ok hW6 (by omega) (by omega) ?_
        intro r s7 hr7 hl7 hW7 hF7
        exact ⟨hW7, hF6.trans hF7, rs ++ [r], by rw [List.map_append]; rfl, by rw [List.length_append, hlr]; rfl, fun x h => (List.mem_append.mp h).elim (hr x) fun h => by rw [List.mem_singleton.mp h]; exact ⟨hl7, hr7⟩⟩
      · rintro ys s6 ⟨hW6, hF6, rs, rfl, hlr, hr⟩
        walk_at "mi"
        have hg6 : (s6 ++ [O.lst (rs.map Row.enc)])[s3.length]? = some (.lst (bs.map encB)) := old_get (hF6.get hg5 hq)
        rw [ty_ref hg6]
        walk_at "mi"
        refine row_ok (hW6.app _) (by omega) (by omega) ?_
        intro r s7 hr7 hl7 hW7 hF7
        walk_at "mi"
        have n6 : s6.length ≠ pw := Nat.ne_of_gt hW6.lt.1
        have g6 : s7[s6.length]? = some (O.lst (rs.map Row.enc)) := hF7.get top_get n6
        have e7 : addD (.ref s6.length) (.ref s7.length) (s7 ++ [O.lst [r.enc]]) = some (.ref (s7 ++ [O.lst [r.enc]]).length, (s7 ++ [O.lst [r.enc]]) ++ [O.lst (rs.map Row.enc ++ [r.enc])]) := by
          have h1 : (s7 ++ [O.lst [r.enc]])[s6.length]? = some (O.lst (rs.map Row.enc)) := old_get g6
          have h2 : (s7 ++ [O.lst [r.enc]])[s7.length]? = some (O.lst [r.enc]) := top_get
          simp only [addD, h1, h2]
          rw [if_pos (by rw [List.length_map, hlr, List.length_singleton]; omega)]
        rw [e7]
        walk_at "mi"
        rw [tupB_ref top_get]
        walk_at "mi"
        generalize ht : (s7 ++ [O.lst [r.enc]]) ++ [O.lst (rs.map Row.enc ++ [r.enc])] = s8
        have hW8 : Wd pw pd s8 := by rw [← ht]; exact (hW7.app _).app _
        have hF8 : Fr pw s7 s8 := by rw [← ht]; exact (Fr.app _ _ _).trans (Fr.app _ _ _)
        have g8 : s8[s3.length]? = some (.lst (bs.map encB)) := hF8.get (hF7.get hg6 hq) hq
        rw [app_ref g8, List.length_map, hlb, if_pos (by omega)]
        walk_at "mi"
        have l8 : s3.length < s8.length := (List.getElem?_eq_some_iff.mp g8).1
        have fr : Fr pw s (s8.set s3.length (.lst (bs.map encB ++ [D.tup (rs.map Row.enc ++ [r.enc])]))) := by
          have f0 : Fr pw s s8 := hF4.trans (hF5.trans (hF6.trans ((Fr.app _ _ _).trans (hF7.trans hF8))))
          refine ⟨by rw [List.length_set]; exact f0.1, fun p hp np => ?_⟩
          rw [List.getElem?_set_ne (fun z => ?_)]
          · exact f0.2 p hp np
          · have := hF3'.1
            omega
        refine ⟨_, _, _, bs ++ [rs ++ [r]], rfl, hW8.set hq hq2, fr, by rw [List.length_set]; exact l8, ?_, by rw [List.length_append, hlb]; rfl, fun b h => (List.mem_append.mp h).elim (hb b) fun h => ?_⟩
        · rw [List.getElem?_set_self l8, List.map_append]
          show some (O.lst (_ ++ [D.tup _])) = some (O.lst (_ ++ [D.tup ((rs ++ [r]).map Row.enc)]))
          rw [List.map_append]; rfl
        · rw [List.mem_singleton.mp h]
          exact ⟨rs, r, rfl, hl7, hr7, by omega, hr⟩
    · rintro env s4 ⟨x2, x5, x6, bs, rfl, hW4, hF4, hlt, hg, hlb, hb⟩
      walk_at "mi"
      refine next_ok hW4 (by omega) ?_
      intro k5 s5 a5 b5 hW5 hF5
      walk_at "mi"
      rw [tupB_ref (hF5.get hg hq)]
      walk_at "mi"
      refine k ⟨as, k5, bs⟩ s5 ⟨by show as.length ≤ 3; omega, ha, ⟨a5, b5⟩, by show 1 ≤ bs.length ∧ bs.length ≤ 5; omega, fun b h => ?_⟩ hW5 (hF4.trans hF5)
      have := hb b h
      have e1 : (1 + k3 : Int) = (bs.length : Int) := by omega
      rw [e1] at this
      exact this
end My

set_option Elab.async false
set_option linter.all false
set_option maxRecDepth 100000
set_option maxHeartbeats 4000000
namespace My
open PySem PySem.Spec PyProof.Rows L2 Mi
local macro_rules | `(tactic| walk_at "mi") => `(tactic| try simp only [↓w_vr, ↓w_cn, ↓w_e2, ↓w_tup, ↓w_lst, ↓w_aN, ↓w_aC, ↓w_call, ↓w_B, ↓w_M, ↓w_oN, ↓w_oS, ↓w_sl, ↓w_B1, ↓w_Tl, ↓w_An, ↓w_Or, ↓w_No, ↓w_eAn, ↓w_eO, ↓w_eNo, ↓w_eNeg, ↓w_eIf, ↓w_ch, ↓w_Dn, ↓w_lRg1, ↓w_trg1, ↓w_yes, ↓ws_forS, ↓ws_forG, ↓w_lcS, ↓w_lcG, ↓w_dcS, ↓w_dcG, items_tup, items_rol, ↓ws_seq, ↓ws_skip, ↓ws_set, ↓ws_ex, ↓ws_ret, ↓ws_retN, ↓ws_bk, ↓ws_ct, ↓ws_if, ↓ws_asg, ↓ws_dput, ↓ws_daug, ↓ws_lput, ↓ws_aug, ↓wp_some, ↓wp_none, ↓wp_if, ↓wp_map, ↓wf_ok, ↓asI_int, ↓asBl_bl,
  List.getElem?_cons_zero, List.getElem?_cons_succ, List.set_cons_zero, List.set_cons_succ, opI_int, addD_int, mulD_int, intB_int, intB_bl, absB_int, lenB_rol, lenB_tup, ixD_rol, ixD_tup, atI0, atI1, atI2, atI3, atI4, asgT_n, tyQ, appQ, slQ, slD_tup, wipeE, List.length_cons, List.length_nil, List.length_map, true_and, and_true, decide_true, ↓reduceIte, bl_t, List.map_cons, List.map_nil, List.cons_append, List.nil_append, List.replicate_succ, List.replicate_zero, Nat.reduceAdd, Nat.reduceLeDiff, Int.reduceLT, Int.reduceLE, Int.reduceNeg, Int.reduceSub, eqD_str, eqD_int, neD_int, ofStr_eq, String.reduceEq, decide_false, decide_true, in_tup, flatD_str, flatD_int, List.all_cons, List.all_nil, List.any_cons, List.any_nil, eqF_str, Bool.and_true, Bool.and_self, Bool.or_false, Bool.or_true, Bool.true_or, Bool.false_or, Bool.false_eq_true, Bool.not_true, Bool.not_false, in_top, ixD_top, tupB_top, items_top, lenB_top, tru_bl, asgT_2, asgT_3, ↓w_pN, ↓w_pC, ↓w_Dct, ixD_tup])

def W32 (a : Int) : Prop := 0 ≤ a ∧ a < 4294967296
theorem word_ok {pw pd : Nat} {s : S} {Q : D → S → Prop} (h : Wd pw pd s) (k : ∀ (i : Int) (s' : S), W32 i → Wd pw pd s' → Fr pw s s' → Q (.int i) s') : WF (F_law_word [.ref pw] s) Q := by
  unfold F_law_word
  refine (wf_fn (by rfl)).mpr ?_
  unfold g_law_word
  walk_at "mi"
  refine next_ok h (by omega) ?_
  intro k1 s1 a1 b1 hW1 hF1
  walk_at "mi"
  refine next_ok hW1 (by omega) ?_
  intro k2 s2 a2 b2 hW2 hF2
  walk_at "mi"
  refine next_ok hW2 (by omega) ?_
  intro k3 s3 a3 b3 hW3 hF3
  walk_at "mi"
  refine next_ok hW3 (by omega) ?_
  intro k4 s4 a4 b4 hW4 hF4
  walk_at "mi"
  refine ⟨by omega, ?_⟩
  refine next_ok (hW4.app _) (by omega) ?_
  intro k5 s5 a5 b5 hW5 hF5
  walk_at "mi"
  rw [ixD_ref (hF5.get top_get (Nat.ne_of_gt hW4.lt.1))]
  have fin : Fr pw s s5 := hF1.trans (hF2.trans (hF3.trans (hF4.trans ((Fr.app _ _ _).trans hF5))))
  obtain rfl | rfl | rfl | rfl : k5 = 0 ∨ k5 = 1 ∨ k5 = 2 ∨ k5 = 3 := by omega
  all_goals
    walk_at "mi"
    exact k _ _ (by unfold W32; omega) hW5 fin
/-! ### applying a sign -/
def appl (g : Str) (a b : Int) : Int :=
  if g = "<<" then a * 2 ^ (b % 32).toNat % 4294967296 else
  if g = ">>" then a / 2 ^ (b % 32).toNat else
  if g = "div" then (if b = 0 then 0 else a / b) else
  if g = "mod" then (if b = 0 then a else a - b * (a / b)) else
  if g = "==" then (if a = b then 1 else 0) else
  if g = "<" then (if a < b then 1 else 0) else
  if g = "<=" then (if a ≤ b then 1 else 0) else
  if g = "&" then Builtin.bitAnd a b else
  if g = "|" then Builtin.bitOr a b else
  if g = "^" then Builtin.bitXor a b else
  if g = "+" then (a + b) % 4294967296 else
  if g = "-" then (a - b) % 4294967296 else a * b % 4294967296
theorem sh_pos (n : Nat) (h : n < 32) : (0 : Int) < 2 ^ n ∧ ((2 : Int) ^ n) ≤ 2147483648 := by
  have : n < 32 := h
  clear h
  revert n
  decide +kernel
theorem log_lt {i : Int} (h0 : 0 ≤ i) (h : i < 18446744073709551616) : i.natAbs.log2 < 9000 := by
  by_cases c : i = 0
  · subst c; decide
  · have : i.natAbs.log2 < 64 := (Nat.log2_lt (by omega)).mpr (by omega)
    omega
theorem shift_ok {g : Str} {a b : Int} {s : S} {Q : D → S → Prop} (hg : g = "<<" ∨ g = ">>") (ha : W32 a) (hb : W32 b) : WF (F_shifted [.str g, .int a, .int b] s) Q ↔ Q (.int (appl g a b)) s := by
  unfold F_shifted
  refine (wf_fn (by rfl)).trans ?_
  unfold g_shifted
  unfold W32 at ha hb
  have hk := sh_pos (b % 32).toNat (by omega)
  have h32 : 0 ≤ b % 32 ∧ b % 32 ≤ 1000000 := by omega
  have hl1 : ((2 : Int) ^ (b % 32).toNat).natAbs.log2 < 9000 := log_lt (by omega) (by omega)
  have c1 : (0 ≤ b % 32 ∧ b % 32 ≤ 1000000 ∧ (1 : Int).natAbs < 2 ^ 64) := ⟨h32.1, h32.2, by decide⟩
  have c2 : (-2 ^ 64 < a ∧ a < 2 ^ 64 ∨ -2 ^ 64 < (2 : Int) ^ (b % 32).toNat ∧ (2 : Int) ^ (b % 32).toNat < 2 ^ 64) := by left; omega
  rcases hg with rfl | rfl
  · simp only [appl, ofStr_eq, String.reduceEq, ↓reduceIte]
    walk_at "mi"
    simp only [c1, and_self, and_true, true_and, Int.one_mul, c2]
    unfold dv_WORD
    walk_at "mi"
  · simp only [appl, ofStr_eq, String.reduceEq, ↓reduceIte]
    walk_at "mi"
    simp only [c1, and_self, and_true, true_and, Int.one_mul, hk.1, hl1]
theorem div_ok {g : Str} {a b : Int} {s : S} {Q : D → S → Prop} (hg : g = "div" ∨ g = "mod") (ha : W32 a) (hb : W32 b) : WF (F_divided [.str g, .int a, .int b] s) Q ↔ Q (.int (appl g a b)) s := by
  unfold F_divided
  refine (wf_fn (by rfl)).trans ?_
  unfold g_divided
  unfold W32 at ha hb
  by_cases c : b = 0
  · subst c
    rcases hg with rfl | rfl <;>
    · simp only [appl, ofStr_eq, String.reduceEq, ↓reduceIte]
      walk_at "mi"
  · have hl1 : b.natAbs.log2 < 9000 := log_lt (by omega) (by omega)
    have hp : 0 < b := by omega
    have c2 : (-2 ^ 64 < b ∧ b < 2 ^ 64 ∨ -2 ^ 64 < a / b ∧ a / b < 2 ^ 64) := by left; omega
    rcases hg with rfl | rfl <;>
    · simp only [appl, ofStr_eq, String.reduceEq, ↓reduceIte]
      walk_at "mi"
      simp only [c, hp, hl1, c2, and_self, true_and, decide_false, Bool.not_false, ↓reduceIte]
theorem apply_ok {g : Str} {a b : Int} {s : S} {Q : D → S → Prop} (hg : g ∈ Signs) (ha : W32 a) (hb : W32 b) : WF (F_apply [.str g, .int a, .int b] s) Q ↔ Q (.int (appl g a b)) s := by
  unfold F_apply
  refine (wf_fn (by rfl)).trans ?_
  unfold g_apply
  have c2 : (-2 ^ 64 < a ∧ a < 2 ^ 64 ∨ -2 ^ 64 < b ∧ b < 2 ^ 64) := by left; unfold W32 at ha; omega
  unfold Signs at hg
  simp only [List.mem_cons, List.not_mem_nil, or_false] at hg
  rcases hg with rfl | rfl | rfl | rfl | rfl | rfl | rfl | rfl | rfl | rfl | rfl | rfl | rfl
  all_goals
    walk_at "mi"
    first
    | exact shift_ok (Or.inl rfl) ha hb
    | exact shift_ok (Or.inr rfl) ha hb
    | exact div_ok (Or.inl rfl) ha hb
    | exact div_ok (Or.inr rfl) ha hb
    | (simp only [appl, ofStr_eq, String.reduceEq, ↓reduceIte]; done)
    | (simp only [appl, ofStr_eq, String.reduceEq, ↓reduceIte, decide_eq_true_eq]; done)
    | (simp only [appl, ofStr_eq, String.reduceEq, ↓reduceIte, c2, true_and]; unfold dv_WORD; walk_at "mi"; done)
/-! ### the law's own -/
def bitsN (c : Nat → Bool) : Nat → Nat
  | 0 => 0
  | n + 1 => bitsN c n + if c n = true then 2 ^ n else 0
theorem bitsN_mod (N : Nat) : ∀ n, bitsN (fun k => N.testBit k) n = N % 2 ^ n
  | 0 => by rw [Nat.pow_zero, Nat.mod_one]; rfl
  | n + 1 => by
    show bitsN (fun k => N.testBit k) n + (if N.testBit n = true then 2 ^ n else 0) = _
    rw [bitsN_mod N n, Nat.mod_pow_succ, Nat.testBit_eq_decide_div_mod_eq]
    have h : N / 2 ^ n % 2 < 2 := Nat.mod_lt _ (by decide)
    by_cases c : N / 2 ^ n % 2 = 1
    · rw [if_pos (decide_eq_true c), c, Nat.mul_one]
    · have : N / 2 ^ n % 2 = 0 := by omega
      rw [if_neg (by simp [c]), this, Nat.mul_zero]
theorem bit_at (A n : Nat) : ((A : Int) / (1 * 2 ^ ((n : Nat) : Int).toNat)) % 2 = if A.testBit n = true then 1 else 0 := by
  rw [Int.toNat_natCast, Int.one_mul]
  have e : ((A : Int) / 2 ^ n) % 2 = ((A / 2 ^ n % 2 : Nat) : Int) := by
    rw [Int.natCast_emod, Int.natCast_ediv, Int.natCast_pow]; rfl
  rw [e, Nat.testBit_eq_decide_div_mod_eq]
  have h : A / 2 ^ n % 2 < 2 := Nat.mod_lt _ (by decide)
  by_cases c : A / 2 ^ n % 2 = 1
  · rw [if_pos (decide_eq_true c), c]; rfl
  · have : A / 2 ^ n % 2 = 0 := by omega
    rw [if_neg (by simp [c]), this]; rfl
def bop (g : Str) (x y : Bool) : Bool := if g = "&" then x && y else if g = "|" then x || y else x != y
def nop (g : Str) (x y : Nat) : Nat := if g = "&" then x &&& y else if g = "|" then x ||| y else x ^^^ y
theorem nop_bit {g : Str} {x y k : Nat} : (nop g x y).testBit k = bop g (x.testBit k) (y.testBit k) := by
  unfold nop bop
  split
  · rw [Nat.testBit_and]
  · split
    · rw [Nat.testBit_or]
    · rw [Nat.testBit_xor]
theorem bits_or (c d : Nat → Bool) : ∀ n, bitsN (fun k => c k && d k) n + bitsN (fun k => c k || d k) n = bitsN c n + bitsN d n
  | 0 => rfl
  | n + 1 => by
    have ih := bits_or c d n
    simp only [bitsN]
    by_cases hc : c n = true <;> by_cases hd : d n = true <;> simp [hc, hd] <;> omega
theorem bits_xor (c d : Nat → Bool) : ∀ n, 2 * bitsN (fun k => c k && d k) n + bitsN (fun k => c k != d k) n = bitsN c n + bitsN d n
  | 0 => rfl
  | n + 1 => by
    have ih := bits_xor c d n
    simp only [bitsN]
    by_cases hc : c n = true <;> by_cases hd : d n = true <;> simp [hc, hd] <;> omega
theorem bits_whole {N : Nat} (h : N < 2 ^ 32) : bitsN (fun k => N.testBit k) 32 = N := by rw [bitsN_mod, Nat.mod_eq_of_lt h]
theorem nop_lt {g : Str} {x y : Nat} (hx : x < 2 ^ 32) (hy : y < 2 ^ 32) : nop g x y < 2 ^ 32 := by
  unfold nop
  split
  · exact Nat.and_lt_two_pow _ hy
  · split
    · exact Nat.or_lt_two_pow hx hy
    · exact Nat.xor_lt_two_pow hx hy
theorem nop_bits {g : Str} {A B : Nat} (hA : A < 2 ^ 32) (hB : B < 2 ^ 32) : bitsN (fun k => bop g (A.testBit k) (B.testBit k)) 32 = nop g A B := by
  have : (fun k => bop g (A.testBit k) (B.testBit k)) = fun k => (nop g A B).testBit k := by funext k; rw [nop_bit]
  rw [this, bits_whole (nop_lt hA hB)]
theorem nop_appl {g : Str} {A B : Nat} (hg : g = "&" ∨ g = "|" ∨ g = "^") (hA : A < 2 ^ 32) (hB : B < 2 ^ 32) : ((nop g A B : Nat) : Int) = appl g A B := by
  have e1 : Builtin.bitAnd (A : Int) (B : Int) = ((A &&& B : Nat) : Int) := by rw [bitAnd_pp (by omega) (by omega), Int.toNat_natCast, Int.toNat_natCast]
  have ha := bits_whole hA
  have hb := bits_whole hB
  have hand := nop_bits (g := "&") hA hB
  rw [show nop "&" A B = A &&& B from rfl, show (fun k => bop "&" (A.testBit k) (B.testBit k)) = fun k => A.testBit k && B.testBit k from rfl] at hand
  rcases hg with rfl | rfl | rfl
  · simp only [appl, nop, ofStr_eq, String.reduceEq, ↓reduceIte]
    exact e1.symm
  · simp only [appl, nop, ofStr_eq, String.reduceEq, ↓reduceIte]
    rw [bitOr_and, e1]
    have hor := nop_bits (g := "|") hA hB
    have e2 : nop "|" A B = A ||| B := by simp only [nop, ofStr_eq, String.reduceEq, ↓reduceIte]
    have e3 : (fun k => bop "|" (A.testBit k) (B.testBit k)) = fun k => A.testBit k || B.testBit k := by funext k; simp only [bop, ofStr_eq, String.reduceEq, ↓reduceIte]
    rw [e2, e3] at hor
    have := bits_or (fun k => A.testBit k) (fun k => B.testBit k) 32
    rw [hand, hor, ha, hb] at this
    omega
  · simp only [appl, nop, ofStr_eq, String.reduceEq, ↓reduceIte]
    rw [bitXor_and, e1]
    have hor := nop_bits (g := "^") hA hB
    have e2 : nop "^" A B = A ^^^ B := by simp only [nop, ofStr_eq, String.reduceEq, ↓reduceIte]
    have e3 : (fun k => bop "^" (A.testBit k) (B.testBit k)) = fun k => A.testBit k != B.testBit k := by funext k; simp only [bop, ofStr_eq, String.reduceEq, ↓reduceIte]
    rw [e2, e3] at hor
    have := bits_xor (fun k => A.testBit k) (fun k => B.testBit k) 32
    rw [hand, hor, ha, hb] at this
    omega
theorem cast_step (x i : Nat) : ((x + 2 ^ i : Nat) : Int) = (x : Int) + 1 * 2 ^ ((i : Nat) : Int).toNat := by
  rw [Int.toNat_natCast, Int.one_mul, Int.natCast_add, Int.natCast_pow]; rfl
theorem bits_ok {g : Str} {A B : Nat} {s : S} {Q : D → S → Prop} (hg : g = "&" ∨ g = "|" ∨ g = "^") (hA : A < 2 ^ 32) (hB : B < 2 ^ 32) (k : Q (.int (nop g A B : Nat)) s) : WF (F_law_bits [.str g, .int (A : Int), .int (B : Int)] s) Q := by
  unfold F_law_bits
  refine (wf_fn (by rfl)).mpr ?_
  unfold g_law_bits
  walk_at "mi"
  refine fs_rng (n := 32) (fun i env s1 => s1 = s ∧ ∃ (x4 x5 x6 : Option D), env = [some (.str g), some (.int A), some (.int B), some (.int (bitsN (fun k => bop g (A.testBit k) (B.testBit k)) i : Nat)), x4, x5, x6]) ⟨rfl, _, _, _, rfl⟩ ?_ ?_
  · rintro i env s1 hi ⟨rfl, x4, x5, x6, rfl⟩
    unfold g_law_bits_b1
    have hk := sh_pos i hi
    have h1 : (0 : Int) ≤ i ∧ (i : Int) ≤ 1000000 ∧ (1 : Int).natAbs < 2 ^ 64 := ⟨by omega, by omega, by decide⟩
    have hp : (0 : Int) < 1 * 2 ^ ((i : Nat) : Int).toNat := by rw [Int.toNat_natCast]; omega
    have hl : (1 * (2 : Int) ^ ((i : Nat) : Int).toNat).natAbs.log2 < 9000 := by rw [Int.toNat_natCast]; exact log_lt (by omega) (by omega)
    walk_at "mi"
    simp only [h1, and_self, true_and, hp, hl, bit_at]
    show _
    rcases hg with rfl | rfl | rfl
    all_goals
      cases hx : A.testBit i <;> cases hy : B.testBit i <;>
      · simp only [bop, ofStr_eq, String.reduceEq, ↓reduceIte, Bool.false_eq_true, Int.reduceAdd, Int.reduceEq, Int.reduceLT, Int.reduceLE, decide_true, decide_false, Bool.not_true, Bool.not_false]
        walk_at "mi"
        simp only [bitsN, hx, hy, Bool.and_self, Bool.or_self, Bool.and_false, Bool.false_and, Bool.true_or, Bool.or_true, Bool.and_true, Bool.false_eq_true, ↓reduceIte, Nat.add_zero, cast_step, bne_self_eq_false, Bool.bne_false, Bool.bne_true, Bool.not_true, Bool.not_false]
        exact ⟨_, _, _, rfl⟩
  · rintro env s1 ⟨rfl, x4, x5, x6, rfl⟩
    walk_at "mi"
    rw [nop_bits hA hB]
    exact k
theorem bits_ok' {g : Str} {a b : Int} {s : S} {Q : D → S → Prop} (hg : g = "&" ∨ g = "|" ∨ g = "^") (ha : W32 a) (hb : W32 b) (k : Q (.int (appl g a b)) s) : WF (F_law_bits [.str g, .int a, .int b] s) Q := by
  obtain ⟨A, rfl⟩ : ∃ A : Nat, a = A := ⟨a.toNat, by unfold W32 at ha; omega⟩
  obtain ⟨B, rfl⟩ : ∃ B : Nat, b = B := ⟨b.toNat, by unfold W32 at hb; omega⟩
  unfold W32 at ha hb
  refine bits_ok hg (by omega) (by omega) ?_
  rw [nop_appl hg (by omega) (by omega)]
  exact k
theorem shl_step (a : Int) (i : Nat) : a * 2 ^ i % 4294967296 * 2 % 4294967296 = a * 2 ^ (i + 1) % 4294967296 := by
  rw [Int.pow_succ, ← Int.mul_assoc]
  omega
theorem shr_step (a : Int) (i : Nat) : a / 2 ^ i / 2 = a / 2 ^ (i + 1) := by
  rw [Int.pow_succ, Int.ediv_ediv_of_nonneg (by exact Int.le_of_lt (Int.pow_pos (by decide)))]
theorem lawapp_ok {g : Str} {a b : Int} {s : S} {Q : D → S → Prop} (hg : g ∈ Signs) (ha : W32 a) (hb : W32 b) (k : ∀ s', Gr s s' → Q (.int (appl g a b)) s') : WF (F_law_applied [.str g, .int a, .int b] s) Q := by
  unfold F_law_applied
  refine (wf_fn (by rfl)).mpr ?_
  unfold g_law_applied
  have ha' := ha
  have hb' := hb
  unfold W32 at ha hb
  unfold Signs at hg
  simp only [List.mem_cons, List.not_mem_nil, or_false] at hg
  have c2 : (-2 ^ 64 < a ∧ a < 2 ^ 64 ∨ -2 ^ 64 < b ∧ b < 2 ^ 64) := by left; omega
  have g2 : ∀ x y : O, Gr s (s ++ [x] ++ [y]) := fun x y => (Gr.app _ _).trans (Gr.app _ _)
  have g3 : ∀ x y z : O, Gr s (s ++ [x] ++ [y] ++ [z]) := fun x y z => (g2 x y).trans (Gr.app _ _)
  have g4 : ∀ x y z v : O, Gr s (s ++ [x] ++ [y] ++ [z] ++ [v]) := fun x y z v => (g3 x y z).trans (Gr.app _ _)
  have hl : (Int.natAbs 4294967296).log2 < 9000 := log_lt (by omega) (by omega)
  have cW : ∀ x : Int, (-2 ^ 64 < (4294967296 : Int) ∧ (4294967296 : Int) < 2 ^ 64 ∨ -2 ^ 64 < x ∧ x < 2 ^ 64) := fun x => by left; omega
  rcases hg with rfl | rfl | rfl | rfl | rfl | rfl | rfl | rfl | rfl | rfl | rfl | rfl | rfl
  all_goals simp only [appl, ofStr_eq, String.reduceEq, ↓reduceIte] at k
  · walk_at "mi"
    refine ⟨hl, cW _, ?_⟩
    rw [← Int.emod_def]
    exact k _ (g3 _ _ _)
  · walk_at "mi"
    refine ⟨hl, cW _, ?_⟩
    rw [← Int.emod_def, Int.add_emod_right]
    exact k _ (g3 _ _ _)
  · walk_at "mi"
    refine ⟨c2, hl, cW _, ?_⟩
    rw [← Int.emod_def]
    exact k _ (g3 _ _ _)
  · walk_at "mi"
    exact bits_ok' (Or.inl rfl) ha' hb' (by simpa only [appl, ofStr_eq, String.reduceEq, ↓reduceIte] using k _ (Gr.app _ _))
  · walk_at "mi"
    exact bits_ok' (Or.inr (Or.inl rfl)) ha' hb' (by simpa only [appl, ofStr_eq, String.reduceEq, ↓reduceIte] using k _ (Gr.app _ _))
  · walk_at "mi"
    exact bits_ok' (Or.inr (Or.inr rfl)) ha' hb' (by simpa only [appl, ofStr_eq, String.reduceEq, ↓reduceIte] using k _ (Gr.app _ _))
  -- <<
  · walk_at "mi"
    refine ⟨by omega, ?_⟩
    refine fs_rng (fun i env s1 => Gr s s1 ∧ ∃ (x4 : Option D) (v : Int), env = [some (.str "<<"), some (.int a), some (.int b), some (.int v), x4, none, none, none] ∧ v = a * 2 ^ i % 4294967296) ⟨Gr.app _ _, _, _, rfl, by rw [Int.pow_zero, Int.mul_one]; omega⟩ ?_ ?_
    · rintro i env s1 hi ⟨hG, x4, v, rfl, rfl⟩
      unfold g_law_applied_b1
      walk_at "mi"
      refine ⟨by right; omega, hG, _, _, rfl, ?_⟩
      exact shl_step a i
    · rintro env s1 ⟨hG, x4, v, rfl, rfl⟩
      walk_at "mi"
      exact k _ hG
  · walk_at "mi"
    refine ⟨by omega, ?_⟩
    refine fs_rng (fun i env s1 => Gr s s1 ∧ ∃ (x4 : Option D) (v : Int), env = [some (.str ">>"), some (.int a), some (.int b), some (.int v), x4, none, none, none] ∧ v = a / 2 ^ i) ⟨Gr.app _ _, _, _, rfl, by rw [Int.pow_zero, Int.ediv_one]⟩ ?_ ?_
    · rintro i env s1 hi ⟨hG, x4, v, rfl, rfl⟩
      unfold g_law_applied_b2
      walk_at "mi"
      refine ⟨hG, _, _, rfl, ?_⟩
      exact shr_step a i
    · rintro env s1 ⟨hG, x4, v, rfl, rfl⟩
      walk_at "mi"
      exact k _ hG
  -- ==
  · walk_at "mi"
    split
    · rename_i h; rw [if_pos h] at k; exact k _ (g2 _ _)
    · rename_i h; rw [if_neg h] at k; exact k _ (g2 _ _)
  · walk_at "mi"
    split
    · rename_i h; rw [if_pos h] at k; exact k _ (g2 _ _)
    · rename_i h; rw [if_neg h] at k; exact k _ (g2 _ _)
  · walk_at "mi"
    by_cases h : b < a
    · rw [if_neg (by omega)] at k
      simp only [h, decide_true, Bool.not_true, Bool.false_eq_true, ↓reduceIte]
      exact k _ (g2 _ _)
    · rw [if_pos (by omega)] at k
      simp only [h, decide_false, Bool.not_false, ↓reduceIte]
      exact k _ (g2 _ _)
  -- div
  all_goals
    walk_at "mi"
    by_cases h : b = 0
    · rw [if_pos h] at k ⊢
      exact k _ (g4 _ _ _ _)
    · rw [if_neg h] at k ⊢
      have hp : 0 < b := by omega
      refine fs_rng (n := 32) (fun i env s1 => Gr s s1 ∧ ∃ (x0 x4 : Option D) (qv rv : Int), env = [x0, some (.int a), some (.int b), none, x4, none, some (.int qv), some (.int rv)] ∧ x0 = some (.str _) ∧ a = qv * b + rv ∧ 0 ≤ rv ∧ rv < b * 2 ^ (32 - i)) ⟨g3 _ _ _, _, _, _, _, rfl, rfl, by omega, ha.1, ?_⟩ ?_ ?_
      · rw [Nat.sub_zero]
        have : (2 : Int) ^ 32 = 4294967296 := by decide
        rw [this]
        omega
      · rintro i env s1 hi ⟨hG, x0, x4, qv, rv, rfl, rfl, e, h0, h1⟩
        unfold g_law_applied_b3
        have hu := sh_pos (31 - i) (by omega)
        have h5 : (31 - (i : Int)).toNat = 31 - i := by omega
        have h6 : 32 - i = (31 - i) + 1 := by omega
        have h7 : 32 - (i + 1) = 31 - i := by omega
        rw [h6, Int.pow_succ, ← Int.mul_assoc] at h1
        have c5 : 0 ≤ 31 - (i : Int) ∧ 31 - (i : Int) ≤ 1000000 ∧ (1 : Int).natAbs < 2 ^ 64 := ⟨by omega, by omega, by decide⟩
        walk_at "mi"
        simp only [c5, and_self, true_and, h5, Int.one_mul, h7]
        generalize hU : (2 : Int) ^ (31 - i) = u at *
        refine ⟨by left; omega, ?_⟩
        by_cases c : b * u ≤ rv
        · simp only [c, ↓reduceIte]
          refine ⟨by left; omega, hG, _, _, _, _, rfl, rfl, ?_, by omega, by omega⟩
          rw [Int.add_mul, Int.mul_comm u b]
          omega
        · simp only [c, ↓reduceIte]
          exact ⟨hG, _, _, _, _, rfl, rfl, e, h0, by omega⟩
      · rintro env s1 ⟨hG, x0, x4, qv, rv, rfl, rfl, e, h0, h1⟩
        rw [Nat.sub_self, Int.pow_zero, Int.mul_one] at h1
        have ed : a / b = qv ∧ a % b = rv := (Int.ediv_emod_unique hp).mpr ⟨by rw [Int.mul_comm b qv]; omega, h0, h1⟩
        walk_at "mi"
        first
        | (rw [ed.1] at k; exact k _ (hG.trans (Gr.app _ _)))
        | (rw [← Int.emod_def, ed.2] at k; exact k _ (hG.trans (Gr.app _ _)))
end My

set_option Elab.async false
set_option linter.all false
set_option maxRecDepth 100000
set_option maxHeartbeats 4000000
namespace My
open PySem PySem.Spec PyProof.Rows L2 Mi
theorem isi_non_int {s : S} : isiB [.non, .ty "int"] s = some (.bl false, s) := by kernel_rfl
theorem isi_non_bool {s : S} : isiB [.non, .ty "bool"] s = some (.bl false, s) := by kernel_rfl
theorem isi_non_str {s : S} : isiB [.non, .ty "str"] s = some (.bl false, s) := by kernel_rfl
theorem isi_non_tuple {s : S} : isiB [.non, .ty "tuple"] s = some (.bl false, s) := by kernel_rfl
theorem isi_bl_int {b : Bool} {s : S} : isiB [.bl b, .ty "int"] s = some (.bl true, s) := by kernel_rfl
theorem isi_bl_bool {b : Bool} {s : S} : isiB [.bl b, .ty "bool"] s = some (.bl true, s) := by kernel_rfl
theorem isi_bl_str {b : Bool} {s : S} : isiB [.bl b, .ty "str"] s = some (.bl false, s) := by kernel_rfl
theorem isi_bl_tuple {b : Bool} {s : S} : isiB [.bl b, .ty "tuple"] s = some (.bl false, s) := by kernel_rfl
theorem isi_int_int {i : Int} {s : S} : isiB [.int i, .ty "int"] s = some (.bl true, s) := by kernel_rfl
theorem isi_int_bool {i : Int} {s : S} : isiB [.int i, .ty "bool"] s = some (.bl false, s) := by kernel_rfl
theorem isi_int_str {i : Int} {s : S} : isiB [.int i, .ty "str"] s = some (.bl false, s) := by kernel_rfl
theorem isi_int_tuple {i : Int} {s : S} : isiB [.int i, .ty "tuple"] s = some (.bl false, s) := by kernel_rfl
theorem isi_str_int {x : Str} {s : S} : isiB [.str x, .ty "int"] s = some (.bl false, s) := by kernel_rfl
theorem isi_str_bool {x : Str} {s : S} : isiB [.str x, .ty "bool"] s = some (.bl false, s) := by kernel_rfl
theorem isi_str_str {x : Str} {s : S} : isiB [.str x, .ty "str"] s = some (.bl true, s) := by kernel_rfl
theorem isi_str_tuple {x : Str} {s : S} : isiB [.str x, .ty "tuple"] s = some (.bl false, s) := by kernel_rfl
theorem isi_tup_int {ds : List D} {s : S} : isiB [.tup ds, .ty "int"] s = some (.bl false, s) := by kernel_rfl
theorem isi_tup_bool {ds : List D} {s : S} : isiB [.tup ds, .ty "bool"] s = some (.bl false, s) := by kernel_rfl
theorem isi_tup_str {ds : List D} {s : S} : isiB [.tup ds, .ty "str"] s = some (.bl false, s) := by kernel_rfl
theorem isi_tup_tuple {ds : List D} {s : S} : isiB [.tup ds, .ty "tuple"] s = some (.bl true, s) := by kernel_rfl
local macro_rules | `(tactic| walk_at "mi") => `(tactic| try simp only [↓w_vr, ↓w_cn, ↓w_e2, ↓w_tup, ↓w_lst, ↓w_aN, ↓w_aC, ↓w_call, ↓w_B, ↓w_M, ↓w_oN, ↓w_oS, ↓w_sl, ↓w_B1, ↓w_Tl, ↓w_An, ↓w_Or, ↓w_No, ↓w_eAn, ↓w_eO, ↓w_eNo, ↓w_eNeg, ↓w_eIf, ↓w_ch, ↓w_Dn, ↓w_lRg1, ↓w_trg1, ↓w_yes, ↓ws_forS, ↓ws_forG, ↓w_lcS, ↓w_lcG, ↓w_dcS, ↓w_dcG, items_tup, items_rol, ↓ws_seq, ↓ws_skip, ↓ws_set, ↓ws_ex, ↓ws_ret, ↓ws_retN, ↓ws_bk, ↓ws_ct, ↓ws_if, ↓ws_asg, ↓ws_dput, ↓ws_daug, ↓ws_lput, ↓ws_aug, ↓wp_some, ↓wp_none, ↓wp_if, ↓wp_map, ↓wf_ok, ↓asI_int, ↓asBl_bl,
  List.getElem?_cons_zero, List.getElem?_cons_succ, List.set_cons_zero, List.set_cons_succ, opI_int, addD_int, mulD_int, intB_int, intB_bl, absB_int, lenB_rol, lenB_tup, ixD_rol, ixD_tup, atI0, atI1, atI2, atI3, atI4, asgT_n, tyQ, appQ, slQ, slD_tup, wipeE, List.length_cons, List.length_nil, List.length_map, true_and, and_true, decide_true, ↓reduceIte, bl_t, List.map_cons, List.map_nil, List.cons_append, List.nil_append, List.replicate_succ, List.replicate_zero, Nat.reduceAdd, Nat.reduceLeDiff, Int.reduceLT, Int.reduceLE, Int.reduceNeg, Int.reduceSub, eqD_str, eqD_int, neD_int, ofStr_eq, String.reduceEq, decide_false, decide_true, in_tup, flatD_str, flatD_int, List.all_cons, List.all_nil, List.any_cons, List.any_nil, eqF_str, Bool.and_true, Bool.and_self, Bool.or_false, Bool.or_true, Bool.true_or, Bool.false_or, Bool.false_eq_true, Bool.not_true, Bool.not_false, in_top, ixD_top, tupB_top, items_top, lenB_top, tru_bl, asgT_2, asgT_3, ↓w_pN, ↓w_pC, ↓w_Dct, ixD_tup, isi_non_int, isi_non_bool, isi_non_str, isi_non_tuple, isi_bl_int, isi_bl_bool, isi_bl_str, isi_bl_tuple, isi_int_int, isi_int_bool, isi_int_str, isi_int_tuple, isi_str_int, isi_str_bool, isi_str_str, isi_str_tuple, isi_tup_int, isi_tup_bool, isi_tup_str, isi_tup_tuple])

/-! ### data without objects -/
def Nice : Nat → D → Prop
  | _, .non => True
  | _, .bl _ => True
  | _, .int _ => True
  | _, .str x => PyData.strOk x = true
  | k + 1, .tup ds => ds.length ≤ 1000 ∧ ∀ d ∈ ds, Nice k d
  | _, _ => False
theorem nice_mapM {n k : Nat} {s : S} : ∀ {ds : List D}, (∀ d ∈ ds, ∃ p, toP n s d = some p ∧ p.canLay0 = true ∧ p.depth ≤ k) → ∃ ps, ds.mapM (toP n s) = some ps ∧ ps.length = ds.length ∧ shAll k ps
  | [], _ => ⟨[], rfl, rfl, fun p h => by cases h⟩
  | d :: ds, h => by
    obtain ⟨p, e, h1, h2⟩ := h d List.mem_cons_self
    obtain ⟨ps, e', hl, h3⟩ := nice_mapM (ds := ds) fun d hd => h d (List.mem_cons_of_mem _ hd)
    refine ⟨p :: ps, by rw [List.mapM_cons, e, e']; rfl, by rw [List.length_cons, List.length_cons, hl], fun q hq => ?_⟩
    rcases List.mem_cons.mp hq with rfl | hq
    · exact ⟨h1, h2⟩
    · exact h3 q hq
theorem nice_toP {s : S} : ∀ (k n : Nat) (d : D), Nice k d → k < n → ∃ p, toP n s d = some p ∧ p.canLay0 = true ∧ p.depth ≤ k
  | k, n + 1, .non, _, _ => ⟨.none, rfl, rfl, Nat.zero_le _⟩
  | k, n + 1, .bl b, _, _ => ⟨.bool b, rfl, rfl, Nat.zero_le _⟩
  | k, n + 1, .int i, _, _ => ⟨.int i, rfl, rfl, Nat.zero_le _⟩
  | k, n + 1, .str x, h, _ => ⟨.str x, rfl, (by cases k <;> exact h), Nat.zero_le _⟩
  | k + 1, n + 1, .tup ds, h, hk => by
    obtain ⟨ps, e, hl, h3⟩ := nice_mapM (n := n) (k := k) (s := s) (ds := ds) fun d hd => nice_toP k n d (h.2 d hd) (by omega)
    refine ⟨.tuple ps, by show (ds.mapM (toP n s)).map PyData.tuple = _; rw [e]; rfl, canAll h3, ?_⟩
    show PyData.depthAll ps + 1 ≤ k + 1
    have := depAll h3
    omega
  | 0, n + 1, .tup ds, h, _ => h.elim
  | 0, n + 1, .rol ds, h, _ => h.elim
  | k + 1, n + 1, .rol ds, h, _ => h.elim
  | 0, n + 1, .ref _, h, _ => h.elim
  | k + 1, n + 1, .ref _, h, _ => h.elim
  | 0, n + 1, .glo _, h, _ => h.elim
  | k + 1, n + 1, .glo _, h, _ => h.elim
  | 0, n + 1, .ty _, h, _ => h.elim
  | k + 1, n + 1, .ty _, h, _ => h.elim
  | _, 0, _, _, h => by omega
theorem eq_empty {k : Nat} {ds : List D} {s : S} (h : Nice k (.tup ds)) (hk : k < 50) : eqD (.tup ds) (.tup []) s = some (.bl ds.isEmpty, s) := by
  cases k with
  | zero => exact h.elim
  | succ k =>
    obtain ⟨ps, e, hl, h3⟩ := nice_mapM (n := 59) (k := k) (s := s) (ds := ds) fun d hd => nice_toP k 59 d (h.2 d hd) (by omega)
    unfold eqD
    rw [eqB_tup (k := k) (pb := []) e rfl h3 (fun p hp => by cases hp) (by omega), eqv_nil]
    have : ps.isEmpty = ds.isEmpty := by cases ps <;> cases ds <;> first | rfl | cases hl
    rw [this]
/-! ### what a row, a block, a program is -/
def numOk (m : Int) : D → Bool
  | .int i => decide (0 ≤ i ∧ i ≤ m)
  | _ => false
def txtOk (L : List Str) : D → Bool
  | .str x => decide (x ∈ L)
  | _ => false
theorem number_ok {d : D} {m : Int} {k : Nat} {s : S} {Q : D → S → Prop} (h : Nice k d) : WF (F_is_number [d, .int m] s) Q ↔ Q (.bl (numOk m d)) s := by
  unfold F_is_number
  refine (wf_fn (by rfl)).trans ?_
  unfold g_is_number
  cases d with
  | int i =>
    walk_at "mi"
    simp only [numOk]
    by_cases h1 : 0 ≤ i <;> by_cases h2 : i ≤ m <;> simp only [h1, h2, ↓reduceIte, decide_true, decide_false, and_self, and_true, and_false, true_and, false_and]
  | non => walk_at "mi"; rfl
  | bl b => walk_at "mi"; rfl
  | str x => walk_at "mi"; rfl
  | tup ds => walk_at "mi"; rfl
  | _ => cases k <;> exact h.elim
theorem lawnum_ok {d : D} {m : Int} {k : Nat} {s : S} {Q : D → S → Prop} (h : Nice k d) : WF (F_law_is_number [d, .int m] s) Q ↔ Q (.bl (numOk m d)) s := by
  unfold F_law_is_number
  refine (wf_fn (by rfl)).trans ?_
  unfold g_law_is_number
  cases d with
  | int i =>
    walk_at "mi"
    simp only [numOk]
    by_cases h1 : 0 ≤ i <;> by_cases h2 : i ≤ m <;> simp only [h1, h2, ↓reduceIte, decide_true, decide_false, and_self, and_true, and_false, true_and, false_and]
  | non => walk_at "mi"; rfl
  | bl b => walk_at "mi"; rfl
  | str x => walk_at "mi"; rfl
  | tup ds => walk_at "mi"; rfl
  | _ => cases k <;> exact h.elim
theorem flat_strs (L : List Str) : (L.map D.str).all flatD = true := by
  rw [List.all_map, List.all_eq_true]; intro x _; rfl
theorem any_strs (L : List Str) (a : Str) : ((L.map D.str).any fun y => eqF y (.str a)) = decide (a ∈ L) := by
  induction L with
  | nil => rfl
  | cons x L ih =>
    rw [List.map_cons, List.any_cons, ih, eqF_str]
    by_cases h : x = a
    · subst h; simp
    · have h2 : ¬ a = x := fun z => h z.symm
      simp [h, h2]
theorem in_strs {neg : Bool} {L : List Str} {a : Str} {s : S} : inD neg (.str a) (.tup (L.map D.str)) s = some (.bl (if neg then !decide (a ∈ L) else decide (a ∈ L)), s) := by
  rw [in_tup, flat_strs, any_strs]; rfl
theorem text_ok {d : D} {L : List Str} {k : Nat} {s : S} {Q : D → S → Prop} (h : Nice k d) : WF (F_is_text [d, .tup (L.map D.str)] s) Q ↔ Q (.bl (txtOk L d)) s := by
  unfold F_is_text
  refine (wf_fn (by rfl)).trans ?_
  unfold g_is_text
  cases d with
  | str x =>
    walk_at "mi"
    simp only [flat_strs, any_strs, Bool.and_self, true_and, txtOk]
  | non => walk_at "mi"; rfl
  | bl b => walk_at "mi"; rfl
  | int x => walk_at "mi"; rfl
  | tup ds => walk_at "mi"; rfl
  | _ => cases k <;> exact h.elim
def partOk (A B : Int) (k : Str) (d : D) : Bool := if k = "g" then txtOk Signs d else if k = "r" then numOk 100000 d else if k = "n" then numOk 4294967295 d else if k = "i" then numOk (A - 1) d else numOk (B - 1) d
def K5 : List Str := ["g", "r", "n", "i", "t"]
def bK (a b c d : Int) : List (Key × D) := [(Sum.inr "r", .int a), (Sum.inr "n", .int b), (Sum.inr "i", .int c), (Sum.inr "t", .int d)]
theorem bk_keyed (a b c d : Int) : keyed [(D.str "r", D.int a), (D.str "n", D.int b), (D.str "i", D.int c), (D.str "t", D.int d)] = some (bK a b c d) := by kernel_rfl
theorem bk_merge (a b c d : Int) : mergeD [] (bK a b c d) = bK a b c d := by kernel_rfl
theorem bk_r (a b c d : Int) : valD (bK a b c d) (.inr "r") = some (.int a) := by kernel_rfl
theorem bk_n (a b c d : Int) : valD (bK a b c d) (.inr "n") = some (.int b) := by kernel_rfl
theorem bk_i (a b c d : Int) : valD (bK a b c d) (.inr "i") = some (.int c) := by kernel_rfl
theorem bk_t (a b c d : Int) : valD (bK a b c d) (.inr "t") = some (.int d) := by kernel_rfl
theorem bk_len (a b c d : Int) : (bK a b c d).length ≤ 15 := by show (4 : Nat) ≤ 15; omega
theorem part_ok {A B : Int} {kd : Str} {d : D} {k : Nat} {s : S} {Q : D → S → Prop} (h : Nice k d) (hk : kd ∈ K5) (kq : ∀ s', Gr s s' → Q (.bl (partOk A B kd d)) s') : WF (F_part_fits [d, .str kd, .int A, .int B] s) Q := by
  unfold F_part_fits
  refine (wf_fn (by rfl)).mpr ?_
  unfold g_part_fits
  unfold K5 at hk
  simp only [List.mem_cons, List.not_mem_nil, or_false] at hk
  rcases hk with rfl | rfl | rfl | rfl | rfl
  all_goals
    simp only [partOk, ofStr_eq, String.reduceEq, ↓reduceIte] at kq
    walk_at "mi"
  · rw [show dv_SIGNS = .tup (Signs.map D.str) from rfl, text_ok h]
    exact kq _ (Gr.refl _)
  all_goals
    unfold dv_WORD dv_MOST
    walk_at "mi"
    rw [bk_keyed, wp_some]
    refine ⟨bk_len _ _ _ _, ?_⟩
    rw [bk_merge, dget_k top_get (by rfl)]
    first | rw [bk_r] | rw [bk_n] | rw [bk_i] | rw [bk_t]
    walk_at "mi"
    rw [number_ok h]
    exact kq _ (Gr.app _ _)
/-! ### a row -/
def kinds (z : Str) : List Str := z.cps.toList.map fun c => ⟨#[c]⟩
def shapeOf (k : Str) : Option Str := match lookG kv_SHAPES k with
  | some (.str z) => some z
  | _ => none
def partsOk (A B : Int) : List Str → List D → Bool
  | [], [] => true
  | k :: ks, p :: ps => partOk A B k p && partsOk A B ks ps
  | _, _ => false
def rowOkD (A B : Int) : D → Bool
  | .tup (.str k :: ps) => match shapeOf k with
    | some z => partsOk A B (kinds z) ps
    | none => false
  | _ => false
def keysS : List Str := ["const", "copy", "op", "select", "load", "store", "out", "jump", "branch", "stop"]
theorem shape_keys : ∀ kv ∈ kv_SHAPES, kv.1 ∈ keysS := by
  intro kv h
  unfold kv_SHAPES at h
  simp only [List.mem_cons, List.not_mem_nil, or_false] at h
  rcases h with rfl | rfl | rfl | rfl | rfl | rfl | rfl | rfl | rfl | rfl <;> decide +kernel
theorem shape_none {k : Str} (h : k ∉ keysS) : shapeOf k = none := by
  unfold shapeOf lookG
  rw [List.find?_eq_none.mpr ?_]
  · rfl
  · intro kv hkv e
    exact h (of_decide_eq_true e ▸ shape_keys kv hkv)
theorem shape_some : ∀ k ∈ keysS, ∃ z, lookG kv_SHAPES k = some (.str z) ∧ z.cps.toList.length ≤ 4 ∧ ∀ c ∈ z.cps.toList, (⟨#[c]⟩ : Str) ∈ K5 := by
  intro k hk
  unfold keysS at hk
  simp only [List.mem_cons, List.not_mem_nil, or_false] at hk
  rcases hk with rfl | rfl | rfl | rfl | rfl | rfl | rfl | rfl | rfl | rfl
  · exact ⟨"rn", by kernel_rfl, by decide +kernel, by decide +kernel⟩
  · exact ⟨"rr", by kernel_rfl, by decide +kernel, by decide +kernel⟩
  · exact ⟨"grrr", by kernel_rfl, by decide +kernel, by decide +kernel⟩
  · exact ⟨"rrrr", by kernel_rfl, by decide +kernel, by decide +kernel⟩
  · exact ⟨"rir", by kernel_rfl, by decide +kernel, by decide +kernel⟩
  · exact ⟨"irr", by kernel_rfl, by decide +kernel, by decide +kernel⟩
  · exact ⟨"r", by kernel_rfl, by decide +kernel, by decide +kernel⟩
  · exact ⟨"t", by kernel_rfl, by decide +kernel, by decide +kernel⟩
  · exact ⟨"rtt", by kernel_rfl, by decide +kernel, by decide +kernel⟩
  · exact ⟨"r", by kernel_rfl, by decide +kernel, by decide +kernel⟩
theorem partsOk_len (A B : Int) : ∀ {ks : List Str} {ps : List D}, ps.length ≠ ks.length → partsOk A B ks ps = false
  | [], [], h => absurd rfl h
  | [], _ :: _, _ => rfl
  | _ :: _, [], _ => rfl
  | k :: ks, p :: ps, h => by
    show (partOk A B k p && partsOk A B ks ps) = false
    rw [partsOk_len A B (fun z => h (by rw [List.length_cons, List.length_cons, z])), Bool.and_false]
theorem partsOk_at (A B : Int) : ∀ {ks : List Str} {ps : List D}, ps.length = ks.length → partsOk A B ks ps = (List.range ks.length).all fun i => match ks[i]?, ps[i]? with
    | some k, some p => partOk A B k p
    | _, _ => false
  | [], [], _ => rfl
  | k :: ks, p :: ps, h => by
    rw [List.length_cons, List.range_succ_eq_map, List.all_cons, List.all_map]
    show (partOk A B k p && partsOk A B ks ps) = _
    rw [partsOk_at A B (ks := ks) (ps := ps) (by simpa using h)]
    rfl
theorem ix_str {z : Str} {i : Nat} {c : Nat} {s : S} (hz : z.cps.toList.length ≤ 4) (h : z.cps.toList[i]? = some c) : ixD (.str z) (.int (i : Int)) s = some (.str ⟨#[c]⟩, s) := by
  have hl : z.length ≤ 16777216 := by
    show z.cps.size ≤ _
    rw [Array.length_toList] at hz
    omega
  show (if z.length ≤ 16777216 then (match atI z.cps.toList (i : Int) with | some c => some (D.str ⟨#[c]⟩, s) | none => none) else none) = _
  rw [if_pos hl, atI_nat h]
theorem lenB_str {z : Str} {s : S} (hz : z.cps.toList.length ≤ 4) : lenB [.str z] s = some (.int ((kinds z).length : Int), s) := by
  have hl : z.length ≤ 16777216 := by
    show z.cps.size ≤ _
    rw [Array.length_toList] at hz
    omega
  show (if z.length ≤ 16777216 then some (D.int (z.length : Int), s) else none) = _
  rw [if_pos hl]
  unfold kinds
  rw [List.length_map, Array.length_toList]; rfl
theorem gix_ok {x z : Str} {kvs : List (Str × D)} {s : S} : gixD x kvs (.glo x) (.str z) s = (lookG kvs z).map fun v => (v, s) := by
  show (if x = x then (lookG kvs z).map (fun v => (v, s)) else none) = _
  rw [if_pos rfl]
theorem rowd_ok {A B : Int} {d : D} {k : Nat} {s : S} {Q : D → S → Prop} (h : Nice k d) (hk : k < 50) (kq : ∀ s', Gr s s' → Q (.bl (rowOkD A B d)) s') : WF (F_is_row [d, .int A, .int B] s) Q := by
  unfold F_is_row
  refine (wf_fn (by rfl)).mpr ?_
  unfold g_is_row
  cases d with
  | tup ds =>
    walk_at "mi"
    rw [eq_empty h hk]
    walk_at "mi"
    cases ds with
    | nil =>
      simp only [List.isEmpty_nil, ↓reduceIte]
      exact kq _ (Gr.refl _)
    | cons x ps =>
      obtain ⟨k, rfl⟩ : ∃ j, k = j + 1 := by cases k with
        | zero => exact h.elim
        | succ j => exact ⟨j, rfl⟩
      have hx : Nice k x := h.2 x List.mem_cons_self
      simp only [List.isEmpty_cons, Bool.false_eq_true, ↓reduceIte]
      walk_at "mi"
      rw [show tupGB "SHAPES" kv_SHAPES [D.glo "SHAPES"] s = some (.tup (keysS.map D.str), s) from rfl, wp_some, text_ok hx]
      walk_at "mi"
      by_cases hc : txtOk keysS x = true
      · obtain ⟨k0, rfl, h0⟩ : ∃ k0, x = .str k0 ∧ k0 ∈ keysS := by
          cases x <;> first | exact ⟨_, rfl, of_decide_eq_true hc⟩ | cases hc
        obtain ⟨z, hz, hzl, hzk⟩ := shape_some k0 h0
        have hsp : shapeOf k0 = some z := by unfold shapeOf; rw [hz]
        simp only [hc, Bool.not_true, Bool.false_eq_true, ↓reduceIte]
        rw [gix_ok, hz]
        walk_at "mi"
        rw [lenB_str hzl]
        walk_at "mi"
        have hkl : (kinds z).length ≤ 4 := by unfold kinds; rw [List.length_map]; exact hzl
        simp only [rowOkD, hsp] at kq
        by_cases hl : ps.length = (kinds z).length
        · rw [decide_eq_true (show ((ps.length + 1 : Nat) : Int) = ((kinds z).length : Int) + 1 by omega)]
          walk_at "mi"
          rw [lenB_str hzl]
          walk_at "mi"
          refine ⟨by omega, ?_⟩
          rw [Int.toNat_natCast, rng_map]
          refine cs_map (fun i => D.int ((i : Nat) : Int)) (fun i => some (.bl (match (kinds z)[i]?, ps[i]? with | some k, some p => partOk A B k p | _, _ => false))) (fun s' => Gr s s') True.intro (by rw [List.length_range]; omega) (Gr.refl _) ?_ ?_
          · intro i s1 hi hJ _
            have hi := List.mem_range.mp hi
            obtain ⟨c, hc'⟩ : ∃ c, z.cps.toList[i]? = some c := ⟨_, List.getElem?_eq_getElem (by unfold kinds at hi; rw [List.length_map] at hi; exact hi)⟩
            obtain ⟨p, hp⟩ : ∃ p, ps[i]? = some p := ⟨_, List.getElem?_eq_getElem (by omega)⟩
            have hkc : (kinds z)[i]? = some ⟨#[c]⟩ := by unfold kinds; rw [List.getElem?_map, hc']; rfl
            walk_at "mi"
            rw [show (i : Int) + 1 = ((i + 1 : Nat) : Int) by omega, atI_nat' (d := p) (by rw [List.getElem?_cons_succ]; exact hp)]
            walk_at "mi"
            rw [ix_str hzl hc']
            walk_at "mi"
            refine part_ok (h.2 p (List.mem_cons_of_mem _ (List.mem_of_getElem? hp))) (hzk c (List.mem_of_getElem? hc')) fun s2 hG => ?_
            refine ⟨True.intro, hJ.trans hG, ?_⟩
            rw [hkc, hp]
          · intro s1 hJ _
            rw [all_ref (bs := (List.range (kinds z).length).map fun i => match (kinds z)[i]?, ps[i]? with | some k, some p => partOk A B k p | _, _ => false) (by rw [← fm_all]; exact top_get)]
            walk_at "mi"
            have e := partsOk_at A B hl
            rw [List.all_map]
            have kk := kq _ (hJ.trans (Gr.app s1 [O.lst ((List.range (kinds z).length).filterMap fun i => some (.bl (match (kinds z)[i]?, ps[i]? with | some k, some p => partOk A B k p | _, _ => false)))]))
            rw [e] at kk
            exact kk
        · rw [decide_eq_false (show ¬ ((ps.length + 1 : Nat) : Int) = ((kinds z).length : Int) + 1 by omega)]
          walk_at "mi"
          rw [partsOk_len A B hl] at kq
          exact kq _ (Gr.refl _)
      · have e : rowOkD A B (.tup (x :: ps)) = false := by
          cases x <;> first | rfl | skip
          rename_i k0
          show (match shapeOf k0 with | some z => partsOk A B (kinds z) ps | none => false) = false
          rw [shape_none fun z => hc (decide_eq_true z)]
        simp only [hc, Bool.not_false, ↓reduceIte]
        rw [e] at kq
        exact kq _ (Gr.refl _)
  | non => walk_at "mi"; exact kq _ (Gr.refl _)
  | bl b => walk_at "mi"; exact kq _ (Gr.refl _)
  | str x => walk_at "mi"; exact kq _ (Gr.refl _)
  | int ds => walk_at "mi"; exact kq _ (Gr.refl _)
  | _ => cases k <;> exact h.elim
end My

set_option Elab.async false
set_option linter.all false
set_option maxRecDepth 100000
set_option maxHeartbeats 4000000
namespace My
open PySem PySem.Spec PyProof.Rows L2 Mi
local macro_rules | `(tactic| walk_at "mi") => `(tactic| try simp only [↓w_vr, ↓w_cn, ↓w_e2, ↓w_tup, ↓w_lst, ↓w_aN, ↓w_aC, ↓w_call, ↓w_B, ↓w_M, ↓w_oN, ↓w_oS, ↓w_sl, ↓w_B1, ↓w_Tl, ↓w_An, ↓w_Or, ↓w_No, ↓w_eAn, ↓w_eO, ↓w_eNo, ↓w_eNeg, ↓w_eIf, ↓w_ch, ↓w_Dn, ↓w_lRg1, ↓w_trg1, ↓w_yes, ↓ws_forS, ↓ws_forG, ↓w_lcS, ↓w_lcG, ↓w_dcS, ↓w_dcG, items_tup, items_rol, ↓ws_seq, ↓ws_skip, ↓ws_set, ↓ws_ex, ↓ws_ret, ↓ws_retN, ↓ws_bk, ↓ws_ct, ↓ws_if, ↓ws_asg, ↓ws_dput, ↓ws_daug, ↓ws_lput, ↓ws_aug, ↓wp_some, ↓wp_none, ↓wp_if, ↓wp_map, ↓wf_ok, ↓asI_int, ↓asBl_bl,
  List.getElem?_cons_zero, List.getElem?_cons_succ, List.set_cons_zero, List.set_cons_succ, opI_int, addD_int, mulD_int, intB_int, intB_bl, absB_int, lenB_rol, lenB_tup, ixD_rol, ixD_tup, atI0, atI1, atI2, atI3, atI4, asgT_n, tyQ, appQ, slQ, slD_tup, wipeE, List.length_cons, List.length_nil, List.length_map, true_and, and_true, decide_true, ↓reduceIte, bl_t, List.map_cons, List.map_nil, List.cons_append, List.nil_append, List.replicate_succ, List.replicate_zero, Nat.reduceAdd, Nat.reduceLeDiff, Int.reduceLT, Int.reduceLE, Int.reduceNeg, Int.reduceSub, eqD_str, eqD_int, neD_int, ofStr_eq, String.reduceEq, decide_false, decide_true, in_tup, flatD_str, flatD_int, List.all_cons, List.all_nil, List.any_cons, List.any_nil, eqF_str, Bool.and_true, Bool.and_self, Bool.or_false, Bool.or_true, Bool.true_or, Bool.false_or, Bool.false_eq_true, Bool.not_true, Bool.not_false, in_top, ixD_top, tupB_top, items_top, lenB_top, tru_bl, asgT_2, asgT_3, ↓w_pN, ↓w_pC, ↓w_Dct, ixD_tup, isi_non_int, isi_non_bool, isi_non_str, isi_non_tuple, isi_bl_int, isi_bl_bool, isi_bl_str, isi_bl_tuple, isi_int_int, isi_int_bool, isi_int_str, isi_int_tuple, isi_str_int, isi_str_bool, isi_str_str, isi_str_tuple, isi_tup_int, isi_tup_bool, isi_tup_str, isi_tup_tuple, Int.cast_ofNat_Int, Int.reduceEq])

def endsS : List Str := ["jump", "branch", "stop"]
def isEnd : D → Bool
  | .tup (.str k :: _) => decide (k ∈ endsS)
  | _ => false
def blkOkD (A B : Int) : D → Bool
  | .tup ds => match ds.getLast? with
    | none => false
    | some l => ds.all (rowOkD A B) && (isEnd l && !ds.dropLast.any isEnd)
  | _ => false
def arrOkD : D → Bool
  | .tup [.str _, n, l] => numOk 64 n && ((match n with | .int i => decide (0 < i) | _ => false) && txtOk ["public", "secret"] l)
  | _ => false
def irOkD : D → Bool
  | .tup [.tup as, n, .tup bs] => !bs.isEmpty && (as.all arrOkD && (numOk 100001 n && bs.all (blkOkD as.length bs.length)))
  | _ => false
theorem rowOk_str {A B : Int} {d : D} (h : rowOkD A B d = true) : ∃ k ps, d = .tup (.str k :: ps) := by
  unfold rowOkD at h
  split at h
  · exact ⟨_, _, rfl⟩
  · cases h
theorem nice_at {k : Nat} {ds : List D} {d : D} (h : Nice (k + 1) (.tup ds)) (hd : d ∈ ds) : Nice k d := h.2 d hd
theorem nice_tup {k : Nat} {ds : List D} (h : Nice k (.tup ds)) : ∃ j, k = j + 1 ∧ ds.length ≤ 1000 ∧ ∀ d ∈ ds, Nice j d := by
  cases k with
  | zero => exact h.elim
  | succ j => exact ⟨j, rfl, h.1, h.2⟩
theorem blk_ok {A B : Int} {d : D} {k : Nat} {s : S} {Q : D → S → Prop} (h : Nice k d) (hk : k < 50) (kq : ∀ s', Gr s s' → Q (.bl (blkOkD A B d)) s') : WF (F_is_block [d, .int A, .int B] s) Q := by
  unfold F_is_block
  refine (wf_fn (by rfl)).mpr ?_
  unfold g_is_block
  cases d with
  | tup ds =>
    walk_at "mi"
    rw [eq_empty h hk]
    walk_at "mi"
    obtain ⟨j, rfl, hlen, hall⟩ := nice_tup h
    cases ds with
    | nil =>
      simp only [List.isEmpty_nil, ↓reduceIte]
      exact kq _ (Gr.refl _)
    | cons x xs =>
      simp only [List.isEmpty_cons, Bool.false_eq_true, ↓reduceIte]
      obtain ⟨l, hl⟩ : ∃ l, (x :: xs).getLast? = some l := ⟨_, List.getLast?_eq_some_getLast (by simp)⟩
      generalize hds : x :: xs = ds at *
      have hq : blkOkD A B (.tup ds) = (ds.all (rowOkD A B) && (isEnd l && !ds.dropLast.any isEnd)) := by
        show (match ds.getLast? with | none => false | some l => ds.all (rowOkD A B) && (isEnd l && !ds.dropLast.any isEnd)) = _
        rw [hl]
      rw [hq] at kq
      walk_at "mi"
      refine cs_mapD (fun d => some (.bl (rowOkD A B d))) (fun s' => Gr s s') okD_tup (by omega) (Gr.refl _) ?_ ?_
      · intro d s1 hd hJ _
        walk_at "mi"
        refine rowd_ok (hall d hd) (by omega) fun s2 hG => ⟨okD_tup, hJ.trans hG, rfl⟩
      · intro s1 hJ _
        rw [all_ref (bs := ds.map (rowOkD A B)) (by rw [← fm_all]; exact top_get), List.all_map]
        walk_at "mi"
        have hJ2 := hJ.trans (Gr.app s1 [O.lst (ds.filterMap fun d => some (.bl (rowOkD A B d)))])
        generalize s1 ++ [O.lst (ds.filterMap fun d => some (.bl (rowOkD A B d)))] = s2 at *
        by_cases hr : ds.all (id ∘ rowOkD A B) = true
        · have hr' : ds.all (rowOkD A B) = true := hr
          rw [hr'] at kq
          simp only [hr, Bool.not_true, Bool.false_eq_true, ↓reduceIte]
          have hrow : ∀ d ∈ ds, ∃ k ps, d = .tup (.str k :: ps) := fun d hd => rowOk_str (List.all_eq_true.mp hr' d hd)
          have hlm : l ∈ ds := List.mem_of_getLast? hl
          obtain ⟨k0, ps0, rfl⟩ := hrow l hlm
          rw [atI_last hl]
          walk_at "mi"
          rw [show dv_ENDS = .tup (endsS.map D.str) from rfl, in_strs]
          walk_at "mi"
          have hel : isEnd (.tup (.str k0 :: ps0)) = decide (k0 ∈ endsS) := rfl
          by_cases he : k0 ∈ endsS
          · simp only [he, ↓reduceIte, decide_true] at hel ⊢
            rw [hel] at kq
            rw [cutD_init]
            refine cs_mapD (fun d => some (.bl (isEnd d))) (fun s' => Gr s s') okD_tup (by rw [List.length_dropLast]; omega) hJ2 ?_ ?_
            · intro d s3 hd hJ3 _
              obtain ⟨k1, ps1, rfl⟩ := hrow d (List.dropLast_subset _ hd)
              walk_at "mi"
              simp only [flat_strs, any_strs, Bool.and_self, true_and]
              exact ⟨okD_tup, hJ3, rfl⟩
            · intro s3 hJ3 _
              rw [any_ref (bs := ds.dropLast.map isEnd) (by rw [← fm_all]; exact top_get), List.any_map]
              walk_at "mi"
              exact kq _ (hJ3.trans (Gr.app _ _))
          · simp only [he, ↓reduceIte, decide_false] at hel ⊢
            rw [hel] at kq
            exact kq _ hJ2
        · have hr' : ds.all (rowOkD A B) = false := by simpa using hr
          rw [hr'] at kq
          simp only [hr, Bool.not_false, ↓reduceIte]
          exact kq _ hJ2
  | non => walk_at "mi"; exact kq _ (Gr.refl _)
  | bl b => walk_at "mi"; exact kq _ (Gr.refl _)
  | str x => walk_at "mi"; exact kq _ (Gr.refl _)
  | int ds => walk_at "mi"; exact kq _ (Gr.refl _)
  | _ => cases k <;> exact h.elim
theorem arr_ok {d : D} {k : Nat} {s : S} {Q : D → S → Prop} (h : Nice k d) (hk : k < 50) (kq : ∀ s', Gr s s' → Q (.bl (arrOkD d)) s') : WF (F_is_array [d] s) Q := by
  have kq := kq s (Gr.refl s)
  unfold F_is_array
  refine (wf_fn (by rfl)).mpr ?_
  unfold g_is_array
  cases d with
  | tup ds =>
    walk_at "mi"
    obtain ⟨j, rfl, hlen, hall⟩ := nice_tup h
    match ds, hall, kq with
    | [], hall, kq => walk_at "mi"; exact kq
    | [a], hall, kq =>
      have e0 : arrOkD (.tup [a]) = false := by cases a <;> rfl
      rw [e0] at kq
      walk_at "mi"; exact kq
    | [a, b], hall, kq =>
      have e0 : arrOkD (.tup [a, b]) = false := by cases a <;> rfl
      rw [e0] at kq
      walk_at "mi"; exact kq
    | a :: b :: c :: e :: r, hall, kq =>
      have : ¬ (((r.length + 1 + 1 + 1 + 1 : Nat) : Int) = 3) := by omega
      walk_at "mi"
      simp only [this, decide_false, Bool.not_false, ↓reduceIte]
      have e0 : arrOkD (.tup (a :: b :: c :: e :: r)) = false := by cases a <;> rfl
      rw [e0] at kq
      exact kq
    | [a, b, c], hall, kq =>
      have ha := hall a (by simp)
      have hb := hall b (by simp)
      have hc := hall c (by simp)
      walk_at "mi"
      cases a with
      | str x =>
        walk_at "mi"
        rw [show dv_LONGEST = .int 64 from rfl, number_ok hb]
        walk_at "mi"
        have e0 : arrOkD (.tup [.str x, b, c]) = (numOk 64 b && ((match b with | .int i => decide (0 < i) | _ => false) && txtOk ["public", "secret"] c)) := by cases b <;> rfl
        rw [e0] at kq
        by_cases hn : numOk 64 b = true
        · rw [hn] at kq
          obtain ⟨i, rfl⟩ : ∃ i, b = .int i := by cases b <;> first | exact ⟨_, rfl⟩ | cases hn
          simp only [hn, ↓reduceIte]
          walk_at "mi"
          by_cases hi : 0 < i
          · simp only [hi, ↓reduceIte, decide_true] at kq ⊢
            rw [show dv_LABELS = .tup ((["public", "secret"] : List Str).map D.str) from rfl, text_ok hc]
            exact kq
          · simp only [hi, ↓reduceIte, decide_false] at kq ⊢
            exact kq
        · have hn : numOk 64 b = false := by simpa using hn
          rw [hn] at kq
          simp only [hn, Bool.false_eq_true, ↓reduceIte]
          exact kq
      | non => walk_at "mi"; exact kq
      | bl b => walk_at "mi"; exact kq
      | tup x => walk_at "mi"; exact kq
      | int ds => walk_at "mi"; exact kq
      | _ => cases j <;> exact ha.elim
  | non => walk_at "mi"; exact kq
  | bl b => walk_at "mi"; exact kq
  | str x => walk_at "mi"; exact kq
  | int ds => walk_at "mi"; exact kq
  | _ => cases k <;> exact h.elim
end My

set_option Elab.async false
set_option linter.all false
set_option maxRecDepth 100000
set_option maxHeartbeats 4000000
namespace My
open PySem PySem.Spec PyProof.Rows L2 Mi
local macro_rules | `(tactic| walk_at "mi") => `(tactic| try simp only [↓w_vr, ↓w_cn, ↓w_e2, ↓w_tup, ↓w_lst, ↓w_aN, ↓w_aC, ↓w_call, ↓w_B, ↓w_M, ↓w_oN, ↓w_oS, ↓w_sl, ↓w_B1, ↓w_Tl, ↓w_An, ↓w_Or, ↓w_No, ↓w_eAn, ↓w_eO, ↓w_eNo, ↓w_eNeg, ↓w_eIf, ↓w_ch, ↓w_Dn, ↓w_lRg1, ↓w_trg1, ↓w_yes, ↓ws_forS, ↓ws_forG, ↓w_lcS, ↓w_lcG, ↓w_dcS, ↓w_dcG, items_tup, items_rol, ↓ws_seq, ↓ws_skip, ↓ws_set, ↓ws_ex, ↓ws_ret, ↓ws_retN, ↓ws_bk, ↓ws_ct, ↓ws_if, ↓ws_asg, ↓ws_dput, ↓ws_daug, ↓ws_lput, ↓ws_aug, ↓wp_some, ↓wp_none, ↓wp_if, ↓wp_map, ↓wf_ok, ↓asI_int, ↓asBl_bl,
  List.getElem?_cons_zero, List.getElem?_cons_succ, List.set_cons_zero, List.set_cons_succ, opI_int, addD_int, mulD_int, intB_int, intB_bl, absB_int, lenB_rol, lenB_tup, ixD_rol, ixD_tup, atI0, atI1, atI2, atI3, atI4, asgT_n, tyQ, appQ, slQ, slD_tup, wipeE, List.length_cons, List.length_nil, List.length_map, true_and, and_true, decide_true, ↓reduceIte, bl_t, List.map_cons, List.map_nil, List.cons_append, List.nil_append, List.replicate_succ, List.replicate_zero, Nat.reduceAdd, Nat.reduceLeDiff, Int.reduceLT, Int.reduceLE, Int.reduceNeg, Int.reduceSub, eqD_str, eqD_int, neD_int, ofStr_eq, String.reduceEq, decide_false, decide_true, in_tup, flatD_str, flatD_int, List.all_cons, List.all_nil, List.any_cons, List.any_nil, eqF_str, Bool.and_true, Bool.and_self, Bool.or_false, Bool.or_true, Bool.true_or, Bool.false_or, Bool.false_eq_true, Bool.not_true, Bool.not_false, in_top, ixD_top, tupB_top, items_top, lenB_top, tru_bl, asgT_2, asgT_3, ↓w_pN, ↓w_pC, ↓w_Dct, ixD_tup, isi_non_int, isi_non_bool, isi_non_str, isi_non_tuple, isi_bl_int, isi_bl_bool, isi_bl_str, isi_bl_tuple, isi_int_int, isi_int_bool, isi_int_str, isi_int_tuple, isi_str_int, isi_str_bool, isi_str_str, isi_str_tuple, isi_tup_int, isi_tup_bool, isi_tup_str, isi_tup_tuple, Int.cast_ofNat_Int, Int.reduceEq])

theorem len3 {ds : List D} (h : ds.length = 3) : ∃ a b c, ds = [a, b, c] := by
  match ds, h with
  | [a, b, c], _ => exact ⟨a, b, c, rfl⟩
theorem ir_len {ds : List D} (h : ds.length ≠ 3) : irOkD (.tup ds) = false := by
  match ds, h with
  | [], _ => rfl
  | [a], _ => cases a <;> rfl
  | [a, b], _ => cases a <;> rfl
  | [a, b, c], h => exact absurd rfl h
  | a :: b :: c :: d :: r, _ => cases a <;> first | rfl | (cases c <;> rfl)
theorem ir_ok {d : D} {k : Nat} {s : S} {Q : D → S → Prop} (h : Nice k d) (hk : k < 50) (kq : ∀ s', Gr s s' → Q (.bl (irOkD d)) s') : WF (F_is_ir [d] s) Q := by
  unfold F_is_ir
  refine (wf_fn (by rfl)).mpr ?_
  unfold g_is_ir
  cases d with
  | tup ds =>
    walk_at "mi"
    obtain ⟨j, rfl, hlen, hall⟩ := nice_tup h
    by_cases hl : ds.length = 3
    · obtain ⟨a, b, c, rfl⟩ := len3 hl
      have ha := hall a (by simp)
      have hb := hall b (by simp)
      have hc := hall c (by simp)
      walk_at "mi"
      have kq1 := kq s (Gr.refl s)
      cases a with
      | tup as =>
        walk_at "mi"
        obtain ⟨j, rfl, halen, haall⟩ := nice_tup ha
        cases c with
        | tup bs =>
          walk_at "mi"
          rw [eq_empty hc (by omega)]
          walk_at "mi"
          have e0 : irOkD (.tup [.tup as, b, .tup bs]) = (!bs.isEmpty && (as.all arrOkD && (numOk 100001 b && bs.all (blkOkD as.length bs.length)))) := rfl
          rw [e0] at kq
          cases hbe : bs.isEmpty with
          | true =>
            rw [hbe] at kq
            simp only [↓reduceIte]
            exact kq _ (Gr.refl _)
          | false =>
            rw [hbe] at kq
            simp only [Bool.false_eq_true, ↓reduceIte, Bool.not_false, Bool.true_and] at kq ⊢
            refine cs_mapD (fun d => some (.bl (arrOkD d))) (fun s' => Gr s s') okD_tup (by omega) (Gr.refl _) ?_ ?_
            · intro d s1 hd hJ _
              walk_at "mi"
              exact arr_ok (haall d hd) (by omega) fun s2 hG => ⟨okD_tup, hJ.trans hG, rfl⟩
            · intro s1 hJ _
              rw [all_ref (bs := as.map arrOkD) (by rw [← fm_all]; exact top_get), List.all_map]
              walk_at "mi"
              have hJ2 := hJ.trans (Gr.app s1 [O.lst (as.filterMap fun d => some (.bl (arrOkD d)))])
              generalize s1 ++ [O.lst (as.filterMap fun d => some (.bl (arrOkD d)))] = s2 at *
              rw [show (id ∘ arrOkD) = arrOkD from rfl]
              cases hr : as.all arrOkD with
              | false =>
                rw [hr] at kq
                simp only [Bool.not_false, ↓reduceIte]
                exact kq _ hJ2
              | true =>
                rw [hr] at kq
                simp only [Bool.not_true, Bool.false_eq_true, ↓reduceIte, Bool.true_and] at kq ⊢
                rw [show dv_MOST = .int 100000 from rfl]
                walk_at "mi"
                rw [number_ok hb]
                walk_at "mi"
                rw [show (100000 : Int) + 1 = 100001 from rfl]
                cases hn : numOk 100001 b with
                | false =>
                  rw [hn] at kq
                  simp only [Bool.not_false, ↓reduceIte]
                  exact kq _ hJ2
                | true =>
                  rw [hn] at kq
                  simp only [Bool.not_true, Bool.false_eq_true, ↓reduceIte, Bool.true_and] at kq ⊢
                  obtain ⟨j2, e2, hclen, hcall⟩ := nice_tup hc
                  refine cs_mapD (fun d => some (.bl (blkOkD as.length bs.length d))) (fun s' => Gr s s') okD_tup (by omega) hJ2 ?_ ?_
                  · intro d s3 hd hJ3 _
                    walk_at "mi"
                    exact blk_ok (hcall d hd) (by omega) fun s4 hG => ⟨okD_tup, hJ3.trans hG, rfl⟩
                  · intro s3 hJ3 _
                    rw [all_ref (bs := bs.map (blkOkD as.length bs.length)) (by rw [← fm_all]; exact top_get), List.all_map]
                    walk_at "mi"
                    exact kq _ (hJ3.trans (Gr.app _ _))
        | non => walk_at "mi"; exact kq1
        | bl b => walk_at "mi"; exact kq1
        | str x => walk_at "mi"; exact kq1
        | int ds => walk_at "mi"; exact kq1
        | _ => exact hc.elim
      | non => walk_at "mi"; exact kq1
      | bl b => walk_at "mi"; exact kq1
      | str x => walk_at "mi"; exact kq1
      | int ds => walk_at "mi"; exact kq1
      | _ => cases j <;> exact ha.elim
    · have hl' : ¬ ((ds.length : Nat) : Int) = 3 := by omega
      simp only [hl', decide_false, Bool.not_false, ↓reduceIte]
      rw [ir_len hl] at kq
      exact kq _ (Gr.refl _)
  | non => walk_at "mi"; exact kq _ (Gr.refl _)
  | bl b => walk_at "mi"; exact kq _ (Gr.refl _)
  | str x => walk_at "mi"; exact kq _ (Gr.refl _)
  | int ds => walk_at "mi"; exact kq _ (Gr.refl _)
  | _ => cases k <;> exact h.elim
/-! ### the law's own look -/
def rowL (A B : Int) (last : Bool) (d : D) : Bool := rowOkD A B d && (isEnd d == last)
def shK : Bool → List (Key × D)
  | false => [(Sum.inr "const", .str "rn"), (Sum.inr "copy", .str "rr"), (Sum.inr "op", .str "grrr"), (Sum.inr "select", .str "rrrr"), (Sum.inr "load", .str "rir"), (Sum.inr "store", .str "irr"), (Sum.inr "out", .str "r")]
  | true => [(Sum.inr "jump", .str "t"), (Sum.inr "branch", .str "rtt"), (Sum.inr "stop", .str "r")]
theorem shv (last : Bool) (k : Str) : valD (shK last) (.inr k) = if decide (k ∈ endsS) = last then lookG kv_SHAPES k else none := by
  by_cases h : k ∈ keysS
  · unfold keysS at h
    simp only [List.mem_cons, List.not_mem_nil, or_false] at h
    rcases h with rfl | rfl | rfl | rfl | rfl | rfl | rfl | rfl | rfl | rfl <;> cases last <;> kernel_rfl
  · have e : lookG kv_SHAPES k = none := by
      unfold lookG
      rw [List.find?_eq_none.mpr ?_]
      · rfl
      · intro kv hkv e
        exact h (of_decide_eq_true e ▸ shape_keys kv hkv)
    rw [e, ite_self]
    unfold valD
    rw [List.find?_eq_none.mpr ?_]
    · rfl
    · have hk : ∀ kv ∈ shK last, ∃ z ∈ keysS, kv.1 = Sum.inr z := by
        intro kv hkv
        cases last <;> unfold shK at hkv <;> simp only [List.mem_cons, List.not_mem_nil, or_false] at hkv
        · rcases hkv with rfl | rfl | rfl | rfl | rfl | rfl | rfl <;> exact ⟨_, by decide +kernel, rfl⟩
        · rcases hkv with rfl | rfl | rfl <;> exact ⟨_, by decide +kernel, rfl⟩
      intro kv hkv e
      obtain ⟨z, hz, e'⟩ := hk kv hkv
      have := of_decide_eq_true e
      rw [e'] at this
      exact h (Sum.inr.inj this ▸ hz)
theorem partsOk_true (A B : Int) {ks : List Str} {ps : List D} (hl : ps.length = ks.length) (h : ∀ (i : Nat) (k : Str) (p : D), ks[i]? = some k → ps[i]? = some p → partOk A B k p = true) : partsOk A B ks ps = true := by
  rw [partsOk_at A B hl, List.all_eq_true]
  intro i hi
  have hi := List.mem_range.mp hi
  have e1 : ks[i]? = some ks[i] := List.getElem?_eq_getElem hi
  have e2 : ps[i]? = some ps[i] := List.getElem?_eq_getElem (by omega)
  have := h i _ _ e1 e2
  rw [e1, e2]
  exact this
theorem partsOk_bad (A B : Int) {ks : List Str} {ps : List D} (hl : ps.length = ks.length) {i : Nat} {k : Str} {p : D} (e1 : ks[i]? = some k) (e2 : ps[i]? = some p) (h : partOk A B k p = false) : partsOk A B ks ps = false := by
  rw [partsOk_at A B hl, List.all_eq_false]
  refine ⟨i, List.mem_range.mpr (List.getElem?_eq_some_iff.mp e1).1, ?_⟩
  rw [e1, e2]
  simp only [h]
  decide
theorem shK_keyed0 : keyed [(D.str "const", D.str "rn"), (D.str "copy", D.str "rr"), (D.str "op", D.str "grrr"), (D.str "select", D.str "rrrr"), (D.str "load", D.str "rir"), (D.str "store", D.str "irr"), (D.str "out", D.str "r")] = some (shK false) := by kernel_rfl
theorem shK_keyed1 : keyed [(D.str "jump", D.str "t"), (D.str "branch", D.str "rtt"), (D.str "stop", D.str "r")] = some (shK true) := by kernel_rfl
theorem shK_merge (b : Bool) : mergeD [] (shK b) = shK b := by cases b <;> kernel_rfl
theorem shK_len (b : Bool) : (shK b).length ≤ 15 := by cases b <;> decide
theorem bad_of {A B : Int} {ks : List Str} {ps : List D} {i : Nat} {k : Str} {p : D} (hl : ps.length = ks.length) (e1 : ks[i]? = some k) (e2 : ps[i]? = some p) (h : ¬ partOk A B k p = true) : partsOk A B ks ps = false := partsOk_bad A B hl e1 e2 (by simpa using h)
theorem lawpart_ok {A B : Int} {last : Bool} {k0 : Str} {ps : List D} {z : Str} {q i j : Nat} {c : Nat} {p : D} {s : S} {x5 x6 x7 : Option D} {N : Mi.Env → S → Prop} {Q : D → S → Prop} {B' C' : Mi.Env → S → Prop}
    (hp : Nice j p) (hzl : z.cps.toList.length ≤ 4) (hz : valD (shK last) (.inr k0) = some (.str z)) (hq : s[q]? = some (.dct (shK last))) (hc : z.cps.toList[i]? = some c) (hk : (⟨#[c]⟩ : Str) ∈ K5) (hpi : ps[i]? = some p)
    (kN : ∀ e s', (∃ x6 x7, e = [some (.tup (.str k0 :: ps)), some (.int A), some (.int B), some (.bl last), some (.ref q), x5, x6, x7]) → Gr s s' → partOk A B ⟨#[c]⟩ p = true → N e s')
    (kQ : ∀ s', Gr s s' → ¬ partOk A B ⟨#[c]⟩ p = true → Q (.bl false) s') (h5 : x5 = some (.int (i : Int))) :
    WS g_law_is_row_b1 [some (.tup (.str k0 :: ps)), some (.int A), some (.int B), some (.bl last), some (.ref q), x5, x6, x7] s N Q B' C' := by
  subst h5
  unfold g_law_is_row_b1
  refine ws_cut (I := fun e s' => e = [some (.tup (.str k0 :: ps)), some (.int A), some (.int B), some (.bl last), some (.ref q), some (.int (i : Int)), some p, x7] ∧ s' = s) ?_ ?_
  · walk_at "mi"
    rw [show (i : Int) + 1 = ((i + 1 : Nat) : Int) by omega, atI_nat' (d := p) (by rw [List.getElem?_cons_succ]; exact hpi)]
    walk_at "mi"
  rintro _ s1' ⟨rfl, h1⟩
  rw [h1]; clear h1
  refine ws_cut (I := fun e s' => e = [some (.tup (.str k0 :: ps)), some (.int A), some (.int B), some (.bl last), some (.ref q), some (.int (i : Int)), some p, some (.str ⟨#[c]⟩)] ∧ s' = s) ?_ ?_
  · walk_at "mi"
    rw [dget_k hq (by rfl), hz]
    walk_at "mi"
    rw [ix_str hzl hc]
    walk_at "mi"
  rintro _ s1' ⟨rfl, h1⟩
  rw [h1]; clear h1
  generalize hkd : (⟨#[c]⟩ : Str) = kd at *
  unfold K5 at hk
  simp only [List.mem_cons, List.not_mem_nil, or_false] at hk
  rcases hk with rfl | rfl | rfl | rfl | rfl
  · simp only [partOk, ofStr_eq, String.reduceEq, ↓reduceIte] at kN kQ
    walk_at "mi"
    cases p with
    | str y =>
      walk_at "mi"
      have hm := any_strs Signs y
      have e0 : txtOk Signs (.str y) = decide (y ∈ Signs) := rfl
      rw [e0] at kN kQ
      conv at hm => lhs; unfold Signs
      simp only [List.map_cons, List.map_nil, List.any_cons, List.any_nil, eqF_str, Bool.or_false] at hm
      rw [hm]
      split
      · rename_i hb
        exact kQ _ (Gr.app _ _) (by simpa using hb)
      · rename_i hb
        exact kN _ _ ⟨_, _, rfl⟩ (Gr.app _ _) (by simpa using hb)
    | non => walk_at "mi"; exact kQ _ (Gr.refl _) (by simp [txtOk])
    | bl b => walk_at "mi"; exact kQ _ (Gr.refl _) (by simp [txtOk])
    | tup x => walk_at "mi"; exact kQ _ (Gr.refl _) (by simp [txtOk])
    | int ds => walk_at "mi"; exact kQ _ (Gr.refl _) (by simp [txtOk])
    | _ => cases j <;> exact hp.elim
  all_goals
    simp only [partOk, ofStr_eq, String.reduceEq, ↓reduceIte] at kN kQ
    walk_at "mi"
    rw [bk_keyed, wp_some]
    refine ⟨bk_len _ _ _ _, ?_⟩
    rw [bk_merge, dget_k top_get (by rfl)]
    first | rw [bk_r] | rw [bk_n] | rw [bk_i] | rw [bk_t]
    walk_at "mi"
    rw [lawnum_ok hp]
    walk_at "mi"
    split
    · rename_i hb
      exact kQ _ (Gr.app _ _) (by simpa using hb)
    · rename_i hb
      exact kN _ _ ⟨_, _, rfl⟩ (Gr.app _ _) (by simpa using hb)
theorem lawrow_ok {A B : Int} {last : Bool} {d : D} {k : Nat} {s : S} {Q : D → S → Prop} (h : Nice k d) (hk : k < 50) (kq : ∀ s', Gr s s' → Q (.bl (rowL A B last d)) s') : WF (F_law_is_row [d, .int A, .int B, .bl last] s) Q := by
  unfold F_law_is_row
  refine (wf_fn (by rfl)).mpr ?_
  unfold g_law_is_row
  refine ws_cut (I := fun e s' => ∃ k0 ps, d = .tup (.str k0 :: ps) ∧ e = [some (.tup (.str k0 :: ps)), some (.int A), some (.int B), some (.bl last), none, none, none, none] ∧ s' = s) ?_ ?_
  · cases d with
    | tup ds =>
      walk_at "mi"
      rw [eq_empty h hk]
      walk_at "mi"
      cases ds with
      | nil =>
        simp only [List.isEmpty_nil, ↓reduceIte]
        exact kq _ (Gr.refl _)
      | cons x ps =>
        simp only [List.isEmpty_cons, Bool.false_eq_true, ↓reduceIte]
        obtain ⟨j, rfl, hlen, hall⟩ := nice_tup h
        have hx := hall x List.mem_cons_self
        walk_at "mi"
        cases x with
        | str k0 =>
          walk_at "mi"
          exact ⟨k0, ps, rfl, rfl⟩
        | non => walk_at "mi"; exact kq _ (Gr.refl _)
        | bl b => walk_at "mi"; exact kq _ (Gr.refl _)
        | tup x => walk_at "mi"; exact kq _ (Gr.refl _)
        | int ds => walk_at "mi"; exact kq _ (Gr.refl _)
        | _ => cases j <;> exact hx.elim
    | non => walk_at "mi"; exact kq _ (Gr.refl _)
    | bl b => walk_at "mi"; exact kq _ (Gr.refl _)
    | str x => walk_at "mi"; exact kq _ (Gr.refl _)
    | int ds => walk_at "mi"; exact kq _ (Gr.refl _)
    | _ => cases k <;> exact h.elim
  rintro _ s1' ⟨k0, ps, rfl, rfl, h1⟩
  rw [h1]; clear h1
  refine ws_cut (I := fun e s' => e = [some (.tup (.str k0 :: ps)), some (.int A), some (.int B), some (.bl last), some (.ref s.length), none, none, none] ∧ s' = s ++ [.dct (shK false)]) ?_ ?_
  · walk_at "mi"
    rw [shK_keyed0, wp_some, shK_merge]
    exact ⟨shK_len _, rfl⟩
  rintro _ s1' ⟨rfl, h1⟩
  rw [h1]; clear h1
  refine ws_cut (I := fun e s' => ∃ q, e = [some (.tup (.str k0 :: ps)), some (.int A), some (.int B), some (.bl last), some (.ref q), none, none, none] ∧ Gr s s' ∧ s'[q]? = some (.dct (shK last))) ?_ ?_
  · walk_at "mi"
    cases last with
    | true =>
      simp only [↓reduceIte]
      rw [shK_keyed1, wp_some, shK_merge]
      exact ⟨shK_len _, _, rfl, (Gr.app _ _).trans (Gr.app _ _), top_get⟩
    | false =>
      simp only [Bool.false_eq_true, ↓reduceIte]
      exact ⟨_, rfl, Gr.app _ _, top_get⟩
  rintro _ s1 ⟨q, rfl, hG, hq⟩
  obtain ⟨j, rfl, hlen, hall⟩ := nice_tup h
  have hshv := shv last k0
  walk_at "mi"
  rw [din_k hq (by rfl)]
  walk_at "mi"
  have hrow : rowL A B last (.tup (.str k0 :: ps)) = ((match shapeOf k0 with | some z => partsOk A B (kinds z) ps | none => false) && (decide (k0 ∈ endsS) == last)) := rfl
  rw [hrow] at kq
  by_cases he : decide (k0 ∈ endsS) = last
  · rw [if_pos he] at hshv
    have he2 : (decide (k0 ∈ endsS) == last) = true := by rw [he]; exact beq_self_eq_true last
    rw [he2, Bool.and_true] at kq
    by_cases hk0 : k0 ∈ keysS
    · obtain ⟨z, hz, hzl, hzk⟩ := shape_some k0 hk0
      have hsp : shapeOf k0 = some z := by unfold shapeOf; rw [hz]
      rw [hz] at hshv
      rw [hsp] at kq
      dsimp only at kq
      rw [hshv]
      simp only [Option.isSome_some, Bool.not_true, Bool.false_eq_true, ↓reduceIte]
      rw [dget_k hq (by rfl), hshv]
      walk_at "mi"
      rw [lenB_str hzl]
      walk_at "mi"
      have hkl : (kinds z).length ≤ 4 := by unfold kinds; rw [List.length_map]; exact hzl
      by_cases hl : ps.length = (kinds z).length
      · rw [decide_eq_true (show ((ps.length + 1 : Nat) : Int) = ((kinds z).length : Int) + 1 by omega)]
        walk_at "mi"
        rw [dget_k hq (by rfl), hshv]
        walk_at "mi"
        rw [lenB_str hzl]
        walk_at "mi"
        refine ⟨by omega, ?_⟩
        rw [Int.toNat_natCast]
        refine fs_rng (fun i env st => (∃ x5 x6 x7, env = [some (.tup (.str k0 :: ps)), some (.int A), some (.int B), some (.bl last), some (.ref q), x5, x6, x7]) ∧ Gr s1 st ∧ ∀ (i' : Nat) (k : Str) (p : D), i' < i → (kinds z)[i']? = some k → ps[i']? = some p → partOk A B k p = true) ⟨⟨_, _, _, rfl⟩, Gr.refl _, fun i' k p h => by omega⟩ ?_ ?_
        · rintro i env st hi ⟨⟨x5, x6, x7, rfl⟩, hG2, hok⟩
          obtain ⟨c, hc'⟩ : ∃ c, z.cps.toList[i]? = some c := ⟨_, List.getElem?_eq_getElem (by unfold kinds at hi; rw [List.length_map] at hi; exact hi)⟩
          obtain ⟨p, hp⟩ : ∃ p, ps[i]? = some p := ⟨_, List.getElem?_eq_getElem (by omega)⟩
          have hkc : (kinds z)[i]? = some ⟨#[c]⟩ := by unfold kinds; rw [List.getElem?_map, hc']; rfl
          rw [asgT_n, wp_some]
          refine lawpart_ok (hall p (List.mem_cons_of_mem _ (List.mem_of_getElem? hp))) hzl hshv (hG2.get hq) hc' (hzk c (List.mem_of_getElem? hc')) hp ?_ ?_ rfl
          · rintro e s' ⟨x6, x7, rfl⟩ hG3 hpo
            refine ⟨⟨_, _, _, rfl⟩, hG2.trans hG3, fun i' k p' hi' e1 e2 => ?_⟩
            by_cases hii : i' = i
            · subst hii
              rw [hkc] at e1; rw [hp] at e2
              cases e1; cases e2
              exact hpo
            · exact hok i' k p' (by omega) e1 e2
          · intro s' hG3 hpo
            rw [bad_of hl hkc hp hpo] at kq
            exact kq _ (hG.trans (hG2.trans hG3))
        · rintro env st ⟨⟨x5, x6, x7, rfl⟩, hG2, hok⟩
          rw [partsOk_true A B hl fun i k p e1 e2 => hok i k p (List.getElem?_eq_some_iff.mp e1).1 e1 e2] at kq
          walk_at "mi"
          exact kq _ (hG.trans hG2)
      · rw [decide_eq_false (show ¬ ((ps.length + 1 : Nat) : Int) = ((kinds z).length : Int) + 1 by omega)]
        walk_at "mi"
        rw [partsOk_len A B hl] at kq
        exact kq _ hG
    · have e : lookG kv_SHAPES k0 = none := by
        unfold lookG
        rw [List.find?_eq_none.mpr ?_]
        · rfl
        · intro kv hkv e
          exact hk0 (of_decide_eq_true e ▸ shape_keys kv hkv)
      rw [e] at hshv
      rw [shape_none hk0] at kq
      rw [hshv]
      simp only [Option.isSome_none, Bool.not_false, ↓reduceIte]
      exact kq _ hG
  · rw [if_neg he] at hshv
    have he2 : (decide (k0 ∈ endsS) == last) = false := by simpa using he
    rw [he2, Bool.and_false] at kq
    rw [hshv]
    simp only [Option.isSome_none, Bool.not_false, ↓reduceIte]
    exact kq _ hG
end My

set_option Elab.async false
set_option linter.all false
set_option maxRecDepth 100000
set_option maxHeartbeats 4000000
namespace My
open PySem PySem.Spec PyProof.Rows L2 Mi
local macro_rules | `(tactic| walk_at "mi") => `(tactic| try simp only [↓w_vr, ↓w_cn, ↓w_e2, ↓w_tup, ↓w_lst, ↓w_aN, ↓w_aC, ↓w_call, ↓w_B, ↓w_M, ↓w_oN, ↓w_oS, ↓w_sl, ↓w_B1, ↓w_Tl, ↓w_An, ↓w_Or, ↓w_No, ↓w_eAn, ↓w_eO, ↓w_eNo, ↓w_eNeg, ↓w_eIf, ↓w_ch, ↓w_Dn, ↓w_lRg1, ↓w_trg1, ↓w_yes, ↓ws_forS, ↓ws_forG, ↓w_lcS, ↓w_lcG, ↓w_dcS, ↓w_dcG, items_tup, items_rol, ↓ws_seq, ↓ws_skip, ↓ws_set, ↓ws_ex, ↓ws_ret, ↓ws_retN, ↓ws_bk, ↓ws_ct, ↓ws_if, ↓ws_asg, ↓ws_dput, ↓ws_daug, ↓ws_lput, ↓ws_aug, ↓wp_some, ↓wp_none, ↓wp_if, ↓wp_map, ↓wf_ok, ↓asI_int, ↓asBl_bl,
  List.getElem?_cons_zero, List.getElem?_cons_succ, List.set_cons_zero, List.set_cons_succ, opI_int, addD_int, mulD_int, intB_int, intB_bl, absB_int, lenB_rol, lenB_tup, ixD_rol, ixD_tup, atI0, atI1, atI2, atI3, atI4, asgT_n, tyQ, appQ, slQ, slD_tup, wipeE, List.length_cons, List.length_nil, List.length_map, true_and, and_true, decide_true, ↓reduceIte, bl_t, List.map_cons, List.map_nil, List.cons_append, List.nil_append, List.replicate_succ, List.replicate_zero, Nat.reduceAdd, Nat.reduceLeDiff, Int.reduceLT, Int.reduceLE, Int.reduceNeg, Int.reduceSub, eqD_str, eqD_int, neD_int, ofStr_eq, String.reduceEq, decide_false, decide_true, in_tup, flatD_str, flatD_int, List.all_cons, List.all_nil, List.any_cons, List.any_nil, eqF_str, Bool.and_true, Bool.and_self, Bool.or_false, Bool.or_true, Bool.true_or, Bool.false_or, Bool.false_eq_true, Bool.not_true, Bool.not_false, in_top, ixD_top, tupB_top, items_top, lenB_top, tru_bl, asgT_2, asgT_3, ↓w_pN, ↓w_pC, ↓w_Dct, ixD_tup, isi_non_int, isi_non_bool, isi_non_str, isi_non_tuple, isi_bl_int, isi_bl_bool, isi_bl_str, isi_bl_tuple, isi_int_int, isi_int_bool, isi_int_str, isi_int_tuple, isi_str_int, isi_str_bool, isi_str_str, isi_str_tuple, isi_tup_int, isi_tup_bool, isi_tup_str, isi_tup_tuple, Int.cast_ofNat_Int, Int.reduceEq])

theorem blk_snoc {A B : Int} {init : List D} {l : D} : blkOkD A B (.tup (init ++ [l])) = ((init.all (rowOkD A B) && rowOkD A B l) && (isEnd l && !init.any isEnd)) := by
  show (match (init ++ [l]).getLast? with | none => false | some l' => (init ++ [l]).all (rowOkD A B) && (isEnd l' && !(init ++ [l]).dropLast.any isEnd)) = _
  rw [List.getLast?_concat, List.dropLast_concat, List.all_append]
  simp
theorem blk_good {A B : Int} {ds : List D} (hn : ds ≠ []) (h : ∀ (i : Nat) (d : D), ds[i]? = some d → rowL A B (decide ((i : Int) = (ds.length : Int) - 1)) d = true) : blkOkD A B (.tup ds) = true := by
  rcases List.eq_nil_or_concat ds with rfl | ⟨init, l, rfl⟩
  · exact absurd rfl hn
  rw [List.concat_eq_append] at h ⊢
  have hi : ∀ d ∈ init, rowOkD A B d = true ∧ isEnd d = false := by
    intro d hd
    obtain ⟨i, hi, rfl⟩ := List.mem_iff_getElem.mp hd
    have := h i init[i] (by rw [List.getElem?_append_left hi, List.getElem?_eq_getElem hi])
    rw [decide_eq_false (by rw [List.length_append, List.length_singleton]; omega)] at this
    unfold rowL at this
    rw [Bool.and_eq_true] at this
    exact ⟨this.1, by simpa using this.2⟩
  have hl := h init.length l (by rw [List.getElem?_append_right (Nat.le_refl _), Nat.sub_self]; rfl)
  rw [decide_eq_true (by rw [List.length_append, List.length_singleton]; omega)] at hl
  unfold rowL at hl
  rw [Bool.and_eq_true] at hl
  rw [blk_snoc, hl.1]
  have e1 : init.all (rowOkD A B) = true := List.all_eq_true.mpr fun d hd => (hi d hd).1
  have e2 : init.any isEnd = false := List.any_eq_false.mpr fun d hd => by rw [(hi d hd).2]; decide
  have e3 : isEnd l = true := by simpa using hl.2
  rw [e1, e2, e3]; rfl
theorem blk_bad {A B : Int} {ds : List D} {i : Nat} {d : D} (hd : ds[i]? = some d) (h : ¬ rowL A B (decide ((i : Int) = (ds.length : Int) - 1)) d = true) : blkOkD A B (.tup ds) = false := by
  rcases List.eq_nil_or_concat ds with rfl | ⟨init, l, rfl⟩
  · cases hd
  rw [List.concat_eq_append] at h hd ⊢
  rw [blk_snoc]
  by_cases c : i < init.length
  · rw [decide_eq_false (by rw [List.length_append, List.length_singleton]; omega)] at h
    rw [List.getElem?_append_left c] at hd
    have hm := List.mem_of_getElem? hd
    unfold rowL at h
    by_cases c1 : rowOkD A B d = true
    · rw [c1, Bool.true_and] at h
      have : isEnd d = true := by simpa using h
      have e : init.any isEnd = true := List.any_eq_true.mpr ⟨d, hm, this⟩
      rw [e]; simp
    · have e : init.all (rowOkD A B) = false := List.all_eq_false.mpr ⟨d, hm, by simpa using c1⟩
      rw [e]; rfl
  · have hlt := (List.getElem?_eq_some_iff.mp hd).1
    rw [List.length_append, List.length_singleton] at hlt
    have hi : i = init.length := by omega
    subst hi
    rw [List.getElem?_append_right (Nat.le_refl _), Nat.sub_self] at hd
    cases hd
    rw [decide_eq_true (by rw [List.length_append, List.length_singleton]; omega)] at h
    unfold rowL at h
    by_cases c1 : rowOkD A B d = true
    · rw [c1, Bool.true_and] at h
      have : isEnd d = false := by simpa using h
      rw [this]; simp
    · have : rowOkD A B d = false := by simpa using c1
      rw [this]; simp
/-- the law's look at an array -/
theorem lawarr_ok {th d : D} {k : Nat} {s : S} {x2 x3 : Option D} {N B C : Mi.Env → S → Prop} {Q : D → S → Prop} (h : Nice k d) (hk : k < 50)
    (kN : ∀ s', Gr s s' → arrOkD d = true → N [some th, some d, x2, x3] s') (kQ : ∀ s', Gr s s' → ¬ arrOkD d = true → Q (.bl false) s') : WS g_law_is_program_b1 [some th, some d, x2, x3] s N Q B C := by
  unfold g_law_is_program_b1
  have kq : arrOkD d = false → Q (.bl false) s := fun e => kQ s (Gr.refl s) (by rw [e]; decide)
  cases d with
  | tup ds =>
    obtain ⟨j, rfl, hlen, hall⟩ := nice_tup h
    walk_at "mi"
    match ds, hall, kq, kN, kQ with
    | [], hall, kq, kN, kQ => walk_at "mi"; exact kq rfl
    | [a], hall, kq, kN, kQ => walk_at "mi"; exact kq (by cases a <;> rfl)
    | [a, b], hall, kq, kN, kQ => walk_at "mi"; exact kq (by cases a <;> rfl)
    | a :: b :: c :: e :: r, hall, kq, kN, kQ =>
      have : ¬ (((r.length + 1 + 1 + 1 + 1 : Nat) : Int) = 3) := by omega
      walk_at "mi"
      simp only [this, decide_false, Bool.not_false, ↓reduceIte]
      exact kq (by cases a <;> rfl)
    | [a, b, c], hall, kq, kN, kQ =>
      have ha := hall a (by simp)
      have hb := hall b (by simp)
      have hc := hall c (by simp)
      walk_at "mi"
      cases a with
      | str x =>
        walk_at "mi"
        have e0 : arrOkD (.tup [.str x, b, c]) = (numOk 64 b && ((match b with | .int i => decide (0 < i) | _ => false) && txtOk ["public", "secret"] c)) := by cases b <;> rfl
        rw [e0] at kq kN kQ
        rw [lawnum_ok hb]
        walk_at "mi"
        cases hn : numOk 64 b with
        | false =>
          rw [hn] at kq
          simp only [Bool.not_false, ↓reduceIte]
          exact kq rfl
        | true =>
          rw [hn] at kq kN kQ
          obtain ⟨i, rfl⟩ : ∃ i, b = .int i := by cases b <;> first | exact ⟨_, rfl⟩ | cases hn
          simp only [Bool.not_true, Bool.false_eq_true, ↓reduceIte, Bool.true_and] at kq kN kQ ⊢
          walk_at "mi"
          have hi0 : 0 ≤ i := (of_decide_eq_true hn).1
          by_cases hi : i = 0
          · subst hi
            simp only [↓reduceIte]
            exact kq rfl
          · have hi' : 0 < i := by omega
            simp only [hi, hi', ↓reduceIte, decide_true, Bool.true_and] at kq kN kQ ⊢
            cases c with
            | str y =>
              walk_at "mi"
              have e1 : txtOk ["public", "secret"] (.str y) = decide (y ∈ (["public", "secret"] : List Str)) := rfl
              rw [e1] at kN kQ
              have hm := any_strs ["public", "secret"] y
              simp only [List.map_cons, List.map_nil, List.any_cons, List.any_nil, eqF_str, Bool.or_false] at hm
              rw [hm]
              split
              · rename_i hbb
                exact kQ _ (Gr.app _ _) (by simpa using hbb)
              · rename_i hbb
                exact kN _ (Gr.app _ _) (by revert hbb; cases decide (y ∈ (["public", "secret"] : List Str)) <;> simp)
            | non => walk_at "mi"; exact kq rfl
            | bl b => walk_at "mi"; exact kq rfl
            | tup x => walk_at "mi"; exact kq rfl
            | int ds => walk_at "mi"; exact kq rfl
            | _ => cases j <;> exact hc.elim
      | non => walk_at "mi"; exact kq rfl
      | bl b => walk_at "mi"; exact kq rfl
      | tup x => walk_at "mi"; exact kq rfl
      | int ds => walk_at "mi"; exact kq rfl
      | _ => cases j <;> exact ha.elim
  | non => walk_at "mi"; exact kq rfl
  | bl b => walk_at "mi"; exact kq rfl
  | str x => walk_at "mi"; exact kq rfl
  | int ds => walk_at "mi"; exact kq rfl
  | _ => cases k <;> exact h.elim
theorem lawblk_ok {as bs : List D} {n d : D} {k : Nat} {s : S} {x1 x3 : Option D} {N B C : Mi.Env → S → Prop} {Q : D → S → Prop} (h : Nice k d) (hk : k < 50)
    (kN : ∀ s' x3', Gr s s' → blkOkD as.length bs.length d = true → N [some (.tup [.tup as, n, .tup bs]), x1, some d, x3'] s') (kQ : ∀ s', Gr s s' → ¬ blkOkD as.length bs.length d = true → Q (.bl false) s') : WS g_law_is_program_b3 [some (.tup [.tup as, n, .tup bs]), x1, some d, x3] s N Q B C := by
  unfold g_law_is_program_b3
  have kq : blkOkD as.length bs.length d = false → Q (.bl false) s := fun e => kQ s (Gr.refl s) (by rw [e]; decide)
  cases d with
  | tup ds =>
    obtain ⟨j, rfl, hlen, hall⟩ := nice_tup h
    walk_at "mi"
    rw [eq_empty h hk]
    walk_at "mi"
    cases hds : ds.isEmpty with
    | true =>
      simp only [↓reduceIte]
      have : ds = [] := by simpa using hds
      subst this
      exact kq rfl
    | false =>
      simp only [Bool.false_eq_true, ↓reduceIte]
      have hne : ds ≠ [] := by intro z; rw [z] at hds; cases hds
      refine ⟨by omega, ?_⟩
      rw [Int.toNat_natCast]
      refine fs_rng (fun i env st => (∃ x3, env = [some (.tup [.tup as, n, .tup bs]), x1, some (.tup ds), x3]) ∧ Gr s st ∧ ∀ (i' : Nat) (d : D), i' < i → ds[i']? = some d → rowL as.length bs.length (decide ((i' : Int) = (ds.length : Int) - 1)) d = true) ⟨⟨_, rfl⟩, Gr.refl _, fun i' d h => by omega⟩ ?_ ?_
      · rintro i env st hi ⟨⟨x3, rfl⟩, hG, hok⟩
        unfold g_law_is_program_b2
        obtain ⟨d, hd⟩ : ∃ d, ds[i]? = some d := ⟨_, List.getElem?_eq_getElem hi⟩
        walk_at "mi"
        rw [atI_nat' hd]
        walk_at "mi"
        refine lawrow_ok (hall d (List.mem_of_getElem? hd)) (by omega) fun s2 hG2 => ?_
        walk_at "mi"
        split
        · rename_i hb
          exact kQ _ (hG.trans hG2) (by rw [blk_bad hd (by simpa using hb)]; decide)
        · rename_i hb
          refine ⟨⟨_, rfl⟩, hG.trans hG2, fun i' d' hi' e => ?_⟩
          by_cases hii : i' = i
          · subst hii
            rw [hd] at e; cases e
            simpa using hb
          · exact hok i' d' (by omega) e
      · rintro env st ⟨⟨x3, rfl⟩, hG, hok⟩
        exact kN _ _ hG (blk_good hne fun i d e => hok i d (List.getElem?_eq_some_iff.mp e).1 e)
  | non => walk_at "mi"; exact kq rfl
  | bl b => walk_at "mi"; exact kq rfl
  | str x => walk_at "mi"; exact kq rfl
  | int ds => walk_at "mi"; exact kq rfl
  | _ => cases k <;> exact h.elim
theorem lawprog_ok {d : D} {k : Nat} {s : S} {Q : D → S → Prop} (h : Nice k d) (hk : k < 50) (kq : ∀ s', Gr s s' → Q (.bl (irOkD d)) s') : WF (F_law_is_program [d] s) Q := by
  unfold F_law_is_program
  refine (wf_fn (by rfl)).mpr ?_
  unfold g_law_is_program
  cases d with
  | tup ds =>
    obtain ⟨j, rfl, hlen, hall⟩ := nice_tup h
    by_cases hl : ds.length = 3
    · obtain ⟨a, b, c, rfl⟩ := len3 hl
      have ha := hall a (by simp)
      have hb := hall b (by simp)
      have hc := hall c (by simp)
      have kq1 := kq s (Gr.refl s)
      cases a with
      | tup as =>
        obtain ⟨j, rfl, halen, haall⟩ := nice_tup ha
        cases c with
        | tup bs =>
          have e0 : irOkD (.tup [.tup as, b, .tup bs]) = (!bs.isEmpty && (as.all arrOkD && (numOk 100001 b && bs.all (blkOkD as.length bs.length)))) := rfl
          rw [e0] at kq
          walk_at "mi"
          refine fs_inv (fun i env st => (∃ x1 x2 x3, env = [some (.tup [.tup as, b, .tup bs]), x1, x2, x3]) ∧ Gr s st ∧ ∀ d ∈ as.take i, arrOkD d = true) okD_tup ⟨⟨_, _, _, rfl⟩, Gr.refl _, fun d h => by cases h⟩ ?_ ?_
          · rintro i d env st hi ⟨⟨x1, x2, x3, rfl⟩, hG, hok⟩ _
            rw [asgT_n, wp_some]
            refine lawarr_ok (haall d (List.mem_of_getElem? hi)) (by omega) ?_ ?_
            · intro s2 hG2 ho
              refine ⟨okD_tup, ⟨_, _, _, rfl⟩, hG.trans hG2, fun d' hd' => ?_⟩
              rw [List.take_add_one, hi] at hd'
              rcases List.mem_append.mp hd' with h | h
              · exact hok d' h
              · rw [List.mem_singleton.mp h]; exact ho
            · intro s2 hG2 ho
              have : as.all arrOkD = false := List.all_eq_false.mpr ⟨d, List.mem_of_getElem? hi, ho⟩
              rw [this, Bool.false_and, Bool.and_false] at kq
              exact kq _ (hG.trans hG2)
          · rintro env st ⟨⟨x1, x2, x3, rfl⟩, hG, hok⟩ _
            rw [List.take_length] at hok
            have : as.all arrOkD = true := List.all_eq_true.mpr hok
            rw [this, Bool.true_and] at kq
            walk_at "mi"
            rw [lawnum_ok hb]
            walk_at "mi"
            cases hn : numOk 100001 b with
            | false =>
              rw [hn, Bool.false_and, Bool.and_false] at kq
              simp only [Bool.not_false, ↓reduceIte]
              exact kq _ hG
            | true =>
              rw [hn, Bool.true_and] at kq
              simp only [Bool.not_true, Bool.false_eq_true, ↓reduceIte]
              rw [eq_empty hc (by omega)]
              walk_at "mi"
              cases hbe : bs.isEmpty with
              | true =>
                rw [hbe] at kq
                simp only [↓reduceIte]
                exact kq _ hG
              | false =>
                rw [hbe, Bool.not_false, Bool.true_and] at kq
                simp only [Bool.false_eq_true, ↓reduceIte]
                obtain ⟨j2, e2, hclen, hcall⟩ := nice_tup hc
                refine fs_inv (fun i env st => (∃ x1 x2 x3, env = [some (.tup [.tup as, b, .tup bs]), x1, x2, x3]) ∧ Gr s st ∧ ∀ d ∈ bs.take i, blkOkD as.length bs.length d = true) okD_tup ⟨⟨_, _, _, rfl⟩, hG, fun d h => by cases h⟩ ?_ ?_
                · rintro i d env st hi ⟨⟨x1, x2, x3, rfl⟩, hG, hok⟩ _
                  rw [asgT_n, wp_some]
                  refine lawblk_ok (hcall d (List.mem_of_getElem? hi)) (by omega) ?_ ?_
                  · intro s2 x3' hG2 ho
                    refine ⟨okD_tup, ⟨_, _, _, rfl⟩, hG.trans hG2, fun d' hd' => ?_⟩
                    rw [List.take_add_one, hi] at hd'
                    rcases List.mem_append.mp hd' with h | h
                    · exact hok d' h
                    · rw [List.mem_singleton.mp h]; exact ho
                  · intro s2 hG2 ho
                    have : bs.all (blkOkD as.length bs.length) = false := List.all_eq_false.mpr ⟨d, List.mem_of_getElem? hi, ho⟩
                    rw [this] at kq
                    exact kq _ (hG.trans hG2)
                · rintro env st ⟨⟨x1, x2, x3, rfl⟩, hG, hok⟩ _
                  rw [List.take_length] at hok
                  have : bs.all (blkOkD as.length bs.length) = true := List.all_eq_true.mpr hok
                  rw [this] at kq
                  walk_at "mi"
                  exact kq _ hG
        | non => walk_at "mi"; exact kq1
        | bl b => walk_at "mi"; exact kq1
        | str x => walk_at "mi"; exact kq1
        | int ds => walk_at "mi"; exact kq1
        | _ => exact hc.elim
      | non => walk_at "mi"; exact kq1
      | bl b => walk_at "mi"; exact kq1
      | str x => walk_at "mi"; exact kq1
      | int ds => walk_at "mi"; exact kq1
      | _ => cases j <;> exact ha.elim
    · have hl' : ¬ ((ds.length : Nat) : Int) = 3 := by omega
      walk_at "mi"
      simp only [hl', decide_false, Bool.not_false, ↓reduceIte]
      rw [ir_len hl] at kq
      exact kq _ (Gr.refl _)
  | non => walk_at "mi"; exact kq _ (Gr.refl _)
  | bl b => walk_at "mi"; exact kq _ (Gr.refl _)
  | str x => walk_at "mi"; exact kq _ (Gr.refl _)
  | int ds => walk_at "mi"; exact kq _ (Gr.refl _)
  | _ => cases k <;> exact h.elim
end My

set_option Elab.async false
set_option linter.all false
set_option maxRecDepth 100000
set_option maxHeartbeats 4000000
namespace My
open PySem PySem.Spec PyProof.Rows L2 Mi
local macro_rules | `(tactic| walk_at "mi") => `(tactic| try simp only [↓w_vr, ↓w_cn, ↓w_e2, ↓w_tup, ↓w_lst, ↓w_aN, ↓w_aC, ↓w_call, ↓w_B, ↓w_M, ↓w_oN, ↓w_oS, ↓w_sl, ↓w_B1, ↓w_Tl, ↓w_An, ↓w_Or, ↓w_No, ↓w_eAn, ↓w_eO, ↓w_eNo, ↓w_eNeg, ↓w_eIf, ↓w_ch, ↓w_Dn, ↓w_lRg1, ↓w_trg1, ↓w_yes, ↓ws_forS, ↓ws_forG, ↓w_lcS, ↓w_lcG, ↓w_dcS, ↓w_dcG, items_tup, items_rol, ↓ws_seq, ↓ws_skip, ↓ws_set, ↓ws_ex, ↓ws_ret, ↓ws_retN, ↓ws_bk, ↓ws_ct, ↓ws_if, ↓ws_asg, ↓ws_dput, ↓ws_daug, ↓ws_lput, ↓ws_aug, ↓wp_some, ↓wp_none, ↓wp_if, ↓wp_map, ↓wf_ok, ↓asI_int, ↓asBl_bl,
  List.getElem?_cons_zero, List.getElem?_cons_succ, List.set_cons_zero, List.set_cons_succ, opI_int, addD_int, mulD_int, intB_int, intB_bl, absB_int, lenB_rol, lenB_tup, ixD_rol, ixD_tup, atI0, atI1, atI2, atI3, atI4, asgT_n, tyQ, appQ, slQ, slD_tup, wipeE, List.length_cons, List.length_nil, List.length_map, true_and, and_true, decide_true, ↓reduceIte, bl_t, List.map_cons, List.map_nil, List.cons_append, List.nil_append, List.replicate_succ, List.replicate_zero, Nat.reduceAdd, Nat.reduceLeDiff, Int.reduceLT, Int.reduceLE, Int.reduceNeg, Int.reduceSub, eqD_str, eqD_int, neD_int, ofStr_eq, String.reduceEq, decide_false, decide_true, in_tup, flatD_str, flatD_int, List.all_cons, List.all_nil, List.any_cons, List.any_nil, eqF_str, Bool.and_true, Bool.and_self, Bool.or_false, Bool.or_true, Bool.true_or, Bool.false_or, Bool.false_eq_true, Bool.not_true, Bool.not_false, in_top, ixD_top, tupB_top, items_top, lenB_top, tru_bl, asgT_2, asgT_3, ↓w_pN, ↓w_pC, ↓w_Dct, ixD_tup, isi_non_int, isi_non_bool, isi_non_str, isi_non_tuple, isi_bl_int, isi_bl_bool, isi_bl_str, isi_bl_tuple, isi_int_int, isi_int_bool, isi_int_str, isi_int_tuple, isi_str_int, isi_str_bool, isi_str_str, isi_str_tuple, isi_tup_int, isi_tup_bool, isi_tup_str, isi_tup_tuple, Int.cast_ofNat_Int, Int.reduceEq])

/-- data without objects, of bounded lengths -/
def Sm (L : Nat) : Nat → D → Prop
  | _, .non => True
  | _, .bl _ => True
  | _, .int _ => True
  | _, .str x => PyData.strOk x = true
  | k + 1, .tup ds => ds.length ≤ L ∧ ∀ d ∈ ds, Sm L k d
  | _, _ => False
theorem sm_nice {L : Nat} (hL : L ≤ 1000) : ∀ (k : Nat) (d : D), Sm L k d → Nice k d
  | k, .non, _ => by cases k <;> trivial
  | k, .bl _, _ => by cases k <;> trivial
  | k, .int _, _ => by cases k <;> trivial
  | 0, .str _, h => h
  | k + 1, .str _, h => h
  | k + 1, .tup ds, h => ⟨Nat.le_trans h.1 hL, fun d hd => sm_nice hL k d (h.2 d hd)⟩
  | 0, .tup _, h => h.elim
  | 0, .rol _, h => h.elim
  | k + 1, .rol _, h => h.elim
  | 0, .ref _, h => h.elim
  | k + 1, .ref _, h => h.elim
  | 0, .glo _, h => h.elim
  | k + 1, .glo _, h => h.elim
  | 0, .ty _, h => h.elim
  | k + 1, .ty _, h => h.elim
theorem sm_up {L L' : Nat} (hL : L ≤ L') : ∀ (k k' : Nat) (d : D), k ≤ k' → Sm L k d → Sm L' k' d
  | k, k', .non, _, _ => by cases k' <;> trivial
  | k, k', .bl _, _, _ => by cases k' <;> trivial
  | k, k', .int _, _, _ => by cases k' <;> trivial
  | 0, 0, .str _, _, h => h
  | 0, _ + 1, .str _, _, h => h
  | k + 1, k' + 1, .str _, _, h => h
  | k + 1, k' + 1, .tup ds, hk, h => ⟨Nat.le_trans h.1 hL, fun d hd => sm_up hL k k' d (by omega) (h.2 d hd)⟩
  | 0, _, .tup _, _, h => h.elim
  | 0, _, .rol _, _, h => h.elim
  | k + 1, _, .rol _, _, h => h.elim
  | 0, _, .ref _, _, h => h.elim
  | k + 1, _, .ref _, _, h => h.elim
  | 0, _, .glo _, _, h => h.elim
  | k + 1, _, .glo _, _, h => h.elim
  | 0, _, .ty _, _, h => h.elim
  | k + 1, _, .ty _, _, h => h.elim
def othersL : List D := [.non, .bl true, .bl false, .int (-1), .int 0, .int 1, .int 100001, .int 4294967296, .int 65, .str "public", .str "op", .str "+", .str "", .tup [], .tup [.str "stop", .int 0], .tup [.str "a", .int 1, .str "secret"], .tup [.tup [.str "jump", .int 0]]]
theorem sm_list {L k : Nat} {ds : List D} (h1 : ds.length ≤ L) (h2 : ∀ d ∈ ds, Sm L k d) : Sm L (k + 1) (.tup ds) := ⟨h1, h2⟩
theorem others_sm : ∀ d ∈ othersL, Sm 3 2 d := by
  intro d hd
  unfold othersL at hd
  simp only [List.mem_cons, List.not_mem_nil, or_false] at hd
  rcases hd with rfl | rfl | rfl | rfl | rfl | rfl | rfl | rfl | rfl | rfl | rfl | rfl | rfl | rfl | rfl | rfl | rfl
  all_goals first
    | trivial
    | (show PyData.strOk _ = true; decide +kernel)
    | skip
  · exact ⟨by decide, fun d h => by cases h⟩
  · refine ⟨by decide, fun d h => ?_⟩
    simp only [List.mem_cons, List.not_mem_nil, or_false] at h
    rcases h with rfl | rfl
    · (show PyData.strOk _ = true; decide +kernel)
    · trivial
  · refine ⟨by decide, fun d h => ?_⟩
    simp only [List.mem_cons, List.not_mem_nil, or_false] at h
    rcases h with rfl | rfl | rfl
    · (show PyData.strOk _ = true; decide +kernel)
    · trivial
    · (show PyData.strOk _ = true; decide +kernel)
  · refine ⟨by decide, fun d h => ?_⟩
    simp only [List.mem_cons, List.not_mem_nil, or_false] at h
    subst h
    refine ⟨by decide, fun d h => ?_⟩
    simp only [List.mem_cons, List.not_mem_nil, or_false] at h
    rcases h with rfl | rfl
    · (show PyData.strOk _ = true; decide +kernel)
    · trivial
theorem spoilt_ok {pw pd L : Nat} (hL : 3 ≤ L) (hL2 : L ≤ 900) : ∀ (r n k : Nat) (d : D) (s : S) (Q : D → S → Prop), n < r → k < 40 → Sm L k d → Wd pw pd s → (∀ d' s', Sm (L + 1) (k + 2) d' → Wd pw pd s' → Fr pw s s' → Q d' s') → WF (F_law_spoilt r [.ref pw, d, .int (n : Int)] s) Q := by
  intro r
  induction r with
  | zero => intro n k d s Q h; omega
  | succ r ih =>
    intro n k d s Q hn hk hd hW kq
    unfold F_law_spoilt
    refine (wf_fn (by rfl)).mpr ?_
    unfold g_law_spoilt
    have oth : ∀ (s1 : S), Wd pw pd s1 → Fr pw s s1 → WF (F_law_next [.ref pw, .int 17] (s1 ++ [O.lst othersL])) (fun d s2 => WP (ixD (.ref (List.length s1)) d s2) fun p => Q p.1 p.2) := by
      intro s1 hW1 hF1
      refine next_ok (hW1.app _) (by omega) ?_
      intro i s2 a2 b2 hW2 hF2
      rw [ixD_ref (hF2.get top_get (Nat.ne_of_gt hW1.lt.1))]
      obtain ⟨m, rfl⟩ : ∃ m : Nat, i = m := ⟨i.toNat, by omega⟩
      have hm : m < othersL.length := by show m < 17; omega
      rw [atI_nat' (List.getElem?_eq_getElem hm)]
      exact ⟨_, rfl, kq _ _ (sm_up (by omega) 2 (k + 2) _ (by omega) (others_sm _ (List.getElem_mem hm))) hW2 (hF1.trans ((Fr.app _ _ _).trans hF2))⟩
    refine ws_cut (I := fun e s' => e = [some (.ref pw), some d, some (.int (n : Int)), none, none, none] ∧ Wd pw pd s' ∧ Fr pw s s' ∧ ∃ ds, d = .tup ds ∧ ds ≠ [] ∧ n ≠ 0) ?_ ?_
    · have base := oth s hW (Fr.refl _ _)
      cases d with
      | tup ds =>
        walk_at "mi"
        rw [eq_empty (sm_nice (by omega) k _ hd) (by omega)]
        walk_at "mi"
        cases hds : ds.isEmpty with
        | true =>
          simp only [↓reduceIte]
          exact base
        | false =>
          simp only [Bool.false_eq_true, ↓reduceIte]
          by_cases hn0 : (n : Int) = 0
          · simp only [hn0, ↓reduceIte] at base ⊢
            exact base
          · simp only [hn0, ↓reduceIte]
            refine next_ok hW (by omega) ?_
            intro i s2 a2 b2 hW2 hF2
            walk_at "mi"
            split
            · exact oth s2 hW2 hF2
            · exact ⟨hW2, hF2, ds, rfl, (by intro z; rw [z] at hds; cases hds), by omega⟩
      | non => walk_at "mi"; exact base
      | bl b => walk_at "mi"; exact base
      | str x => walk_at "mi"; exact base
      | int ds => walk_at "mi"; exact base
      | _ => cases k <;> exact hd.elim
    · rintro _ s1 ⟨rfl, hW1, hF1, ds, rfl, hne, hn0⟩
      obtain ⟨j, rfl⟩ : ∃ j, k = j + 1 := by cases k with
        | zero => exact hd.elim
        | succ j => exact ⟨j, rfl⟩
      have hlen := hd.1
      have hall := hd.2
      have hpos : 0 < ds.length := by cases ds with
        | nil => exact absurd rfl hne
        | cons => exact Nat.succ_pos _
      walk_at "mi"
      refine next_ok hW1 (by omega) ?_
      intro at_ s2 a2 b2 hW2 hF2
      walk_at "mi"
      refine next_ok hW2 (by omega) ?_
      intro turn s3 a3 b3 hW3 hF3
      obtain ⟨m, rfl⟩ : ∃ m : Nat, at_ = m := ⟨at_.toNat, by omega⟩
      have hm : m < ds.length := by omega
      have hF : Fr pw s s3 := hF1.trans (hF2.trans hF3)
      have up : ∀ d ∈ ds, Sm (L + 1) (j + 2) d := fun d hd => sm_up (by omega) j (j + 2) d (by omega) (hall d hd)
      have cast : (m : Int) + 1 = ((m + 1 : Nat) : Int) := by omega
      have hix : atI ds (m : Int) = some ds[m] := atI_nat' (List.getElem?_eq_getElem hm)
      have hmem : ds[m] ∈ ds := List.getElem_mem hm
      walk_at "mi"
      by_cases h0 : turn = 0
      · simp only [h0, ↓reduceIte]
        rw [cast, cutD_take, cutD_drop, addD_tup, if_pos (by rw [List.length_take, List.length_drop]; omega)]
        walk_at "mi"
        refine kq _ _ (sm_list (by rw [List.length_append, List.length_take, List.length_drop]; omega) fun d hd => ?_) hW3 hF
        rcases List.mem_append.mp hd with h | h
        · exact up d (List.mem_of_mem_take h)
        · exact up d (List.mem_of_mem_drop h)
      · simp only [h0, ↓reduceIte]
        by_cases h1 : turn = 1
        · simp only [h1, ↓reduceIte]
          rw [cutD_take, hix]
          walk_at "mi"
          rw [addD_tup, if_pos (by rw [List.length_take, List.length_singleton]; omega)]
          walk_at "mi"
          rw [cutD_drop, addD_tup, if_pos (by rw [List.length_append, List.length_take, List.length_drop, List.length_singleton]; omega)]
          walk_at "mi"
          refine kq _ _ (sm_list (by rw [List.length_append, List.length_append, List.length_take, List.length_drop, List.length_singleton]; omega) fun d hd => ?_) hW3 hF
          rcases List.mem_append.mp hd with h | h
          · rcases List.mem_append.mp h with h | h
            · exact up d (List.mem_of_mem_take h)
            · rw [List.mem_singleton.mp h]; exact up _ hmem
          · exact up d (List.mem_of_mem_drop h)
        · simp only [h1, ↓reduceIte]
          rw [cutD_take, hix]
          walk_at "mi"
          rw [show (n : Int) - 1 = ((n - 1 : Nat) : Int) by omega]
          refine ih (n - 1) j ds[m] s3 _ (by omega) (by omega) (hall _ hmem) hW3 fun d' s4 hd' hW4 hF4 => ?_
          walk_at "mi"
          rw [addD_tup, if_pos (by rw [List.length_take, List.length_singleton]; omega)]
          walk_at "mi"
          rw [cast, cutD_drop, addD_tup, if_pos (by rw [List.length_append, List.length_take, List.length_drop, List.length_singleton]; omega)]
          walk_at "mi"
          refine kq _ _ (sm_list (by rw [List.length_append, List.length_append, List.length_take, List.length_drop, List.length_singleton]; omega) fun d hd => ?_) hW4 (hF.trans hF4)
          rcases List.mem_append.mp hd with h | h
          · rcases List.mem_append.mp h with h | h
            · exact up d (List.mem_of_mem_take h)
            · rw [List.mem_singleton.mp h]; exact hd'
          · exact up d (List.mem_of_mem_drop h)
/-! ### sizes -/
theorem size_ok {n : Int} {s : S} {Q : D → S → Prop} (hn : 1 ≤ n ∧ n ≤ 64) (k : ∀ v : Int, v ∈ ([1, 2, 4, 8, 16, 32, 64] : List Int) → n ≤ v → v < 2 * n → Q (.int v) s) : WF (F_size_of [.int n] s) Q := by
  unfold F_size_of
  refine (wf_fn (by rfl)).mpr ?_
  unfold g_size_of
  walk_at "mi"
  refine ws_while (fun m env st => st = s ∧ ∃ v : Int, env = [some (.int n), some (.int v)] ∧ v ∈ ([1, 2, 4, 8, 16, 32, 64] : List Int) ∧ v < 2 * n ∧ m = (64 - v).toNat) 63 (by omega) ⟨rfl, 1, rfl, by simp, by omega, by omega⟩ ?_
  rintro m env st ⟨rfl, v, rfl, hv, h2, rfl⟩
  walk_at "mi"
  by_cases c : v < n
  · simp only [c, ↓reduceIte, decide_true]
    unfold g_size_of_b1
    walk_at "mi"
    simp only [List.mem_cons, List.not_mem_nil, or_false] at hv
    refine ⟨by left; omega, (64 - v * 2).toNat, by omega, _, rfl, ?_, by omega, rfl⟩
    simp only [List.mem_cons, List.not_mem_nil, or_false]
    omega
  · simp only [c, ↓reduceIte, decide_false, Bool.false_eq_true]
    exact k v hv (by omega) h2
/-! ### a drawn program is one -/
theorem row_sm {A B : Int} {r : Row} (h : r.Ok A B) : Sm 20 1 r.enc := by
  have hs : ∀ x ∈ Signs, PyData.strOk x = true := by decide +kernel
  cases r <;> refine ⟨by show (_ : Nat) ≤ 20; simp, fun d hd => ?_⟩ <;> unfold Row.enc at hd <;> simp only [List.mem_cons, List.not_mem_nil, or_false] at hd
  case op g d a b =>
    rcases hd with rfl | rfl | rfl | rfl | rfl
    · show PyData.strOk _ = true; decide +kernel
    · exact hs g h.1
    all_goals trivial
  all_goals
    rcases hd with rfl | hd
    · show PyData.strOk _ = true; decide +kernel
    repeat (first | (subst hd; trivial) | (rcases hd with rfl | hd; trivial))
theorem numI {m i : Int} (h : 0 ≤ i ∧ i ≤ m) : numOk m (.int i) = true := decide_eq_true h
theorem pR {A B i : Int} (h : Rg i) : partOk A B "r" (.int i) = true := numI (m := 100000) ⟨h.1, by have := h.2; omega⟩
theorem pN {A B i : Int} (h : 0 ≤ i ∧ i < 4294967296) : partOk A B "n" (.int i) = true := by
  simp only [partOk, ofStr_eq, String.reduceEq, ↓reduceIte]
  exact numI ⟨h.1, by omega⟩
theorem pI {A B i : Int} (h : 0 ≤ i ∧ i < A) : partOk A B "i" (.int i) = true := by
  simp only [partOk, ofStr_eq, String.reduceEq, ↓reduceIte]
  exact numI ⟨h.1, by omega⟩
theorem pT {A B i : Int} (h : 0 ≤ i ∧ i < B) : partOk A B "t" (.int i) = true := by
  simp only [partOk, ofStr_eq, String.reduceEq, ↓reduceIte]
  exact numI ⟨h.1, by omega⟩
theorem pG {A B : Int} {g : Str} (h : g ∈ Signs) : partOk A B "g" (.str g) = true := by
  simp only [partOk, ↓reduceIte]
  exact decide_eq_true h
theorem row_is {A B : Int} {r : Row} (h : r.Ok A B) : rowOkD A B r.enc = true ∧ isEnd r.enc = r.last := by
  cases r with
  | const d n =>
    refine ⟨?_, by kernel_rfl⟩
    show (match shapeOf "const" with | some z => partsOk A B (kinds z) [.int d, .int n] | none => false) = true
    rw [show shapeOf "const" = some "rn" from by kernel_rfl]
    show partsOk A B (kinds "rn") [.int d, .int n] = true
    rw [show kinds "rn" = (["r", "n"] : List Str) from by kernel_rfl]
    have hh := h
    obtain ⟨h0, h1⟩ := hh
    simp only [partsOk, Bool.and_true]
    rw [pR h0, pN h1]
    rfl
  | copy d a =>
    refine ⟨?_, by kernel_rfl⟩
    show (match shapeOf "copy" with | some z => partsOk A B (kinds z) [.int d, .int a] | none => false) = true
    rw [show shapeOf "copy" = some "rr" from by kernel_rfl]
    show partsOk A B (kinds "rr") [.int d, .int a] = true
    rw [show kinds "rr" = (["r", "r"] : List Str) from by kernel_rfl]
    have hh := h
    obtain ⟨h0, h1⟩ := hh
    simp only [partsOk, Bool.and_true]
    rw [pR h0, pR h1]
    rfl
  | op g d a b =>
    refine ⟨?_, by kernel_rfl⟩
    show (match shapeOf "op" with | some z => partsOk A B (kinds z) [.str g, .int d, .int a, .int b] | none => false) = true
    rw [show shapeOf "op" = some "grrr" from by kernel_rfl]
    show partsOk A B (kinds "grrr") [.str g, .int d, .int a, .int b] = true
    rw [show kinds "grrr" = (["g", "r", "r", "r"] : List Str) from by kernel_rfl]
    have hh := h
    obtain ⟨h0, h1, h2, h3⟩ := hh
    simp only [partsOk, Bool.and_true]
    rw [pG h0, pR h1, pR h2, pR h3]
    rfl
  | select d c a b =>
    refine ⟨?_, by kernel_rfl⟩
    show (match shapeOf "select" with | some z => partsOk A B (kinds z) [.int d, .int c, .int a, .int b] | none => false) = true
    rw [show shapeOf "select" = some "rrrr" from by kernel_rfl]
    show partsOk A B (kinds "rrrr") [.int d, .int c, .int a, .int b] = true
    rw [show kinds "rrrr" = (["r", "r", "r", "r"] : List Str) from by kernel_rfl]
    have hh := h
    obtain ⟨h0, h1, h2, h3⟩ := hh
    simp only [partsOk, Bool.and_true]
    rw [pR h0, pR h1, pR h2, pR h3]
    rfl
  | load d i a =>
    refine ⟨?_, by kernel_rfl⟩
    show (match shapeOf "load" with | some z => partsOk A B (kinds z) [.int d, .int i, .int a] | none => false) = true
    rw [show shapeOf "load" = some "rir" from by kernel_rfl]
    show partsOk A B (kinds "rir") [.int d, .int i, .int a] = true
    rw [show kinds "rir" = (["r", "i", "r"] : List Str) from by kernel_rfl]
    have hh := h
    obtain ⟨h0, h1, h2⟩ := hh
    simp only [partsOk, Bool.and_true]
    rw [pR h0, pI h1, pR h2]
    rfl
  | store i a v =>
    refine ⟨?_, by kernel_rfl⟩
    show (match shapeOf "store" with | some z => partsOk A B (kinds z) [.int i, .int a, .int v] | none => false) = true
    rw [show shapeOf "store" = some "irr" from by kernel_rfl]
    show partsOk A B (kinds "irr") [.int i, .int a, .int v] = true
    rw [show kinds "irr" = (["i", "r", "r"] : List Str) from by kernel_rfl]
    have hh := h
    obtain ⟨h0, h1, h2⟩ := hh
    simp only [partsOk, Bool.and_true]
    rw [pI h0, pR h1, pR h2]
    rfl
  | out a =>
    refine ⟨?_, by kernel_rfl⟩
    show (match shapeOf "out" with | some z => partsOk A B (kinds z) [.int a] | none => false) = true
    rw [show shapeOf "out" = some "r" from by kernel_rfl]
    show partsOk A B (kinds "r") [.int a] = true
    rw [show kinds "r" = (["r"] : List Str) from by kernel_rfl]
    have hh := h
    have h0 := hh
    simp only [partsOk, Bool.and_true]
    rw [pR h0]
  | jump t =>
    refine ⟨?_, by kernel_rfl⟩
    show (match shapeOf "jump" with | some z => partsOk A B (kinds z) [.int t] | none => false) = true
    rw [show shapeOf "jump" = some "t" from by kernel_rfl]
    show partsOk A B (kinds "t") [.int t] = true
    rw [show kinds "t" = (["t"] : List Str) from by kernel_rfl]
    have hh := h
    have h0 := hh
    simp only [partsOk, Bool.and_true]
    rw [pT h0]
  | branch a t u =>
    refine ⟨?_, by kernel_rfl⟩
    show (match shapeOf "branch" with | some z => partsOk A B (kinds z) [.int a, .int t, .int u] | none => false) = true
    rw [show shapeOf "branch" = some "rtt" from by kernel_rfl]
    show partsOk A B (kinds "rtt") [.int a, .int t, .int u] = true
    rw [show kinds "rtt" = (["r", "t", "t"] : List Str) from by kernel_rfl]
    have hh := h
    obtain ⟨h0, h1, h2⟩ := hh
    simp only [partsOk, Bool.and_true]
    rw [pR h0, pT h1, pT h2]
    rfl
  | stop a =>
    refine ⟨?_, by kernel_rfl⟩
    show (match shapeOf "stop" with | some z => partsOk A B (kinds z) [.int a] | none => false) = true
    rw [show shapeOf "stop" = some "r" from by kernel_rfl]
    show partsOk A B (kinds "r") [.int a] = true
    rw [show kinds "r" = (["r"] : List Str) from by kernel_rfl]
    have hh := h
    have h0 := hh
    simp only [partsOk, Bool.and_true]
    rw [pR h0]
theorem ar_is {a : Ar} (h : 1 ≤ a.len ∧ a.len ≤ 11 ∧ PyData.strOk a.name = true) : arrOkD a.enc = true ∧ Sm 20 1 a.enc := by
  have hl : lab a.sec ∈ (["public", "secret"] : List Str) := by unfold lab; cases a.sec <;> decide +kernel
  constructor
  · show (numOk 64 (.int a.len) && (decide (0 < a.len) && decide (lab a.sec ∈ (["public", "secret"] : List Str)))) = true
    rw [numI ⟨by omega, by omega⟩, decide_eq_true (by omega), decide_eq_true hl]; rfl
  · refine ⟨by show (3 : Nat) ≤ 20; omega, fun d hd => ?_⟩
    unfold Ar.enc at hd
    simp only [List.mem_cons, List.not_mem_nil, or_false] at hd
    rcases hd with rfl | rfl | rfl
    · exact h.2.2
    · trivial
    · show PyData.strOk (lab a.sec) = true
      unfold lab; cases a.sec <;> decide +kernel
theorem prog_sm {p : Pg} (hp : p.Ok) : Sm 20 4 p.enc := by
  unfold Pg.enc
  refine ⟨by show (3 : Nat) ≤ 20; omega, fun d hd => ?_⟩
  simp only [List.mem_cons, List.not_mem_nil, or_false] at hd
  rcases hd with rfl | rfl | rfl
  · refine ⟨by rw [List.length_map]; have := hp.na; omega, fun d hd => ?_⟩
    obtain ⟨a, ha, rfl⟩ := List.mem_map.mp hd
    exact sm_up (Nat.le_refl _) 1 2 _ (by omega) (ar_is (hp.al a ha)).2
  · trivial
  · refine ⟨by rw [List.length_map]; have := hp.nb; omega, fun d hd => ?_⟩
    obtain ⟨b, hb, rfl⟩ := List.mem_map.mp hd
    obtain ⟨rs, r, rfl, _, h1, h7, h2⟩ := hp.bl b hb
    refine ⟨by rw [List.length_map, List.length_append, List.length_singleton]; omega, fun d hd => ?_⟩
    obtain ⟨x, hx, rfl⟩ := List.mem_map.mp hd
    rcases List.mem_append.mp hx with h | h
    · exact row_sm (h2 x h).2
    · rw [List.mem_singleton.mp h]; exact row_sm h1
theorem prog_is {p : Pg} (hp : p.Ok) : irOkD p.enc = true := by
  show (!(p.blocks.map encB).isEmpty && ((p.arrays.map Ar.enc).all arrOkD && (numOk 100001 (.int p.params) && (p.blocks.map encB).all (blkOkD (p.arrays.map Ar.enc).length (p.blocks.map encB).length)))) = true
  have h1 : (p.blocks.map encB).isEmpty = false := by
    have := hp.nb.1
    cases hb : p.blocks with
    | nil => rw [hb] at this; exact absurd this (by decide)
    | cons b bs => rfl
  have h2 : (p.arrays.map Ar.enc).all arrOkD = true := List.all_eq_true.mpr fun d hd => by
    obtain ⟨a, ha, rfl⟩ := List.mem_map.mp hd
    exact (ar_is (hp.al a ha)).1
  have h3 : numOk 100001 (.int p.params) = true := numI ⟨hp.pr.1, by have := hp.pr.2; omega⟩
  have h4 : (p.blocks.map encB).all (blkOkD (p.arrays.map Ar.enc).length (p.blocks.map encB).length) = true := List.all_eq_true.mpr fun d hd => by
    obtain ⟨b, hb, rfl⟩ := List.mem_map.mp hd
    obtain ⟨rs, r, rfl, hlast, h1, h7, h2⟩ := hp.bl b hb
    rw [List.length_map, List.length_map]
    have e : encB (rs ++ [r]) = .tup (rs.map Row.enc ++ [r.enc]) := by unfold encB; rw [List.map_append]; rfl
    rw [e, blk_snoc]
    have r1 : (rs.map Row.enc).all (rowOkD p.arrays.length p.blocks.length) = true := List.all_eq_true.mpr fun d hd => by
      obtain ⟨x, hx, rfl⟩ := List.mem_map.mp hd
      exact (row_is (h2 x hx).2).1
    have r2 : (rs.map Row.enc).any isEnd = false := List.any_eq_false.mpr fun d hd => by
      obtain ⟨x, hx, rfl⟩ := List.mem_map.mp hd
      rw [(row_is (h2 x hx).2).2, (h2 x hx).1]; decide
    have r3 := row_is h1
    rw [r1, r2, r3.1, r3.2, hlast]; rfl
  rw [h1, h2, h3, h4]; rfl
end My

set_option Elab.async false
set_option linter.all false
set_option maxRecDepth 100000
set_option maxHeartbeats 4000000
namespace My
open PySem PySem.Spec PyProof.Rows L2 Mi
local macro_rules | `(tactic| walk_at "mi") => `(tactic| try simp only [↓w_vr, ↓w_cn, ↓w_e2, ↓w_tup, ↓w_lst, ↓w_aN, ↓w_aC, ↓w_call, ↓w_B, ↓w_M, ↓w_oN, ↓w_oS, ↓w_sl, ↓w_B1, ↓w_Tl, ↓w_An, ↓w_Or, ↓w_No, ↓w_eAn, ↓w_eO, ↓w_eNo, ↓w_eNeg, ↓w_eIf, ↓w_ch, ↓w_Dn, ↓w_lRg1, ↓w_trg1, ↓w_yes, ↓ws_forS, ↓ws_forG, ↓w_lcS, ↓w_lcG, ↓w_dcS, ↓w_dcG, items_tup, items_rol, ↓ws_seq, ↓ws_skip, ↓ws_set, ↓ws_ex, ↓ws_ret, ↓ws_retN, ↓ws_bk, ↓ws_ct, ↓ws_if, ↓ws_asg, ↓ws_dput, ↓ws_daug, ↓ws_lput, ↓ws_aug, ↓wp_some, ↓wp_none, ↓wp_if, ↓wp_map, ↓wf_ok, ↓asI_int, ↓asBl_bl,
  List.getElem?_cons_zero, List.getElem?_cons_succ, List.set_cons_zero, List.set_cons_succ, opI_int, addD_int, mulD_int, intB_int, intB_bl, absB_int, lenB_rol, lenB_tup, ixD_rol, ixD_tup, atI0, atI1, atI2, atI3, atI4, asgT_n, tyQ, appQ, slQ, slD_tup, wipeE, List.length_cons, List.length_nil, List.length_map, true_and, and_true, decide_true, ↓reduceIte, bl_t, List.map_cons, List.map_nil, List.cons_append, List.nil_append, List.replicate_succ, List.replicate_zero, Nat.reduceAdd, Nat.reduceLeDiff, Int.reduceLT, Int.reduceLE, Int.reduceNeg, Int.reduceSub, eqD_str, eqD_int, neD_int, ofStr_eq, String.reduceEq, decide_false, decide_true, in_tup, flatD_str, flatD_int, List.all_cons, List.all_nil, List.any_cons, List.any_nil, eqF_str, Bool.and_true, Bool.and_self, Bool.or_false, Bool.or_true, Bool.true_or, Bool.false_or, Bool.false_eq_true, Bool.not_true, Bool.not_false, in_top, ixD_top, tupB_top, items_top, lenB_top, tru_bl, asgT_2, asgT_3, ↓w_pN, ↓w_pC, ↓w_Dct, ixD_tup, isi_non_int, isi_non_bool, isi_non_str, isi_non_tuple, isi_bl_int, isi_bl_bool, isi_bl_str, isi_bl_tuple, isi_int_int, isi_int_bool, isi_int_str, isi_int_tuple, isi_str_int, isi_str_bool, isi_str_str, isi_str_tuple, isi_tup_int, isi_tup_bool, isi_tup_str, isi_tup_tuple, Int.cast_ofNat_Int, Int.reduceEq])

theorem appl_w32 {g : Str} {a b : Int} (hg : g ∈ Signs) (ha : W32 a) (hb : W32 b) : W32 (appl g a b) := by
  unfold Signs at hg
  simp only [List.mem_cons, List.not_mem_nil, or_false] at hg
  obtain ⟨A, rfl⟩ : ∃ A : Nat, a = A := ⟨a.toNat, by unfold W32 at ha; omega⟩
  obtain ⟨B, rfl⟩ : ∃ B : Nat, b = B := ⟨b.toNat, by unfold W32 at hb; omega⟩
  unfold W32 at ha hb
  have hk := sh_pos ((B : Int) % 32).toNat (by omega)
  rcases hg with rfl | rfl | rfl | rfl | rfl | rfl | rfl | rfl | rfl | rfl | rfl | rfl | rfl
  · simp only [appl, W32, ofStr_eq, String.reduceEq, ↓reduceIte]; omega
  · simp only [appl, W32, ofStr_eq, String.reduceEq, ↓reduceIte]; omega
  · simp only [appl, W32, ofStr_eq, String.reduceEq, ↓reduceIte]; omega
  · rw [← nop_appl (Or.inl rfl) (by omega) (by omega)]
    have := nop_lt (g := "&") (x := A) (y := B) (by omega) (by omega)
    unfold W32; omega
  · rw [← nop_appl (Or.inr (Or.inl rfl)) (by omega) (by omega)]
    have := nop_lt (g := "|") (x := A) (y := B) (by omega) (by omega)
    unfold W32; omega
  · rw [← nop_appl (Or.inr (Or.inr rfl)) (by omega) (by omega)]
    have := nop_lt (g := "^") (x := A) (y := B) (by omega) (by omega)
    unfold W32; omega
  · simp only [appl, W32, ofStr_eq, String.reduceEq, ↓reduceIte]; omega
  · simp only [appl, W32, ofStr_eq, String.reduceEq, ↓reduceIte]
    have h1 := Int.ediv_nonneg ha.1 (Int.le_of_lt hk.1)
    have h2 := Int.ediv_le_self ((2 : Int) ^ ((B : Int) % 32).toNat) ha.1
    omega
  · simp only [appl, W32, ofStr_eq, String.reduceEq, ↓reduceIte]; split <;> omega
  · simp only [appl, W32, ofStr_eq, String.reduceEq, ↓reduceIte]; split <;> omega
  · simp only [appl, W32, ofStr_eq, String.reduceEq, ↓reduceIte]; split <;> omega
  · simp only [appl, W32, ofStr_eq, String.reduceEq, ↓reduceIte]
    split
    · omega
    · have h1 := Int.ediv_nonneg ha.1 hb.1
      have h2 := Int.ediv_le_self (B : Int) ha.1
      omega
  · simp only [appl, W32, ofStr_eq, String.reduceEq, ↓reduceIte]
    split
    · omega
    · rename_i h
      rw [← Int.emod_def]
      have h1 := Int.emod_nonneg (A : Int) h
      have h2 := Int.emod_lt_of_pos (A : Int) (b := B) (by omega)
      omega
theorem Wd.gr {pw pd : Nat} {s s' : S} (h : Wd pw pd s) (g : Gr s s') : Wd pw pd s' := by
  obtain ⟨a, ms, h0, h1, h2, h3, h4, h5⟩ := h
  exact ⟨a, ms, h0, g.get h1, g.get h2, h3, h4, h5⟩
theorem turn1_ok {pw pd i : Nat} {x0 x3 x4 x5 x6 x7 x8 x9 : Option D} {s : S} {N B C : Mi.Env → S → Prop} {Rt : D → S → Prop} (hi : i < 13) (hW : Wd pw pd s)
    (k : ∀ x3 x4 x5 s', Wd pw pd s' → N [x0, some (.ref pw), some (.int (i : Int)), x3, x4, x5, x6, x7, x8, x9] s') : WS g_law_b1 [x0, some (.ref pw), some (.int (i : Int)), x3, x4, x5, x6, x7, x8, x9] s N Rt B C := by
  unfold g_law_b1
  refine ws_cut (I := fun e s' => ∃ a : Int, W32 a ∧ e = [x0, some (.ref pw), some (.int (i : Int)), some (.int a), x4, x5, x6, x7, x8, x9] ∧ Wd pw pd s') ?_ ?_
  · walk_at "mi"
    refine word_ok hW fun a s1 ha hW1 hF1 => ?_
    walk_at "mi"
    exact ⟨a, ha, rfl, hW1⟩
  rintro _ s1 ⟨a, ha, rfl, hW1⟩
  refine ws_cut (I := fun e s' => ∃ b : Int, W32 b ∧ e = [x0, some (.ref pw), some (.int (i : Int)), some (.int a), some (.int b), x5, x6, x7, x8, x9] ∧ Wd pw pd s') ?_ ?_
  · walk_at "mi"
    refine word_ok hW1 fun b1 s2 hb1 hW2 hF2 => ?_
    walk_at "mi"
    refine next_ok hW2 (by omega) ?_
    intro k3 s3 a3 b3 hW3 hF3
    walk_at "mi"
    refine next_ok (hW3.app _) (by omega) ?_
    intro k4 s4 a4 b4 hW4 hF4
    walk_at "mi"
    rw [ixD_ref (hF4.get top_get (Nat.ne_of_gt hW3.lt.1))]
    obtain rfl | rfl | rfl : k4 = 0 ∨ k4 = 1 ∨ k4 = 2 := by omega
    · walk_at "mi"; exact ⟨_, hb1, rfl, hW4⟩
    · walk_at "mi"; exact ⟨_, ha, rfl, hW4⟩
    · walk_at "mi"; exact ⟨_, by unfold W32; omega, rfl, hW4⟩
  rintro _ s2 ⟨b, hb, rfl, hW2⟩
  obtain ⟨g, hg, hgi⟩ : ∃ g, g ∈ Signs ∧ ∀ s, ixD dv_SIGNS (.int (i : Int)) s = some (.str g, s) := by
    refine ⟨Signs[i]'hi, List.getElem_mem _, fun s => ?_⟩
    show ixD (.tup (Signs.map D.str)) _ _ = _
    rw [ixD_tup, atI_nat' (d := .str (Signs[i]'hi)) (by rw [List.getElem?_map, List.getElem?_eq_getElem hi]; rfl)]; rfl
  refine ws_cut (I := fun e s' => e = [x0, some (.ref pw), some (.int (i : Int)), some (.int a), some (.int b), some (.int (appl g a b)), x6, x7, x8, x9] ∧ s' = s2) ?_ ?_
  · walk_at "mi"
    rw [hgi]
    walk_at "mi"
    rw [apply_ok hg ha hb]
    walk_at "mi"
  rintro _ s3 ⟨rfl, h1⟩
  rw [h1]; clear h1
  have hw := appl_w32 hg ha hb
  walk_at "mi"
  rw [lawnum_ok (k := 0) (show Nice 0 (.int (appl g a b)) from trivial), numI (by unfold W32 at hw; omega)]
  walk_at "mi"
  rw [hgi]
  walk_at "mi"
  refine lawapp_ok hg ha hb fun s4 hG => ?_
  walk_at "mi"
  exact k _ _ _ _ (hW2.gr hG)
theorem turn2_ok {pw pd : Nat} {p : Pg} {x0 x2 x3 x4 x5 x6 x7 x9 : Option D} {s : S} {N B C : Mi.Env → S → Prop} {Rt : D → S → Prop} (hp : p.Ok) (hW : Wd pw pd s)
    (k : ∀ x5 x9 s', Wd pw pd s' → N [x0, some (.ref pw), x2, x3, x4, x5, x6, x7, some p.enc, x9] s') : WS g_law_b2 [x0, some (.ref pw), x2, x3, x4, x5, x6, x7, some p.enc, x9] s N Rt B C := by
  unfold g_law_b2
  walk_at "mi"
  refine next_ok hW (by omega) ?_
  intro k1 s1 a1 b1 hW1 hF1
  walk_at "mi"
  obtain ⟨n, hn⟩ : ∃ n : Nat, 1 + k1 = n := ⟨(1 + k1).toNat, by omega⟩
  rw [hn]
  refine spoilt_ok (L := 20) (by omega) (by omega) 7 n 4 _ _ _ (by omega) (by omega) (prog_sm hp) hW1 fun d' s2 hd' hW2 hF2 => ?_
  have hnice : Nice 6 d' := sm_nice (by omega) 6 d' hd'
  walk_at "mi"
  refine ir_ok hnice (by omega) fun s3 hG3 => ?_
  walk_at "mi"
  refine lawprog_ok hnice (by omega) fun s4 hG4 => ?_
  walk_at "mi"
  rw [neD_bl, decide_eq_true rfl]
  walk_at "mi"
  exact k _ _ _ ((hW2.gr hG3).gr hG4)
theorem law_true (ns : List Int) (hl : ns.length ≤ 63) : ∃ s, F_law [.rol (ns.map D.int)] [] = .ok (.bl true) s := by
  suffices h : WF (F_law [.rol (ns.map D.int)] []) fun d _ => d = .bl true by
    obtain ⟨d, s, e, rfl⟩ := h
    exact ⟨s, e⟩
  unfold F_law
  refine (wf_fn (by rfl)).mpr ?_
  unfold g_law
  refine ws_cut (I := fun e s => e = [some (.rol (ns.map D.int)), some (.ref 2), none, none, none, none, none, none, none, none] ∧ Wd 2 1 s) ?_ ?_
  · walk_at "mi"
    refine WF.mono (draws_ok ns hl 420 (by decide) []) ?_
    rintro d s1 ⟨ms, a, hms, hml, rfl, rfl⟩
    walk_at "mi"
    rw [show keyed [(D.str "draws", D.ref 1), (D.str "at", D.int 0)] = some (wK 1 0) from by kernel_rfl, wp_some]
    rw [show mergeD [] (wK 1 0) = wK 1 0 from by kernel_rfl]
    refine ⟨by show (2 : Nat) ≤ 15; omega, ?_⟩
    exact ⟨0, ms, by omega, rfl, rfl, hms, hml, by omega⟩
  rintro _ s1 ⟨rfl, hW1⟩
  refine ws_cut (I := fun e s => e = [some (.rol (ns.map D.int)), some (.ref 2), none, none, none, none, none, none, none, none] ∧ s = s1) ?_ ?_
  · walk_at "mi"
    rw [show tupB [dv_SIGNS] s1 = some (dv_SIGNS, s1) from rfl]
    walk_at "mi"
    show WP (neD dv_SIGNS dv_SIGNS s1) _
    rw [show neD dv_SIGNS dv_SIGNS s1 = some (.bl false, s1) from by kernel_rfl]
    walk_at "mi"
  rintro _ s2 ⟨rfl, h1⟩
  rw [h1]; clear h1
  refine ws_cut (I := fun e s => (∃ x2 x3 x4 x5, e = [some (.rol (ns.map D.int)), some (.ref 2), x2, x3, x4, x5, none, none, none, none]) ∧ Wd 2 1 s) ?_ ?_
  · walk_at "mi"
    refine fs_rng (n := 13) (fun i e s => (∃ x2 x3 x4 x5, e = [some (.rol (ns.map D.int)), some (.ref 2), x2, x3, x4, x5, none, none, none, none]) ∧ Wd 2 1 s) ⟨⟨_, _, _, _, rfl⟩, hW1⟩ ?_ ?_
    · rintro i e s hi ⟨⟨x2, x3, x4, x5, rfl⟩, hW⟩
      rw [asgT_n, wp_some]
      exact turn1_ok hi hW fun x3 x4 x5 s' hW' => ⟨⟨_, _, _, _, rfl⟩, hW'⟩
    · rintro e s ⟨⟨x2, x3, x4, x5, rfl⟩, hW⟩
      exact ⟨⟨_, _, _, _, rfl⟩, hW⟩
  rintro _ s3 ⟨⟨x2, x3, x4, x5, rfl⟩, hW3⟩
  walk_at "mi"
  refine next_ok hW3 (by omega) ?_
  intro k1 s4 a1 b1 hW4 hF4
  walk_at "mi"
  refine size_ok (by omega) fun v hv h1 h2 => ?_
  walk_at "mi"
  have hm := any_ints [1, 2, 4, 8, 16, 32, 64] v
  rw [decide_eq_true hv] at hm
  simp only [List.map_cons, List.map_nil, List.any_cons, List.any_nil, Bool.or_false] at hm
  simp only [hm, Bool.not_true, Bool.false_eq_true, ↓reduceIte, show ¬ v < 1 + k1 by omega, show ¬ 2 * (1 + k1) ≤ v by omega]
  refine ⟨by left; omega, ?_⟩
  refine program_ok (hW4.app _) fun p s5 hp hW5 hF5 => ?_
  walk_at "mi"
  refine ir_ok (sm_nice (by omega) 4 _ (prog_sm hp)) (by omega) fun s6 hG6 => ?_
  rw [prog_is hp, show isNotD (.bl true) (.bl true) s6 = some (.bl false, s6) from rfl]
  walk_at "mi"
  refine fs_rng (n := 5) (fun i e s => (∃ x2 x5 x9, e = [some (.rol (ns.map D.int)), some (.ref 2), x2, x3, x4, x5, some (.int (1 + k1)), some (.int v), some p.enc, x9]) ∧ Wd 2 1 s) ⟨⟨_, _, _, rfl⟩, hW5.gr hG6⟩ ?_ ?_
  · rintro i e s hi ⟨⟨x2, x5, x9, rfl⟩, hW⟩
    rw [asgT_n, wp_some]
    exact turn2_ok hp hW fun x5 x9 s' hW' => ⟨⟨_, _, _, rfl⟩, hW'⟩
  · rintro e s ⟨⟨x2, x5, x9, rfl⟩, hW⟩
    trivial
end My

set_option Elab.async false
set_option linter.all false
set_option maxRecDepth 100000
namespace My
open PySem PySem.Spec PyProof.Rows L2 Mi
theorem top_mk {l : PySem.W.OpenLaw} {w : World} {K : PySem.W.Frag} {h : Heap} {mg : Str → Option Value} {fa f1 f2 f3 f4 f5 f6 f7 f8 f9 f10 f11 f12 f13 f14 f15 f16 f17 f18 f19 f20 f21 f22 f23 : Addr}
    {od1 an1 : Option Addr} {sl1 : Array (Option Value)} {oc1 kV1 dc1 pm1 cd1 ct1 : Value}
    {od2 an2 : Option Addr} {sl2 : Array (Option Value)} {oc2 kV2 dc2 pm2 cd2 ct2 : Value}
    {od3 an3 : Option Addr} {sl3 : Array (Option Value)} {oc3 kV3 dc3 pm3 cd3 ct3 : Value}
    {od4 an4 : Option Addr} {sl4 : Array (Option Value)} {oc4 kV4 dc4 pm4 cd4 ct4 : Value}
    {od5 an5 : Option Addr} {sl5 : Array (Option Value)} {oc5 kV5 dc5 pm5 cd5 ct5 : Value}
    {od6 an6 : Option Addr} {sl6 : Array (Option Value)} {oc6 kV6 dc6 pm6 cd6 ct6 : Value}
    {od7 an7 : Option Addr} {sl7 : Array (Option Value)} {oc7 kV7 dc7 pm7 cd7 ct7 : Value}
    {od8 an8 : Option Addr} {sl8 : Array (Option Value)} {oc8 kV8 dc8 pm8 cd8 ct8 : Value}
    {od9 an9 : Option Addr} {sl9 : Array (Option Value)} {oc9 kV9 dc9 pm9 cd9 ct9 : Value}
    {od10 an10 : Option Addr} {sl10 : Array (Option Value)} {oc10 kV10 dc10 pm10 cd10 ct10 : Value}
    {od11 an11 : Option Addr} {sl11 : Array (Option Value)} {oc11 kV11 dc11 pm11 cd11 ct11 : Value}
    {od12 an12 : Option Addr} {sl12 : Array (Option Value)} {oc12 kV12 dc12 pm12 cd12 ct12 : Value}
    {od13 an13 : Option Addr} {sl13 : Array (Option Value)} {oc13 kV13 dc13 pm13 cd13 ct13 : Value}
    {od14 an14 : Option Addr} {sl14 : Array (Option Value)} {oc14 kV14 dc14 pm14 cd14 ct14 : Value}
    {od15 an15 : Option Addr} {sl15 : Array (Option Value)} {oc15 kV15 dc15 pm15 cd15 ct15 : Value}
    {od16 an16 : Option Addr} {sl16 : Array (Option Value)} {oc16 kV16 dc16 pm16 cd16 ct16 : Value}
    {od17 an17 : Option Addr} {sl17 : Array (Option Value)} {oc17 kV17 dc17 pm17 cd17 ct17 : Value}
    {od18 an18 : Option Addr} {sl18 : Array (Option Value)} {oc18 kV18 dc18 pm18 cd18 ct18 : Value}
    {od19 an19 : Option Addr} {sl19 : Array (Option Value)} {oc19 kV19 dc19 pm19 cd19 ct19 : Value}
    {od20 an20 : Option Addr} {sl20 : Array (Option Value)} {oc20 kV20 dc20 pm20 cd20 ct20 : Value}
    {od21 an21 : Option Addr} {sl21 : Array (Option Value)} {oc21 kV21 dc21 pm21 cd21 ct21 : Value}
    {od22 an22 : Option Addr} {sl22 : Array (Option Value)} {oc22 kV22 dc22 pm22 cd22 ct22 : Value}
    {od23 an23 : Option Addr} {sl23 : Array (Option Value)} {oc23 kV23 dc23 pm23 cd23 ct23 : Value}
    {vd0 : Addr} {vi0 : Array Value} {vn0 : Nat}
    {vt1 : Tok}
    {vt2 : Tok}
    {vt3 : Tok}
    {vd4 : Addr} {vi4 : Array Value} {vn4 : Nat}
    {vd5 : Addr} {vi5 : Array Value} {vn5 : Nat}
    {dd0 : Addr} {es0 : Array DictEntry} {nn0 : Nat}
    (X : K.In h) (G : h.Ns mainGlobals mg) (hfa : mg "law" = some (.ref fa))
    (a1 : PySem.W.nsIn K mainGlobals "shifted" = some (some (.ref f1)))
    (l1 : K.lookup f1 = some ⟨oc1, od1, .func (PySem.W.fnOf "shifted" "shifted" (defArgs s_shifted) (defBody s_shifted) (defScope s_shifted) .none kV1 dc1 pm1 an1 cd1 ct1), sl1⟩)
    (c1 : PySem.W.codeIn K cd1 "shifted" = true)
    (k1 : PySem.W.keepIn K (.ref f1) = true)
    (a2 : PySem.W.nsIn K mainGlobals "divided" = some (some (.ref f2)))
    (l2 : K.lookup f2 = some ⟨oc2, od2, .func (PySem.W.fnOf "divided" "divided" (defArgs s_divided) (defBody s_divided) (defScope s_divided) .none kV2 dc2 pm2 an2 cd2 ct2), sl2⟩)
    (c2 : PySem.W.codeIn K cd2 "divided" = true)
    (k2 : PySem.W.keepIn K (.ref f2) = true)
    (a3 : PySem.W.nsIn K mainGlobals "apply" = some (some (.ref f3)))
    (l3 : K.lookup f3 = some ⟨oc3, od3, .func (PySem.W.fnOf "apply" "apply" (defArgs s_apply) (defBody s_apply) (defScope s_apply) .none kV3 dc3 pm3 an3 cd3 ct3), sl3⟩)
    (c3 : PySem.W.codeIn K cd3 "apply" = true)
    (k3 : PySem.W.keepIn K (.ref f3) = true)
    (a4 : PySem.W.nsIn K mainGlobals "size_of" = some (some (.ref f4)))
    (l4 : K.lookup f4 = some ⟨oc4, od4, .func (PySem.W.fnOf "size_of" "size_of" (defArgs s_size_of) (defBody s_size_of) (defScope s_size_of) .none kV4 dc4 pm4 an4 cd4 ct4), sl4⟩)
    (c4 : PySem.W.codeIn K cd4 "size_of" = true)
    (k4 : PySem.W.keepIn K (.ref f4) = true)
    (a5 : PySem.W.nsIn K mainGlobals "is_number" = some (some (.ref f5)))
    (l5 : K.lookup f5 = some ⟨oc5, od5, .func (PySem.W.fnOf "is_number" "is_number" (defArgs s_is_number) (defBody s_is_number) (defScope s_is_number) .none kV5 dc5 pm5 an5 cd5 ct5), sl5⟩)
    (c5 : PySem.W.codeIn K cd5 "is_number" = true)
    (k5 : PySem.W.keepIn K (.ref f5) = true)
    (a6 : PySem.W.nsIn K mainGlobals "is_text" = some (some (.ref f6)))
    (l6 : K.lookup f6 = some ⟨oc6, od6, .func (PySem.W.fnOf "is_text" "is_text" (defArgs s_is_text) (defBody s_is_text) (defScope s_is_text) .none kV6 dc6 pm6 an6 cd6 ct6), sl6⟩)
    (c6 : PySem.W.codeIn K cd6 "is_text" = true)
    (k6 : PySem.W.keepIn K (.ref f6) = true)
    (a7 : PySem.W.nsIn K mainGlobals "part_fits" = some (some (.ref f7)))
    (l7 : K.lookup f7 = some ⟨oc7, od7, .func (PySem.W.fnOf "part_fits" "part_fits" (defArgs s_part_fits) (defBody s_part_fits) (defScope s_part_fits) .none kV7 dc7 pm7 an7 cd7 ct7), sl7⟩)
    (c7 : PySem.W.codeIn K cd7 "part_fits" = true)
    (k7 : PySem.W.keepIn K (.ref f7) = true)
    (a8 : PySem.W.nsIn K mainGlobals "is_row" = some (some (.ref f8)))
    (l8 : K.lookup f8 = some ⟨oc8, od8, .func (PySem.W.fnOf "is_row" "is_row" (defArgs s_is_row) (defBody s_is_row) (defScope s_is_row) .none kV8 dc8 pm8 an8 cd8 ct8), sl8⟩)
    (c8 : PySem.W.codeIn K cd8 "is_row" = true)
    (k8 : PySem.W.keepIn K (.ref f8) = true)
    (a9 : PySem.W.nsIn K mainGlobals "is_block" = some (some (.ref f9)))
    (l9 : K.lookup f9 = some ⟨oc9, od9, .func (PySem.W.fnOf "is_block" "is_block" (defArgs s_is_block) (defBody s_is_block) (defScope s_is_block) .none kV9 dc9 pm9 an9 cd9 ct9), sl9⟩)
    (c9 : PySem.W.codeIn K cd9 "is_block" = true)
    (k9 : PySem.W.keepIn K (.ref f9) = true)
    (a10 : PySem.W.nsIn K mainGlobals "is_array" = some (some (.ref f10)))
    (l10 : K.lookup f10 = some ⟨oc10, od10, .func (PySem.W.fnOf "is_array" "is_array" (defArgs s_is_array) (defBody s_is_array) (defScope s_is_array) .none kV10 dc10 pm10 an10 cd10 ct10), sl10⟩)
    (c10 : PySem.W.codeIn K cd10 "is_array" = true)
    (k10 : PySem.W.keepIn K (.ref f10) = true)
    (a11 : PySem.W.nsIn K mainGlobals "is_ir" = some (some (.ref f11)))
    (l11 : K.lookup f11 = some ⟨oc11, od11, .func (PySem.W.fnOf "is_ir" "is_ir" (defArgs s_is_ir) (defBody s_is_ir) (defScope s_is_ir) .none kV11 dc11 pm11 an11 cd11 ct11), sl11⟩)
    (c11 : PySem.W.codeIn K cd11 "is_ir" = true)
    (k11 : PySem.W.keepIn K (.ref f11) = true)
    (a12 : PySem.W.nsIn K mainGlobals "_law_draws" = some (some (.ref f12)))
    (l12 : K.lookup f12 = some ⟨oc12, od12, .func (PySem.W.fnOf "_law_draws" "_law_draws" (defArgs s_law_draws) (defBody s_law_draws) (defScope s_law_draws) .none kV12 dc12 pm12 an12 cd12 ct12), sl12⟩)
    (c12 : PySem.W.codeIn K cd12 "_law_draws" = true)
    (k12 : PySem.W.keepIn K (.ref f12) = true)
    (a13 : PySem.W.nsIn K mainGlobals "_law_next" = some (some (.ref f13)))
    (l13 : K.lookup f13 = some ⟨oc13, od13, .func (PySem.W.fnOf "_law_next" "_law_next" (defArgs s_law_next) (defBody s_law_next) (defScope s_law_next) .none kV13 dc13 pm13 an13 cd13 ct13), sl13⟩)
    (c13 : PySem.W.codeIn K cd13 "_law_next" = true)
    (k13 : PySem.W.keepIn K (.ref f13) = true)
    (a14 : PySem.W.nsIn K mainGlobals "_law_row" = some (some (.ref f14)))
    (l14 : K.lookup f14 = some ⟨oc14, od14, .func (PySem.W.fnOf "_law_row" "_law_row" (defArgs s_law_row) (defBody s_law_row) (defScope s_law_row) .none kV14 dc14 pm14 an14 cd14 ct14), sl14⟩)
    (c14 : PySem.W.codeIn K cd14 "_law_row" = true)
    (k14 : PySem.W.keepIn K (.ref f14) = true)
    (a15 : PySem.W.nsIn K mainGlobals "_law_program" = some (some (.ref f15)))
    (l15 : K.lookup f15 = some ⟨oc15, od15, .func (PySem.W.fnOf "_law_program" "_law_program" (defArgs s_law_program) (defBody s_law_program) (defScope s_law_program) .none kV15 dc15 pm15 an15 cd15 ct15), sl15⟩)
    (c15 : PySem.W.codeIn K cd15 "_law_program" = true)
    (k15 : PySem.W.keepIn K (.ref f15) = true)
    (a16 : PySem.W.nsIn K mainGlobals "_law_word" = some (some (.ref f16)))
    (l16 : K.lookup f16 = some ⟨oc16, od16, .func (PySem.W.fnOf "_law_word" "_law_word" (defArgs s_law_word) (defBody s_law_word) (defScope s_law_word) .none kV16 dc16 pm16 an16 cd16 ct16), sl16⟩)
    (c16 : PySem.W.codeIn K cd16 "_law_word" = true)
    (k16 : PySem.W.keepIn K (.ref f16) = true)
    (a17 : PySem.W.nsIn K mainGlobals "_law_bits" = some (some (.ref f17)))
    (l17 : K.lookup f17 = some ⟨oc17, od17, .func (PySem.W.fnOf "_law_bits" "_law_bits" (defArgs s_law_bits) (defBody s_law_bits) (defScope s_law_bits) .none kV17 dc17 pm17 an17 cd17 ct17), sl17⟩)
    (c17 : PySem.W.codeIn K cd17 "_law_bits" = true)
    (k17 : PySem.W.keepIn K (.ref f17) = true)
    (a18 : PySem.W.nsIn K mainGlobals "_law_applied" = some (some (.ref f18)))
    (l18 : K.lookup f18 = some ⟨oc18, od18, .func (PySem.W.fnOf "_law_applied" "_law_applied" (defArgs s_law_applied) (defBody s_law_applied) (defScope s_law_applied) .none kV18 dc18 pm18 an18 cd18 ct18), sl18⟩)
    (c18 : PySem.W.codeIn K cd18 "_law_applied" = true)
    (k18 : PySem.W.keepIn K (.ref f18) = true)
    (a19 : PySem.W.nsIn K mainGlobals "_law_is_number" = some (some (.ref f19)))
    (l19 : K.lookup f19 = some ⟨oc19, od19, .func (PySem.W.fnOf "_law_is_number" "_law_is_number" (defArgs s_law_is_number) (defBody s_law_is_number) (defScope s_law_is_number) .none kV19 dc19 pm19 an19 cd19 ct19), sl19⟩)
    (c19 : PySem.W.codeIn K cd19 "_law_is_number" = true)
    (k19 : PySem.W.keepIn K (.ref f19) = true)
    (a20 : PySem.W.nsIn K mainGlobals "_law_is_row" = some (some (.ref f20)))
    (l20 : K.lookup f20 = some ⟨oc20, od20, .func (PySem.W.fnOf "_law_is_row" "_law_is_row" (defArgs s_law_is_row) (defBody s_law_is_row) (defScope s_law_is_row) .none kV20 dc20 pm20 an20 cd20 ct20), sl20⟩)
    (c20 : PySem.W.codeIn K cd20 "_law_is_row" = true)
    (k20 : PySem.W.keepIn K (.ref f20) = true)
    (a21 : PySem.W.nsIn K mainGlobals "_law_is_program" = some (some (.ref f21)))
    (l21 : K.lookup f21 = some ⟨oc21, od21, .func (PySem.W.fnOf "_law_is_program" "_law_is_program" (defArgs s_law_is_program) (defBody s_law_is_program) (defScope s_law_is_program) .none kV21 dc21 pm21 an21 cd21 ct21), sl21⟩)
    (c21 : PySem.W.codeIn K cd21 "_law_is_program" = true)
    (k21 : PySem.W.keepIn K (.ref f21) = true)
    (a22 : PySem.W.nsIn K mainGlobals "_law_spoilt" = some (some (.ref f22)))
    (l22 : K.lookup f22 = some ⟨oc22, od22, .func (PySem.W.fnOf "_law_spoilt" "_law_spoilt" (defArgs s_law_spoilt) (defBody s_law_spoilt) (defScope s_law_spoilt) .none kV22 dc22 pm22 an22 cd22 ct22), sl22⟩)
    (c22 : PySem.W.codeIn K cd22 "_law_spoilt" = true)
    (k22 : PySem.W.keepIn K (.ref f22) = true)
    (a23 : PySem.W.nsIn K mainGlobals "law" = some (some (.ref f23)))
    (l23 : K.lookup f23 = some ⟨oc23, od23, .func (PySem.W.fnOf "law" "law" (defArgs s_law) (defBody s_law) (defScope s_law) .none kV23 dc23 pm23 an23 cd23 ct23), sl23⟩)
    (c23 : PySem.W.codeIn K cd23 "law" = true)
    (k23 : PySem.W.keepIn K (.ref f23) = true)
    (z_int : PySem.W.nsIn K mainGlobals "int" = some none)
    (z_isinstance : PySem.W.nsIn K mainGlobals "isinstance" = some none)
    (z_bool : PySem.W.nsIn K mainGlobals "bool" = some none)
    (z_str : PySem.W.nsIn K mainGlobals "str" = some none)
    (z_tuple : PySem.W.nsIn K mainGlobals "tuple" = some none)
    (z_len : PySem.W.nsIn K mainGlobals "len" = some none)
    (z_all : PySem.W.nsIn K mainGlobals "all" = some none)
    (z_range : PySem.W.nsIn K mainGlobals "range" = some none)
    (z_any : PySem.W.nsIn K mainGlobals "any" = some none)
    (z_abs : PySem.W.nsIn K mainGlobals "abs" = some none)
    (va0 : PySem.W.nsIn K mainGlobals "SIGNS" = some (some (.ref vd0)))
    (vl0 : K.lookup vd0 = some ⟨.type "tuple", none, .seq vi0 vn0, #[]⟩)
    (vz0 : vi0.size ≤ sizeLine)
    (vv0 : Vals [V.str "+", V.str "-", V.str "*", V.str "&", V.str "|", V.str "^", V.str "<<", V.str ">>", V.str "==", V.str "<", V.str "<=", V.str "div", V.str "mod"] vi0.toList)
    (va1 : PySem.W.nsIn K mainGlobals "WORD" = some (some (.int 4294967296 vt1)))
    (va2 : PySem.W.nsIn K mainGlobals "MOST" = some (some (.int 100000 vt2)))
    (va3 : PySem.W.nsIn K mainGlobals "LONGEST" = some (some (.int 64 vt3)))
    (va4 : PySem.W.nsIn K mainGlobals "LABELS" = some (some (.ref vd4)))
    (vl4 : K.lookup vd4 = some ⟨.type "tuple", none, .seq vi4 vn4, #[]⟩)
    (vz4 : vi4.size ≤ sizeLine)
    (vv4 : Vals [V.str "public", V.str "secret"] vi4.toList)
    (va5 : PySem.W.nsIn K mainGlobals "ENDS" = some (some (.ref vd5)))
    (vl5 : K.lookup vd5 = some ⟨.type "tuple", none, .seq vi5 vn5, #[]⟩)
    (vz5 : vi5.size ≤ sizeLine)
    (vv5 : Vals [V.str "jump", V.str "branch", V.str "stop"] vi5.toList)
    (da0 : PySem.W.nsIn K mainGlobals "SHAPES" = some (some (.ref dd0)))
    (dl0 : K.lookup dd0 = some ⟨.type "dict", none, .dict es0 nn0, #[]⟩)
    (dk0 : PySem.W.KeysLit w.params es0.toList)
    (ds0 : (dd0 == sysModules) = false)
    (dp0 : Paired (fun (e : DictEntry) (kv : Str × D) => (∃ t, e.key = .str kv.1 t) ∧ ∃ v, RelV v e.val ∧ ∀ m H, Rep ⟨K, mg⟩ m H v kv.2) es0.toList kv_SHAPES) :
    ∃ fd : FuncData, (∀ (s : Shared) (v : Value), BindsTo s fd ⟨[v], []⟩ [("script", v)]) ∧ ∀ base : Heap, K.In base → base.Ns mainGlobals mg → FnOk l.prog w K mg base CX0 9 fa fd ["script"] (spLaw K) := by
  have e := hfa.symm.trans (PySem.W.mg_of X G a23)
  cases e
  have F1 : DefAt K mg "shifted" s_shifted ["sign", "a", "b"] _ _ := ⟨fun_mk (st := s_shifted) l1 c1 k1, PySem.W.mg_of X G a1, (fun_mk (st := s_shifted) l1 c1 k1).binds fun _ _ _ _ _ _ us hl => match us, hl with | [_, _, _], _ => rfl⟩
  have F2 : DefAt K mg "divided" s_divided ["sign", "a", "b"] _ _ := ⟨fun_mk (st := s_divided) l2 c2 k2, PySem.W.mg_of X G a2, (fun_mk (st := s_divided) l2 c2 k2).binds fun _ _ _ _ _ _ us hl => match us, hl with | [_, _, _], _ => rfl⟩
  have F3 : DefAt K mg "apply" s_apply ["sign", "a", "b"] _ _ := ⟨fun_mk (st := s_apply) l3 c3 k3, PySem.W.mg_of X G a3, (fun_mk (st := s_apply) l3 c3 k3).binds fun _ _ _ _ _ _ us hl => match us, hl with | [_, _, _], _ => rfl⟩
  have F4 : DefAt K mg "size_of" s_size_of ["length"] _ _ := ⟨fun_mk (st := s_size_of) l4 c4 k4, PySem.W.mg_of X G a4, (fun_mk (st := s_size_of) l4 c4 k4).binds fun _ _ _ _ _ _ us hl => match us, hl with | [_], _ => rfl⟩
  have F5 : DefAt K mg "is_number" s_is_number ["thing", "most"] _ _ := ⟨fun_mk (st := s_is_number) l5 c5 k5, PySem.W.mg_of X G a5, (fun_mk (st := s_is_number) l5 c5 k5).binds fun _ _ _ _ _ _ us hl => match us, hl with | [_, _], _ => rfl⟩
  have F6 : DefAt K mg "is_text" s_is_text ["thing", "texts"] _ _ := ⟨fun_mk (st := s_is_text) l6 c6 k6, PySem.W.mg_of X G a6, (fun_mk (st := s_is_text) l6 c6 k6).binds fun _ _ _ _ _ _ us hl => match us, hl with | [_, _], _ => rfl⟩
  have F7 : DefAt K mg "part_fits" s_part_fits ["thing", "kind", "arrays", "blocks"] _ _ := ⟨fun_mk (st := s_part_fits) l7 c7 k7, PySem.W.mg_of X G a7, (fun_mk (st := s_part_fits) l7 c7 k7).binds fun _ _ _ _ _ _ us hl => match us, hl with | [_, _, _, _], _ => rfl⟩
  have F8 : DefAt K mg "is_row" s_is_row ["thing", "arrays", "blocks"] _ _ := ⟨fun_mk (st := s_is_row) l8 c8 k8, PySem.W.mg_of X G a8, (fun_mk (st := s_is_row) l8 c8 k8).binds fun _ _ _ _ _ _ us hl => match us, hl with | [_, _, _], _ => rfl⟩
  have F9 : DefAt K mg "is_block" s_is_block ["thing", "arrays", "blocks"] _ _ := ⟨fun_mk (st := s_is_block) l9 c9 k9, PySem.W.mg_of X G a9, (fun_mk (st := s_is_block) l9 c9 k9).binds fun _ _ _ _ _ _ us hl => match us, hl with | [_, _, _], _ => rfl⟩
  have F10 : DefAt K mg "is_array" s_is_array ["thing"] _ _ := ⟨fun_mk (st := s_is_array) l10 c10 k10, PySem.W.mg_of X G a10, (fun_mk (st := s_is_array) l10 c10 k10).binds fun _ _ _ _ _ _ us hl => match us, hl with | [_], _ => rfl⟩
  have F11 : DefAt K mg "is_ir" s_is_ir ["thing"] _ _ := ⟨fun_mk (st := s_is_ir) l11 c11 k11, PySem.W.mg_of X G a11, (fun_mk (st := s_is_ir) l11 c11 k11).binds fun _ _ _ _ _ _ us hl => match us, hl with | [_], _ => rfl⟩
  have F12 : DefAt K mg "_law_draws" s_law_draws ["script", "many"] _ _ := ⟨fun_mk (st := s_law_draws) l12 c12 k12, PySem.W.mg_of X G a12, (fun_mk (st := s_law_draws) l12 c12 k12).binds fun _ _ _ _ _ _ us hl => match us, hl with | [_, _], _ => rfl⟩
  have F13 : DefAt K mg "_law_next" s_law_next ["w", "many"] _ _ := ⟨fun_mk (st := s_law_next) l13 c13 k13, PySem.W.mg_of X G a13, (fun_mk (st := s_law_next) l13 c13 k13).binds fun _ _ _ _ _ _ us hl => match us, hl with | [_, _], _ => rfl⟩
  have F14 : DefAt K mg "_law_row" s_law_row ["w", "arrays", "blocks", "last"] _ _ := ⟨fun_mk (st := s_law_row) l14 c14 k14, PySem.W.mg_of X G a14, (fun_mk (st := s_law_row) l14 c14 k14).binds fun _ _ _ _ _ _ us hl => match us, hl with | [_, _, _, _], _ => rfl⟩
  have F15 : DefAt K mg "_law_program" s_law_program ["w"] _ _ := ⟨fun_mk (st := s_law_program) l15 c15 k15, PySem.W.mg_of X G a15, (fun_mk (st := s_law_program) l15 c15 k15).binds fun _ _ _ _ _ _ us hl => match us, hl with | [_], _ => rfl⟩
  have F16 : DefAt K mg "_law_word" s_law_word ["w"] _ _ := ⟨fun_mk (st := s_law_word) l16 c16 k16, PySem.W.mg_of X G a16, (fun_mk (st := s_law_word) l16 c16 k16).binds fun _ _ _ _ _ _ us hl => match us, hl with | [_], _ => rfl⟩
  have F17 : DefAt K mg "_law_bits" s_law_bits ["sign", "a", "b"] _ _ := ⟨fun_mk (st := s_law_bits) l17 c17 k17, PySem.W.mg_of X G a17, (fun_mk (st := s_law_bits) l17 c17 k17).binds fun _ _ _ _ _ _ us hl => match us, hl with | [_, _, _], _ => rfl⟩
  have F18 : DefAt K mg "_law_applied" s_law_applied ["sign", "a", "b"] _ _ := ⟨fun_mk (st := s_law_applied) l18 c18 k18, PySem.W.mg_of X G a18, (fun_mk (st := s_law_applied) l18 c18 k18).binds fun _ _ _ _ _ _ us hl => match us, hl with | [_, _, _], _ => rfl⟩
  have F19 : DefAt K mg "_law_is_number" s_law_is_number ["thing", "most"] _ _ := ⟨fun_mk (st := s_law_is_number) l19 c19 k19, PySem.W.mg_of X G a19, (fun_mk (st := s_law_is_number) l19 c19 k19).binds fun _ _ _ _ _ _ us hl => match us, hl with | [_, _], _ => rfl⟩
  have F20 : DefAt K mg "_law_is_row" s_law_is_row ["row", "arrays", "blocks", "last"] _ _ := ⟨fun_mk (st := s_law_is_row) l20 c20 k20, PySem.W.mg_of X G a20, (fun_mk (st := s_law_is_row) l20 c20 k20).binds fun _ _ _ _ _ _ us hl => match us, hl with | [_, _, _, _], _ => rfl⟩
  have F21 : DefAt K mg "_law_is_program" s_law_is_program ["thing"] _ _ := ⟨fun_mk (st := s_law_is_program) l21 c21 k21, PySem.W.mg_of X G a21, (fun_mk (st := s_law_is_program) l21 c21 k21).binds fun _ _ _ _ _ _ us hl => match us, hl with | [_], _ => rfl⟩
  have F22 : DefAt K mg "_law_spoilt" s_law_spoilt ["w", "thing", "steps"] _ _ := ⟨fun_mk (st := s_law_spoilt) l22 c22 k22, PySem.W.mg_of X G a22, (fun_mk (st := s_law_spoilt) l22 c22 k22).binds fun _ _ _ _ _ _ us hl => match us, hl with | [_, _, _], _ => rfl⟩
  have F23 : DefAt K mg "law" s_law ["script"] _ _ := ⟨fun_mk (st := s_law) l23 c23 k23, PySem.W.mg_of X G a23, (fun_mk (st := s_law) l23 c23 k23).binds fun _ _ _ _ _ _ us hl => match us, hl with | [_], _ => rfl⟩
  have B : Blt K w mg := ⟨PySem.W.mg_none_of X G z_int, PySem.W.mg_none_of X G z_isinstance, PySem.W.mg_none_of X G z_bool, PySem.W.mg_none_of X G z_str, PySem.W.mg_none_of X G z_tuple, PySem.W.mg_none_of X G z_len, PySem.W.mg_none_of X G z_all, PySem.W.mg_none_of X G z_range, PySem.W.mg_none_of X G z_any, PySem.W.mg_none_of X G z_abs, ⟨⟨dd0, es0, nn0, PySem.W.mg_of X G da0, ⟨dl0, dk0, ds0⟩, dp0⟩⟩, gv_tup (PySem.W.mg_of X G va0) vl0 vz0 vv0 fun _ _ => (.cons (.str _) (.cons (.str _) (.cons (.str _) (.cons (.str _) (.cons (.str _) (.cons (.str _) (.cons (.str _) (.cons (.str _) (.cons (.str _) (.cons (.str _) (.cons (.str _) (.cons (.str _) (.cons (.str _) .nil))))))))))))), gv_int (PySem.W.mg_of X G va1), gv_int (PySem.W.mg_of X G va2), gv_int (PySem.W.mg_of X G va3), gv_tup (PySem.W.mg_of X G va4) vl4 vz4 vv4 fun _ _ => (.cons (.str _) (.cons (.str _) .nil)), gv_tup (PySem.W.mg_of X G va5) vl5 vz5 vv5 fun _ _ => (.cons (.str _) (.cons (.str _) (.cons (.str _) .nil)))⟩
  refine ⟨PySem.W.fnOf "law" "law" (defArgs s_law) (defBody s_law) (defScope s_law) .none kV23 dc23 pm23 an23 cd23 ct23, fun s v => .of_eq rfl, fun base _ _ => ?_⟩
  have K1 : Keeps l.prog w K mg base 1 "shifted" _ F_shifted _ _ := ok_shifted B F1  
  have K2 : Keeps l.prog w K mg base 1 "divided" _ F_divided _ _ := ok_divided B F2  
  have K3 : Keeps l.prog w K mg base 2 "apply" _ F_apply _ _ := ok_apply B F3 K1 K2 
  have K4 : Keeps l.prog w K mg base 1 "size_of" _ F_size_of _ _ := ok_size_of B F4  
  have K5 : Keeps l.prog w K mg base 1 "is_number" _ F_is_number _ _ := ok_is_number B F5  
  have K6 : Keeps l.prog w K mg base 1 "is_text" _ F_is_text _ _ := ok_is_text B F6  
  have K7 : Keeps l.prog w K mg base 2 "part_fits" _ F_part_fits _ _ := ok_part_fits B F7 K6 K5 
  have K8 : Keeps l.prog w K mg base 3 "is_row" _ F_is_row _ _ := ok_is_row B F8 K6 K7 
  have K9 : Keeps l.prog w K mg base 4 "is_block" _ F_is_block _ _ := ok_is_block B F9 K8 
  have K10 : Keeps l.prog w K mg base 2 "is_array" _ F_is_array _ _ := ok_is_array B F10 K5 K6 
  have K11 : Keeps l.prog w K mg base 5 "is_ir" _ F_is_ir _ _ := ok_is_ir B F11 K5 K10 K9 
  have K12 : Keeps l.prog w K mg base 1 "_law_draws" _ F_law_draws _ _ := ok_law_draws B F12  
  have K13 : Keeps l.prog w K mg base 1 "_law_next" _ F_law_next _ _ := ok_law_next B F13  
  have K14 : Keeps l.prog w K mg base 2 "_law_row" _ F_law_row _ _ := ok_law_row B F14 K13 
  have K15 : Keeps l.prog w K mg base 3 "_law_program" _ F_law_program _ _ := ok_law_program B F15 K13 K14 
  have K16 : Keeps l.prog w K mg base 2 "_law_word" _ F_law_word _ _ := ok_law_word B F16 K13 
  have K17 : Keeps l.prog w K mg base 1 "_law_bits" _ F_law_bits _ _ := ok_law_bits B F17  
  have K18 : Keeps l.prog w K mg base 2 "_law_applied" _ F_law_applied _ _ := ok_law_applied B F18 K17 
  have K19 : Keeps l.prog w K mg base 1 "_law_is_number" _ F_law_is_number _ _ := ok_law_is_number B F19  
  have K20 : Keeps l.prog w K mg base 2 "_law_is_row" _ F_law_is_row _ _ := ok_law_is_row B F20 K19 
  have K21 : Keeps l.prog w K mg base 3 "_law_is_program" _ F_law_is_program _ _ := ok_law_is_program B F21 K19 K20 
  have K22 : Keeps l.prog w K mg base 8 "_law_spoilt" _ (F_law_spoilt 7) _ _ := ok_law_spoilt B F22 K13 7
  have K23 : Keeps l.prog w K mg base 9 "law" _ F_law _ _ := ok_law B F23 K12 K16 K13 K3 K18 K19 K4 K15 K11 K22 K21 
  exact K23.ok.imp fun vs H Q E h => spLaw_sp law_true h
end My
open PySem PySem.W PyProof.Rows
set_option maxHeartbeats 0 in
theorem PySem.Challenge.cw_sameclock_k60_words_and_programs_that_ar_holds : PySem.Challenge.rw_sameclock_k60_words_and_programs_that_ar.Holds := by
  w_on; o_law; k_head; (case hw => w_witness2)
  k_fill
  refine L2.walk_ofK (l := PySem.Challenge.rw_sameclock_k60_words_and_programs_that_ar) (n := 63) (k := 9) (x := "script") (CX := L2.CX0) (sp := Mi.spLaw) rfl (by decide) rfl ⟨rfl, by decide, by decide⟩ (fun w h Y => PySem.W.kIn_of Y) ?F (fun K H a ns hl ho hS => ⟨a, ns, rfl, hl, ho, hS, fun _ => rfl⟩) (fun _ _ _ _ h => h)
  case F =>
    intro w mg fa h KX G hmg
    refine' My.top_mk KX G hmg ?a1 ?l1 ?c1 ?k1 ?a2 ?l2 ?c2 ?k2 ?a3 ?l3 ?c3 ?k3 ?a4 ?l4 ?c4 ?k4 ?a5 ?l5 ?c5 ?k5 ?a6 ?l6 ?c6 ?k6 ?a7 ?l7 ?c7 ?k7 ?a8 ?l8 ?c8 ?k8 ?a9 ?l9 ?c9 ?k9 ?a10 ?l10 ?c10 ?k10 ?a11 ?l11 ?c11 ?k11 ?a12 ?l12 ?c12 ?k12 ?a13 ?l13 ?c13 ?k13 ?a14 ?l14 ?c14 ?k14 ?a15 ?l15 ?c15 ?k15 ?a16 ?l16 ?c16 ?k16 ?a17 ?l17 ?c17 ?k17 ?a18 ?l18 ?c18 ?k18 ?a19 ?l19 ?c19 ?k19 ?a20 ?l20 ?c20 ?k20 ?a21 ?l21 ?c21 ?k21 ?a22 ?l22 ?c22 ?k22 ?a23 ?l23 ?c23 ?k23 ?z_int ?z_isinstance ?z_bool ?z_str ?z_tuple ?z_len ?z_all ?z_range ?z_any ?z_abs ?va0 ?vl0 ?vz0 ?vv0 ?va1 ?va2 ?va3 ?va4 ?vl4 ?vz4 ?vv4 ?va5 ?vl5 ?vz5 ?vv5 ?da0 ?dl0 ?dk0 ?ds0 ?dp0
    (case a1 => k_is)
    (case l1 => k_is)
    (case c1 => k_is)
    (case k1 => k_is)
    (case a2 => k_is)
    (case l2 => k_is)
    (case c2 => k_is)
    (case k2 => k_is)
    (case a3 => k_is)
    (case l3 => k_is)
    (case c3 => k_is)
    (case k3 => k_is)
    (case a4 => k_is)
    (case l4 => k_is)
    (case c4 => k_is)
    (case k4 => k_is)
    (case a5 => k_is)
    (case l5 => k_is)
    (case c5 => k_is)
    (case k5 => k_is)
    (case a6 => k_is)
    (case l6 => k_is)
    (case c6 => k_is)
    (case k6 => k_is)
    (case a7 => k_is)
    (case l7 => k_is)
    (case c7 => k_is)
    (case k7 => k_is)
    (case a8 => k_is)
    (case l8 => k_is)
    (case c8 => k_is)
    (case k8 => k_is)
    (case a9 => k_is)
    (case l9 => k_is)
    (case c9 => k_is)
    (case k9 => k_is)
    (case a10 => k_is)
    (case l10 => k_is)
    (case c10 => k_is)
    (case k10 => k_is)
    (case a11 => k_is)
    (case l11 => k_is)
    (case c11 => k_is)
    (case k11 => k_is)
    (case a12 => k_is)
    (case l12 => k_is)
    (case c12 => k_is)
    (case k12 => k_is)
    (case a13 => k_is)
    (case l13 => k_is)
    (case c13 => k_is)
    (case k13 => k_is)
    (case a14 => k_is)
    (case l14 => k_is)
    (case c14 => k_is)
    (case k14 => k_is)
    (case a15 => k_is)
    (case l15 => k_is)
    (case c15 => k_is)
    (case k15 => k_is)
    (case a16 => k_is)
    (case l16 => k_is)
    (case c16 => k_is)
    (case k16 => k_is)
    (case a17 => k_is)
    (case l17 => k_is)
    (case c17 => k_is)
    (case k17 => k_is)
    (case a18 => k_is)
    (case l18 => k_is)
    (case c18 => k_is)
    (case k18 => k_is)
    (case a19 => k_is)
    (case l19 => k_is)
    (case c19 => k_is)
    (case k19 => k_is)
    (case a20 => k_is)
    (case l20 => k_is)
    (case c20 => k_is)
    (case k20 => k_is)
    (case a21 => k_is)
    (case l21 => k_is)
    (case c21 => k_is)
    (case k21 => k_is)
    (case a22 => k_is)
    (case l22 => k_is)
    (case c22 => k_is)
    (case k22 => k_is)
    (case a23 => k_is)
    (case l23 => k_is)
    (case c23 => k_is)
    (case k23 => k_is)
    (case z_int => k_is)
    (case z_isinstance => k_is)
    (case z_bool => k_is)
    (case z_str => k_is)
    (case z_tuple => k_is)
    (case z_len => k_is)
    (case z_all => k_is)
    (case z_range => k_is)
    (case z_any => k_is)
    (case z_abs => k_is)
    (case va0 => k_is)
    (case vl0 => k_is)
    (case vz0 => decide)
    (case vv0 => exact (.cons ⟨_, rfl⟩ (.cons ⟨_, rfl⟩ (.cons ⟨_, rfl⟩ (.cons ⟨_, rfl⟩ (.cons ⟨_, rfl⟩ (.cons ⟨_, rfl⟩ (.cons ⟨_, rfl⟩ (.cons ⟨_, rfl⟩ (.cons ⟨_, rfl⟩ (.cons ⟨_, rfl⟩ (.cons ⟨_, rfl⟩ (.cons ⟨_, rfl⟩ (.cons ⟨_, rfl⟩ .nil))))))))))))))
    (case va1 => k_is)
    (case va2 => k_is)
    (case va3 => k_is)
    (case va4 => k_is)
    (case vl4 => k_is)
    (case vz4 => decide)
    (case vv4 => exact (.cons ⟨_, rfl⟩ (.cons ⟨_, rfl⟩ .nil)))
    (case va5 => k_is)
    (case vl5 => k_is)
    (case vz5 => decide)
    (case vv5 => exact (.cons ⟨_, rfl⟩ (.cons ⟨_, rfl⟩ (.cons ⟨_, rfl⟩ .nil))))
    (case da0 => k_is)
    (case dl0 => k_is)
    (case dk0 => exact ⟨⟨_, _, rfl, rfl⟩, ⟨_, _, rfl, rfl⟩, ⟨_, _, rfl, rfl⟩, ⟨_, _, rfl, rfl⟩, ⟨_, _, rfl, rfl⟩, ⟨_, _, rfl, rfl⟩, ⟨_, _, rfl, rfl⟩, ⟨_, _, rfl, rfl⟩, ⟨_, _, rfl, rfl⟩, ⟨_, _, rfl, rfl⟩, True.intro⟩)
    (case ds0 => rfl)
    (case dp0 => exact (.cons ⟨⟨_, rfl⟩, (L2.V.str "rn"), ⟨_, rfl⟩, fun _ _ => .str _⟩ (.cons ⟨⟨_, rfl⟩, (L2.V.str "rr"), ⟨_, rfl⟩, fun _ _ => .str _⟩ (.cons ⟨⟨_, rfl⟩, (L2.V.str "grrr"), ⟨_, rfl⟩, fun _ _ => .str _⟩ (.cons ⟨⟨_, rfl⟩, (L2.V.str "rrrr"), ⟨_, rfl⟩, fun _ _ => .str _⟩ (.cons ⟨⟨_, rfl⟩, (L2.V.str "rir"), ⟨_, rfl⟩, fun _ _ => .str _⟩ (.cons ⟨⟨_, rfl⟩, (L2.V.str "irr"), ⟨_, rfl⟩, fun _ _ => .str _⟩ (.cons ⟨⟨_, rfl⟩, (L2.V.str "r"), ⟨_, rfl⟩, fun _ _ => .str _⟩ (.cons ⟨⟨_, rfl⟩, (L2.V.str "t"), ⟨_, rfl⟩, fun _ _ => .str _⟩ (.cons ⟨⟨_, rfl⟩, (L2.V.str "rtt"), ⟨_, rfl⟩, fun _ _ => .str _⟩ (.cons ⟨⟨_, rfl⟩, (L2.V.str "r"), ⟨_, rfl⟩, fun _ _ => .str _⟩ .nil)))))))))))
