import PyProof.Rows.All
import Wide.All
import OpenK.AllK
import Wide.FinOn
import HandS.ForMost
import HandS.TupAny
import HandS.Deep
import HandS.IsInst
import HandS.DictComp
import HandS.More
import HandS.Wide
import HandS.SortInts
import HandS.TupLe
import HandS.Conv
import HandS.SetFor
import HandS.Codes
import HandS.ExcInit
import HandS.WordsExc
import HandS.TryOnly
import HandS.ClsMeth
import HandS.ExcField
import HandS.Zip
import PyProof.ReprRoads
import PySem.Challenge.RW_sameclock_k64_papers_that_hold
set_option Elab.async false
set_option linter.all false
set_option maxRecDepth 100000
namespace Mi
open PySem PySem.Spec PyProof.Rows L2

/-! ### data -/
inductive D where
  | non | bl (b : Bool) | int (i : Int) | str (x : Str)
  | tup (ds : List D) | rol (ds : List D)
  | ref (p : Nat) | glo (x : Str) | ty (n : String)
inductive O where
  | lst (ds : List D) | dct (kvs : List (Key × D)) | dtt (kvs : List (List Key × D)) | ins (C : Str) (fs : List (Str × D))
abbrev S := List O
abbrev Env := List (Option D)
structure G where
  K : PySem.W.Frag
  mg : Str → Option Value

/-- a tuple, a list that is only read: not in the store, or an object of the module -/
def RdT (g : G) (m : List Addr) (H : Hp) (a : Addr) (xs : List V) : Prop :=
  (H a = some (.tup xs) ∧ a ∉ m) ∨
    ∃ (o : Obj) (its : Array Value) (n : Nat), g.K.lookup a = some o ∧ o.cls = .type "tuple" ∧ o.data = .seq its n ∧ its.size ≤ sizeLine ∧ Vals xs its.toList
def RdL (g : G) (m : List Addr) (H : Hp) (a : Addr) (xs : List V) : Prop :=
  ((∃ o, H a = some (.frz o (.lst xs))) ∧ a ∉ m) ∨
    ∃ (o : Obj) (its : Array Value) (n : Nat), g.K.lookup a = some o ∧ o.cls = .type "list" ∧ o.dict = none ∧ o.data = .seq its n ∧ its.size ≤ sizeLine ∧ Vals xs its.toList
theorem RdT.sq {g : G} {m : List Addr} {H : Hp} {a : Addr} {xs : List V} (h : RdT g m H a xs) : SqT g.K H a xs := h.elim (fun z => .inl (.inl z.1)) .inr
theorem RdL.sq {g : G} {m : List Addr} {H : Hp} {a : Addr} {xs : List V} (h : RdL g m H a xs) : SqL g.K H a xs := h.elim (fun z => .inl (.inr z.1)) .inr

mutual
inductive Rep (g : G) (m : List Addr) (H : Hp) : V → D → Prop
  | non : Rep g m H .non .non
  | bl (b : Bool) : Rep g m H (.bl b) (.bl b)
  | int (i : Int) : Rep g m H (.int i) (.int i)
  | str (x : Str) : Rep g m H (.str x) (.str x)
  | ty (n : String) : Rep g m H (.ty n) (.ty n)
  | tup {a : Addr} {xs : List V} {ds : List D} : RdT g m H a xs → Reps g m H xs ds → Rep g m H (.ref a) (.tup ds)
  | rol {a : Addr} {xs : List V} {ds : List D} : RdL g m H a xs → Reps g m H xs ds → Rep g m H (.ref a) (.rol ds)
  | ref {a : Addr} {p : Nat} : m[p]? = some a → Rep g m H (.ref a) (.ref p)
  | glo {a : Addr} {x : Str} : g.mg x = some (.ref a) → Rep g m H (.ref a) (.glo x)
inductive Reps (g : G) (m : List Addr) (H : Hp) : List V → List D → Prop
  | nil : Reps g m H [] []
  | cons {v : V} {vs : List V} {d : D} {ds : List D} : Rep g m H v d → Reps g m H vs ds → Reps g m H (v :: vs) (d :: ds)
end

/-- (m, H) goes on to (m', H'): what is not in the store stays -/
structure Le (m : List Addr) (H : Hp) (m' : List Addr) (H' : Hp) : Prop where
  pre : m <+: m'
  rest : ∀ a o, a ∉ m → H a = some o → H' a = some o
  fresh : ∀ a, a ∈ m' → a ∉ m → H a = none
theorem Le.refl (m : List Addr) (H : Hp) : Le m H m H := ⟨List.prefix_refl m, fun _ _ _ h => h, fun _ h h' => absurd h h'⟩
theorem Le.nin {m m' : List Addr} {H H' : Hp} (l : Le m H m' H') {a : Addr} {o : HO} (h : a ∉ m) (e : H a = some o) : a ∉ m' := fun h' => by
  rw [l.fresh a h' h] at e; cases e
theorem Le.trans {m m' m'' : List Addr} {H H' H'' : Hp} (l : Le m H m' H') (k : Le m' H' m'' H'') : Le m H m'' H'' := by
  refine ⟨l.pre.trans k.pre, fun a o h e => k.rest a o (l.nin h e) (l.rest a o h e), fun a h h' => ?_⟩
  by_cases z : a ∈ m'
  · exact l.fresh a z h'
  · have := k.fresh a h z
    cases e : H a with
    | none => rfl
    | some o => rw [l.rest a o h' e] at this; cases this
theorem Le.get {m m' : List Addr} {H H' : Hp} (l : Le m H m' H') {p : Nat} {a : Addr} (h : m[p]? = some a) : m'[p]? = some a := by
  obtain ⟨t, rfl⟩ := l.pre
  have hp : p < m.length := (List.getElem?_eq_some_iff.mp h).1
  rw [List.getElem?_append_left hp]
  exact h
/-- what data hang on: the tuples and frozen lists that are not in the store -/
structure Lr (m : List Addr) (H : Hp) (m' : List Addr) (H' : Hp) : Prop where
  pre : m <+: m'
  tup : ∀ a xs, a ∉ m → H a = some (.tup xs) → H' a = some (.tup xs) ∧ a ∉ m'
  frz : ∀ a o u, a ∉ m → H a = some (.frz o u) → H' a = some (.frz o u) ∧ a ∉ m'
theorem Le.lr {m m' : List Addr} {H H' : Hp} (l : Le m H m' H') : Lr m H m' H' := ⟨l.pre, fun a xs h e => ⟨l.rest a _ h e, l.nin h e⟩, fun a o u h e => ⟨l.rest a _ h e, l.nin h e⟩⟩
theorem Lr.get {m m' : List Addr} {H H' : Hp} (l : Lr m H m' H') {p : Nat} {a : Addr} (h : m[p]? = some a) : m'[p]? = some a := by
  obtain ⟨t, rfl⟩ := l.pre
  have hp : p < m.length := (List.getElem?_eq_some_iff.mp h).1
  rw [List.getElem?_append_left hp]
  exact h
theorem RdT.lr {g : G} {m m' : List Addr} {H H' : Hp} (l : Lr m H m' H') {a : Addr} {xs : List V} (h : RdT g m H a xs) : RdT g m' H' a xs :=
  h.elim (fun z => .inl (l.tup a xs z.2 z.1)) .inr
theorem RdL.lr {g : G} {m m' : List Addr} {H H' : Hp} (l : Lr m H m' H') {a : Addr} {xs : List V} (h : RdL g m H a xs) : RdL g m' H' a xs :=
  h.elim (fun z => let ⟨o, e⟩ := z.1; .inl ⟨⟨o, (l.frz a o _ z.2 e).1⟩, (l.frz a o _ z.2 e).2⟩) .inr
theorem RdT.le {g : G} {m m' : List Addr} {H H' : Hp} (l : Le m H m' H') {a : Addr} {xs : List V} (h : RdT g m H a xs) : RdT g m' H' a xs := h.lr l.lr
theorem RdL.le {g : G} {m m' : List Addr} {H H' : Hp} (l : Le m H m' H') {a : Addr} {xs : List V} (h : RdL g m H a xs) : RdL g m' H' a xs := h.lr l.lr
mutual
theorem Rep.lr {g : G} {m m' : List Addr} {H H' : Hp} (l : Lr m H m' H') : ∀ {v : V} {d : D}, Rep g m H v d → Rep g m' H' v d
  | _, _, .non => .non
  | _, _, .bl b => .bl b
  | _, _, .int i => .int i
  | _, _, .str x => .str x
  | _, _, .ty n => .ty n
  | _, _, .tup h r => .tup (h.lr l) (Reps.lr l r)
  | _, _, .rol h r => .rol (h.lr l) (Reps.lr l r)
  | _, _, .ref h => .ref (l.get h)
  | _, _, .glo h => .glo h
theorem Reps.lr {g : G} {m m' : List Addr} {H H' : Hp} (l : Lr m H m' H') : ∀ {v : List V} {d : List D}, Reps g m H v d → Reps g m' H' v d
  | _, _, .nil => .nil
  | _, _, .cons r t => .cons (Rep.lr l r) (Reps.lr l t)
end
theorem Rep.le {g : G} {m m' : List Addr} {H H' : Hp} (l : Le m H m' H') {v : V} {d : D} (r : Rep g m H v d) : Rep g m' H' v d := r.lr l.lr
theorem Reps.le {g : G} {m m' : List Addr} {H H' : Hp} (l : Le m H m' H') {v : List V} {d : List D} (r : Reps g m H v d) : Reps g m' H' v d := r.lr l.lr
theorem Reps.length {g : G} {m : List Addr} {H : Hp} : ∀ {xs : List V} {ds : List D}, Reps g m H xs ds → xs.length = ds.length
  | _, _, .nil => rfl
  | _, _, .cons _ t => by rw [List.length_cons, List.length_cons, t.length]
theorem Reps.get {g : G} {m : List Addr} {H : Hp} : ∀ {xs : List V} {ds : List D} {i : Nat} {d : D}, Reps g m H xs ds → ds[i]? = some d → ∃ x, xs[i]? = some x ∧ Rep g m H x d
  | _, _, _, _, .nil, e => by simp at e
  | _, _, 0, _, .cons r _, e => by simp at e; subst e; exact ⟨_, rfl, r⟩
  | _, _, i + 1, _, .cons _ t, e => by
    obtain ⟨u, h1, h2⟩ := Reps.get (i := i) t (by simpa using e)
    exact ⟨u, by simpa using h1, h2⟩
theorem Reps.get' {g : G} {m : List Addr} {H : Hp} : ∀ {xs : List V} {ds : List D} {i : Nat} {x : V}, Reps g m H xs ds → xs[i]? = some x → ∃ d, ds[i]? = some d ∧ Rep g m H x d
  | _, _, _, _, .nil, e => by simp at e
  | _, _, 0, _, .cons r _, e => by simp at e; subst e; exact ⟨_, rfl, r⟩
  | _, _, i + 1, _, .cons _ t, e => by
    obtain ⟨u, h1, h2⟩ := Reps.get' (i := i) t (by simpa using e)
    exact ⟨u, by simpa using h1, h2⟩
theorem Reps.append {g : G} {m : List Addr} {H : Hp} : ∀ {xs ys : List V} {ds es : List D}, Reps g m H xs ds → Reps g m H ys es → Reps g m H (xs ++ ys) (ds ++ es)
  | _, _, _, _, .nil, s => s
  | _, _, _, _, .cons r t, s => .cons r (t.append s)
theorem Reps.take {g : G} {m : List Addr} {H : Hp} : ∀ {xs : List V} {ds : List D} (n : Nat), Reps g m H xs ds → Reps g m H (xs.take n) (ds.take n)
  | _, _, 0, _ => .nil
  | _, _, _ + 1, .nil => .nil
  | _, _, n + 1, .cons r t => .cons r (t.take n)
theorem Reps.drop {g : G} {m : List Addr} {H : Hp} : ∀ {xs : List V} {ds : List D} (n : Nat), Reps g m H xs ds → Reps g m H (xs.drop n) (ds.drop n)
  | _, _, 0, r => r
  | _, _, _ + 1, .nil => .nil
  | _, _, n + 1, .cons _ t => t.drop n
theorem Reps.set {g : G} {m : List Addr} {H : Hp} {x : V} {d : D} (r : Rep g m H x d) : ∀ {xs : List V} {ds : List D} (i : Nat), Reps g m H xs ds → Reps g m H (xs.set i x) (ds.set i d)
  | _, _, _, .nil => .nil
  | _, _, 0, .cons _ t => .cons r t
  | _, _, i + 1, .cons q t => .cons q (t.set r i)
theorem Reps.reverse {g : G} {m : List Addr} {H : Hp} : ∀ {xs : List V} {ds : List D}, Reps g m H xs ds → Reps g m H xs.reverse ds.reverse
  | _, _, .nil => .nil
  | _, _, .cons r t => by
    rw [List.reverse_cons, List.reverse_cons]
    exact t.reverse.append (.cons r .nil)

/-! ### the store -/
/-- a key of a dict -/
def keyD : D → Option Key
  | .int i => some (.inl i)
  | .str x => some (.inr x)
  | _ => none
def keysD : List D → Option (List Key)
  | [] => some []
  | d :: ds => match keyD d, keysD ds with
    | some k, some ks => some (k :: ks)
    | _, _ => none
def tkeyD : D → Option (List Key)
  | .tup ds => keysD ds
  | _ => none
/-- the entries of a dict as they lie -/
def EntK {κ : Type} (g : G) (m : List Addr) (H : Hp) : List (κ × V) → List (κ × D) → Prop := Paired fun p q => q.1 = p.1 ∧ Rep g m H p.2 q.2
def EntF (g : G) (m : List Addr) (H : Hp) : List (Str × V) → List (Str × D) → Prop := Paired fun p q => q.1 = p.1 ∧ Rep g m H p.2 q.2
def OR (g : G) (m : List Addr) (H : Hp) (a : Addr) : O → Prop
  | .lst ds => ∃ xs, H a = some (.lst xs) ∧ Reps g m H xs ds
  | .dct kvs => ∃ es, H a = some (.dK es) ∧ EntK g m H es kvs
  | .dtt kvs => ∃ es, H a = some (.dT es) ∧ EntK g m H es kvs
  | .ins C fs => ∃ c dx es, g.mg C = some (.ref c) ∧ H a = some (.ins c dx es) ∧ H dx = some (.own a) ∧ EntF g m H es fs
structure Hold (g : G) (m : List Addr) (s : S) (H : Hp) : Prop where
  len : m.length = s.length
  nd : m.Nodup
  obj : ∀ (p : Nat) (a : Addr) (o : O), m[p]? = some a → s[p]? = some o → OR g m H a o
theorem Paired.mp {α β : Type} {F F' : α → β → Prop} : ∀ {l₁ : List α} {l₂ : List β}, Paired F l₁ l₂ → (∀ a b, F a b → F' a b) → Paired F' l₁ l₂
  | _, _, .nil, _ => .nil
  | _, _, .cons r t, f => .cons (f _ _ r) (Paired.mp t f)
theorem EntK.lr {κ : Type} {g : G} {m m' : List Addr} {H H' : Hp} (l : Lr m H m' H') {es : List (κ × V)} {kvs : List (κ × D)} (h : EntK g m H es kvs) : EntK g m' H' es kvs := Paired.mp h fun _ _ z => ⟨z.1, z.2.lr l⟩
theorem EntF.lr {g : G} {m m' : List Addr} {H H' : Hp} (l : Lr m H m' H') {es : List (Str × V)} {kvs : List (Str × D)} (h : EntF g m H es kvs) : EntF g m' H' es kvs := Paired.mp h fun _ _ z => ⟨z.1, z.2.lr l⟩
theorem EntK.le {κ : Type} {g : G} {m m' : List Addr} {H H' : Hp} (l : Le m H m' H') {es : List (κ × V)} {kvs : List (κ × D)} (h : EntK g m H es kvs) : EntK g m' H' es kvs := Paired.mp h fun _ _ z => ⟨z.1, z.2.le l⟩
theorem EntF.le {g : G} {m m' : List Addr} {H H' : Hp} (l : Le m H m' H') {es : List (Str × V)} {kvs : List (Str × D)} (h : EntF g m H es kvs) : EntF g m' H' es kvs := Paired.mp h fun _ _ z => ⟨z.1, z.2.le l⟩
theorem OR.th {g : G} {m : List Addr} {H : Hp} {a : Addr} {o : O} (h : OR g m H a o) : ∃ u, H a = some u ∧ (∀ xs, u ≠ .tup xs) ∧ (∀ ob v, u ≠ .frz ob v) ∧ ∀ x, u ≠ HO.own x := by
  cases o with
  | lst ds => obtain ⟨xs, e, _⟩ := h; exact ⟨_, e, (by intro _ q; cases q), (by intro _ _ q; cases q), by intro _ q; cases q⟩
  | dct kvs => obtain ⟨es, e, _⟩ := h; exact ⟨_, e, (by intro _ q; cases q), (by intro _ _ q; cases q), by intro _ q; cases q⟩
  | dtt kvs => obtain ⟨es, e, _⟩ := h; exact ⟨_, e, (by intro _ q; cases q), (by intro _ _ q; cases q), by intro _ q; cases q⟩
  | ins C fs => obtain ⟨c, dx, es, _, e, _⟩ := h; exact ⟨_, e, (by intro _ q; cases q), (by intro _ _ q; cases q), by intro _ q; cases q⟩
section
variable {g : G} {m m' : List Addr} {s s' : S} {H H' : Hp} {a : Addr} {p : Nat} {o : O}
theorem Hold.at (h : Hold g m s H) (e : s[p]? = some o) : ∃ a, m[p]? = some a ∧ a ∈ m ∧ OR g m H a o := by
  have hp : p < s.length := (List.getElem?_eq_some_iff.mp e).1
  have hp' : p < m.length := by rw [h.len]; exact hp
  have e1 : m[p]? = some m[p] := List.getElem?_eq_getElem hp'
  exact ⟨m[p], e1, List.getElem_mem hp', h.obj p _ o e1 e⟩
theorem Hold.mem (h : Hold g m s H) (e : a ∈ m) : ∃ (p : Nat) (o : O), m[p]? = some a ∧ s[p]? = some o ∧ OR g m H a o := by
  obtain ⟨p, hp, e⟩ := List.getElem_of_mem e
  have hp' : p < s.length := by rw [← h.len]; exact hp
  have e1 : m[p]? = some a := by rw [List.getElem?_eq_getElem hp, e]
  exact ⟨p, s[p], e1, List.getElem?_eq_getElem hp', h.obj p _ _ e1 (List.getElem?_eq_getElem hp')⟩
theorem Hold.free (h : Hold g m s H) (e : H a = none) : a ∉ m := fun z => by
  obtain ⟨p, o, _, _, r⟩ := h.mem z
  obtain ⟨u, e', _⟩ := r.th
  rw [e] at e'; cases e'
theorem Hold.inj (h : Hold g m s H) {p q : Nat} {a : Addr} (h1 : m[p]? = some a) (h2 : m[q]? = some a) : p = q := by
  exact (List.getElem?_inj (List.getElem?_eq_some_iff.mp h1).1 h.nd).mp (h1.trans h2.symm)
/-- a new untracked object (a tuple) -/
theorem Le.aside (h : Hold g m s H) {u : HO} (e : H a = none) : Le m H m (upd H a u) :=
  ⟨List.prefix_refl m, fun b o _ q => by rw [upd_ne (ne_of_none q e)]; exact q, fun _ h h' => absurd h h'⟩
theorem OR.lr_of (l : Lr m H m' H') (ha : H' a = H a) (hx : ∀ d, H d = some (HO.own a) → H' d = some (HO.own a)) (h : OR g m H a o) : OR g m' H' a o := by
  cases o with
  | lst ds => obtain ⟨xs, e, r⟩ := h; exact ⟨xs, ha.trans e, r.lr l⟩
  | dct kvs => obtain ⟨es, e, r⟩ := h; exact ⟨es, ha.trans e, r.lr l⟩
  | dtt kvs => obtain ⟨es, e, r⟩ := h; exact ⟨es, ha.trans e, r.lr l⟩
  | ins C fs => obtain ⟨c, dx, es, e0, e, ex, r⟩ := h; exact ⟨c, dx, es, e0, ha.trans e, hx dx ex, r.lr l⟩
theorem OR.le_of (l : Le m H m' H') (ha : H' a = H a) (hx : ∀ d, H d = some (HO.own a) → H' d = some (HO.own a)) (h : OR g m H a o) : OR g m' H' a o := h.lr_of l.lr ha hx
theorem Hold.nown (h : Hold g m s H) {x : Addr} (e : H a = some (HO.own x)) : a ∉ m := fun z => by
  obtain ⟨p, o, _, _, r⟩ := h.mem z
  obtain ⟨u, e', _, _, n⟩ := r.th
  rw [e] at e'; cases e'; exact n _ rfl
theorem Hold.aside (h : Hold g m s H) {u : HO} (e : H a = none) : Hold g m s (upd H a u) := by
  refine ⟨h.len, h.nd, fun p b o h1 h2 => ?_⟩
  have r := h.obj p b o h1 h2
  obtain ⟨v, e', _⟩ := r.th
  exact r.le_of (Le.aside h e) (upd_ne (ne_of_none e' e)) fun d (q : _ = some (HO.own b)) => by rw [upd_ne (ne_of_none q e)]; exact q
/-- a new object of the store -/
theorem Le.new (h : Hold g m s H) {u : HO} (e : H a = none) : Le m H (m ++ [a]) (upd H a u) :=
  ⟨List.prefix_append m [a], fun b o _ q => by rw [upd_ne (ne_of_none q e)]; exact q, fun b hb hn => by
    rcases List.mem_append.mp hb with z | z
    · exact absurd z hn
    · rw [List.mem_singleton.mp z]; exact e⟩
theorem Hold.new (h : Hold g m s H) {u : HO} (e : H a = none) (ho : OR g (m ++ [a]) (upd H a u) a o) : Hold g (m ++ [a]) (s ++ [o]) (upd H a u) := by
  refine ⟨by rw [List.length_append, List.length_append, h.len]; rfl, ?_, fun p b o' h1 h2 => ?_⟩
  · rw [List.nodup_append]
    exact ⟨h.nd, by simp, fun b hb c hc => by rw [List.mem_singleton.mp hc]; intro z; exact h.free e (z ▸ hb)⟩
  · by_cases hp : p < m.length
    · rw [List.getElem?_append_left hp] at h1
      rw [List.getElem?_append_left (by rw [← h.len]; exact hp)] at h2
      have r := h.obj p b o' h1 h2
      obtain ⟨v, e', _⟩ := r.th
      exact r.le_of (Le.new h e) (upd_ne (ne_of_none e' e)) fun d (q : _ = some (HO.own b)) => by rw [upd_ne (ne_of_none q e)]; exact q
    · have hp2 : p = m.length := by
        have := (List.getElem?_eq_some_iff.mp h1).1
        rw [List.length_append, List.length_singleton] at this
        omega
      subst hp2
      rw [List.getElem?_append_right (Nat.le_refl _), Nat.sub_self] at h1
      rw [h.len, List.getElem?_append_right (Nat.le_refl _), Nat.sub_self] at h2
      cases h1; cases h2
      exact ho
/-- an object that stood aside joins the store -/
theorem Lr.join {p : Addr} {u x : HO} (hp : p ∉ m) (e : H p = some x) (h1 : ∀ xs, x ≠ .tup xs) (h2 : ∀ ob v, x ≠ .frz ob v) : Lr m H (m ++ [p]) (upd H p u) := by
  refine ⟨List.prefix_append m [p], fun a xs h q => ?_, fun a ob w h q => ?_⟩
  · have n : a ≠ p := fun z => by subst z; rw [e] at q; exact h1 xs (Option.some.inj q)
    exact ⟨by rw [upd_ne n]; exact q, fun z => (List.mem_append.mp z).elim h fun z => n (List.mem_singleton.mp z)⟩
  · have n : a ≠ p := fun z => by subst z; rw [e] at q; exact h2 ob w (Option.some.inj q)
    exact ⟨by rw [upd_ne n]; exact q, fun z => (List.mem_append.mp z).elim h fun z => n (List.mem_singleton.mp z)⟩
theorem Hold.join {p : Addr} {u x : HO} (h : Hold g m s H) (hp : p ∉ m) (e : H p = some x) (h1 : ∀ xs, x ≠ .tup xs) (h2 : ∀ ob v, x ≠ .frz ob v) (h3 : ∀ y, x ≠ .own y) (ho : OR g (m ++ [p]) (upd H p u) p o) : Hold g (m ++ [p]) (s ++ [o]) (upd H p u) := by
  refine ⟨by rw [List.length_append, List.length_append, h.len]; rfl, ?_, fun q b o' e1 e2 => ?_⟩
  · rw [List.nodup_append]
    exact ⟨h.nd, by simp, fun b hb c hc => by rw [List.mem_singleton.mp hc]; intro z; exact hp (z ▸ hb)⟩
  · by_cases hq : q < m.length
    · rw [List.getElem?_append_left hq] at e1
      rw [List.getElem?_append_left (by rw [← h.len]; exact hq)] at e2
      have r := h.obj q b o' e1 e2
      have nb : b ≠ p := fun z => hp (z ▸ List.mem_of_getElem? e1)
      exact r.lr_of (Lr.join hp e h1 h2) (upd_ne nb) fun d (q' : _ = some (HO.own b)) => by rw [upd_ne (fun z => by rw [z, e] at q'; exact h3 b (Option.some.inj q'))]; exact q'
    · have hq2 : q = m.length := by
        have := (List.getElem?_eq_some_iff.mp e1).1
        rw [List.length_append, List.length_singleton] at this
        omega
      subst hq2
      rw [List.getElem?_append_right (Nat.le_refl _), Nat.sub_self] at e1
      rw [h.len, List.getElem?_append_right (Nat.le_refl _), Nat.sub_self] at e2
      cases e1; cases e2
      exact ho
/-- .. seen from before it was made -/
theorem Le.join {m0 : List Addr} {H0 : Hp} {p : Addr} {u x : HO} (hp : H0 p = none) (l : Le m0 (upd H0 p x) m H) (hm : p ∉ m) : Le m0 H0 (m ++ [p]) (upd H p u) := by
  refine ⟨l.pre.trans (List.prefix_append m [p]), fun a o ha e => ?_, fun a ha hn => ?_⟩
  · have n := ne_of_none e hp
    rw [upd_ne n]
    exact l.rest a o ha (by rw [upd_ne n]; exact e)
  · rcases List.mem_append.mp ha with z | z
    · have q := l.fresh a z hn
      have n : a ≠ p := fun e => hm (e ▸ z)
      rw [upd_ne n] at q
      exact q
    · rw [List.mem_singleton.mp z]; exact hp
/-- the object p is another -/
theorem Le.write (h : Hold g m s H) (e : m[p]? = some a) {u : HO} : Le m H m (upd H a u) :=
  ⟨List.prefix_refl m, fun b o n q => by rw [upd_ne (fun z => n (by rw [z]; exact List.mem_of_getElem? e))]; exact q, fun _ h h' => absurd h h'⟩
theorem Hold.write (h : Hold g m s H) (e : m[p]? = some a) {u : HO} (ho : OR g m (upd H a u) a o) : Hold g m (s.set p o) (upd H a u) := by
  have ha : a ∈ m := List.mem_of_getElem? e
  refine ⟨by rw [List.length_set]; exact h.len, h.nd, fun q b o' h1 h2 => ?_⟩
  by_cases hq : p = q
  · subst hq
    rw [e] at h1; cases h1
    rw [List.getElem?_set_self (by rw [← h.len]; exact (List.getElem?_eq_some_iff.mp e).1)] at h2
    cases h2; exact ho
  · rw [List.getElem?_set_ne hq] at h2
    have r := h.obj q b o' h1 h2
    have nb : b ≠ a := fun z => by subst z; exact hq (h.inj e h1)
    exact r.le_of (Le.write h e) (upd_ne nb) fun d (q : _ = some (HO.own b)) => by rw [upd_ne (fun z => h.nown (z ▸ q) ha)]; exact q
end
end Mi

set_option Elab.async false
set_option linter.all false
set_option maxRecDepth 100000
namespace Mi
open PySem PySem.Spec PyProof.Rows L2

/-! ### results -/
abbrev XF := Option (List (Str × D))
inductive R (α : Type) where
  | no | ok (a : α) (s : S) | ex (c : Str) (fs : XF) (s : S)
def R.bind {α β : Type} : R α → (α → S → R β) → R β
  | .no, _ => .no
  | .ok a s, f => f a s
  | .ex c fs s, _ => .ex c fs s
def R.of {α : Type} : Option (α × S) → R α
  | none => .no
  | some (a, s) => .ok a s
def R.post {α : Type} (r : R α) (P : α → S → Prop) (E : Str → XF → S → Prop) : Prop :=
  match r with
  | .no => False
  | .ok a s => P a s
  | .ex c fs s => E c fs s
abbrev EX := Env → S → R D
abbrev EB := Env → S → R Bool
abbrev EA := Env → S → R (List D)

structure Ag (g : G) (m : List Addr) (σ : L2.St) (H : Hp) (env : Env) (s : S) : Prop where
  hold : Hold g m s H
  len : env.length = σ.length
  val : ∀ (i : Nat) (d : D), env[i]? = some (some d) → ∃ v, σ[i]? = some (some v) ∧ Rep g m H v d
theorem Ag.go {g : G} {m m' : List Addr} {σ : L2.St} {H H' : Hp} {env : Env} {s s' : S} (a : Ag g m σ H env s) (l : Le m H m' H') (h : Hold g m' s' H') : Ag g m' σ H' env s' :=
  ⟨h, a.len, fun i d e => let ⟨v, e1, r⟩ := a.val i d e; ⟨v, e1, r.le l⟩⟩
theorem Ag.set {g : G} {m : List Addr} {σ : L2.St} {H : Hp} {env : Env} {s : S} {v : V} {d : D} (a : Ag g m σ H env s) (r : Rep g m H v d) (i : Nat) : Ag g m (σ.set i (some v)) H (env.set i (some d)) s := by
  refine ⟨a.hold, by rw [List.length_set, List.length_set]; exact a.len, fun j e h => ?_⟩
  by_cases hj : i = j
  · subst hj
    by_cases hl : i < env.length
    · rw [List.getElem?_set_self hl] at h
      cases h
      exact ⟨v, List.getElem?_set_self (by rw [← a.len]; exact hl), r⟩
    · rw [List.getElem?_eq_none (by rw [List.length_set]; omega)] at h
      cases h
  · rw [List.getElem?_set_ne hj] at h
    obtain ⟨w, e1, q⟩ := a.val j e h
    exact ⟨w, by rw [List.getElem?_set_ne hj]; exact e1, q⟩

/-- the fields of an exception that flies -/
def XFok (g : G) (m : List Addr) (H : Hp) (da : Option Addr) : XF → Prop
  | none => da = none
  | some fs => ∃ a es, da = some a ∧ H a = some (.xd es) ∧ EntF g m H es fs
def WX (g : G) (m : List Addr) (H : Hp) (W : XK) : Str → XF → S → Prop := fun c fs s =>
  ∀ (C : Addr) (da : Option Addr) (m' : List Addr) (H' : Hp), Le m H m' H' → Hold g m' s H' → g.mg c = some (.ref C) → XFok g m' H' da fs → W (.ref C) da H'
def PD (g : G) (m : List Addr) (H : Hp) (Q : VK) : D → S → Prop := fun d s =>
  ∀ (v : V) (m' : List Addr) (H' : Hp), Le m H m' H' → Hold g m' s H' → Rep g m' H' v d → Q v H'
def PB (g : G) (m : List Addr) (H : Hp) (Q : Bool → Hp → Prop) : Bool → S → Prop := fun b s =>
  ∀ (m' : List Addr) (H' : Hp), Le m H m' H' → Hold g m' s H' → Q b H'
def PL (g : G) (m : List Addr) (H : Hp) (Q : List V → Hp → Prop) : List D → S → Prop := fun ds s =>
  ∀ (vs : List V) (m' : List Addr) (H' : Hp), Le m H m' H' → Hold g m' s H' → Reps g m' H' vs ds → Q vs H'
section
variable {g : G} {m m' : List Addr} {H H' : Hp} {W : XK}
theorem WX.le (l : Le m H m' H') {c : Str} {fs : XF} {s : S} (h : WX g m H W c fs s) : WX g m' H' W c fs s := fun C da m2 H2 l2 => h C da m2 H2 (l.trans l2)
theorem PD.le (l : Le m H m' H') {Q : VK} {d : D} {s : S} (h : PD g m H Q d s) : PD g m' H' Q d s := fun v m2 H2 l2 => h v m2 H2 (l.trans l2)
theorem PB.le (l : Le m H m' H') {Q : Bool → Hp → Prop} {d : Bool} {s : S} (h : PB g m H Q d s) : PB g m' H' Q d s := fun m2 H2 l2 => h m2 H2 (l.trans l2)
theorem PL.le (l : Le m H m' H') {Q : List V → Hp → Prop} {d : List D} {s : S} (h : PL g m H Q d s) : PL g m' H' Q d s := fun v m2 H2 l2 => h v m2 H2 (l.trans l2)
end
theorem R.post_mono {α : Type} {r : R α} {P P' : α → S → Prop} {E E' : Str → XF → S → Prop} (h : r.post P E) (hp : ∀ a s, P a s → P' a s) (he : ∀ c fs s, E c fs s → E' c fs s) : r.post P' E' := by
  cases r with
  | no => exact h
  | ok a s => exact hp _ _ h
  | ex c fs s => exact he _ _ _ h
theorem R.post_bind {α β : Type} {r : R α} {f : α → S → R β} {P : β → S → Prop} {E : Str → XF → S → Prop} (h : (r.bind f).post P E) : r.post (fun a s => (f a s).post P E) E := by
  cases r with
  | no => exact h
  | ok a s => exact h
  | ex c fs s => exact h
theorem R.post_of {α : Type} {o : Option (α × S)} {P : α → S → Prop} {E : Str → XF → S → Prop} (h : (R.of o).post P E) : ∃ a s, o = some (a, s) ∧ P a s := by
  cases o with
  | none => exact h.elim
  | some p => exact ⟨p.1, p.2, rfl, h⟩

/-! ### readings -/
def sem (g : G) (W : XK) (f : EX) : TE := fun σ H Q => ∃ m env s, Ag g m σ H env s ∧ (f env s).post (PD g m H Q) (WX g m H W)
def semB (g : G) (W : XK) (f : EB) : TT := fun σ H Q => ∃ m env s, Ag g m σ H env s ∧ (f env s).post (PB g m H Q) (WX g m H W)
def semA (g : G) (W : XK) (f : EA) : TA := fun σ H Q => ∃ m env s, Ag g m σ H env s ∧ (f env s).post (PL g m H Q) (WX g m H W)
section
variable {X : Cx} {g : G} {W : XK} {f f' : EX}
theorem PE.of {e : Expr} {t t' : TE} (h : PE X e t) (k : ∀ σ H Q, t' σ H Q → t σ H Q) : PE X e t' := ⟨fun pins s σ H Q I q => h.run pins s σ H Q I (k _ _ _ q)⟩
theorem PT.of {e : Expr} {t t' : TT} (h : PT X e t) (k : ∀ σ H Q, t' σ H Q → t σ H Q) : PT X e t' := ⟨fun pins s σ H Q I q => h.run pins s σ H Q I (k _ _ _ q)⟩
theorem PA.of {e : List Expr} {t t' : TA} (h : PA X e t) (k : ∀ σ H Q, t' σ H Q → t σ H Q) : PA X e t' := ⟨fun p pins s σ H Q I q => h.run p pins s σ H Q I (k _ _ _ q)⟩
/-- from the reading of a part: what it leaves -/
theorem sem_k {σ : L2.St} {H : Hp} {m : List Addr} {env : Env} {s : S} {P : D → S → Prop} {K : VK} (a : Ag g m σ H env s) (h : (f env s).post P (WX g m H W))
    (k : ∀ d s1 v m1 H1, P d s1 → Le m H m1 H1 → Ag g m1 σ H1 env s1 → Rep g m1 H1 v d → K v H1) : sem g W f σ H K :=
  ⟨m, env, s, a, R.post_mono h (fun d s1 p v m1 H1 l hold r => k d s1 v m1 H1 p l (a.go l hold) r) fun _ _ _ e => e⟩
theorem semB_k {fb : EB} {σ : L2.St} {H : Hp} {m : List Addr} {env : Env} {s : S} {P : Bool → S → Prop} {K : Bool → Hp → Prop} (a : Ag g m σ H env s) (h : (fb env s).post P (WX g m H W))
    (k : ∀ d s1 m1 H1, P d s1 → Le m H m1 H1 → Ag g m1 σ H1 env s1 → K d H1) : semB g W fb σ H K :=
  ⟨m, env, s, a, R.post_mono h (fun d s1 p m1 H1 l hold => k d s1 m1 H1 p l (a.go l hold)) fun _ _ _ e => e⟩
theorem semA_k {fa : EA} {σ : L2.St} {H : Hp} {m : List Addr} {env : Env} {s : S} {P : List D → S → Prop} {K : List V → Hp → Prop} (a : Ag g m σ H env s) (h : (fa env s).post P (WX g m H W))
    (k : ∀ d s1 v m1 H1, P d s1 → Le m H m1 H1 → Ag g m1 σ H1 env s1 → Reps g m1 H1 v d → K v H1) : semA g W fa σ H K :=
  ⟨m, env, s, a, R.post_mono h (fun d s1 p v m1 H1 l hold r => k d s1 v m1 H1 p l (a.go l hold) r) fun _ _ _ e => e⟩
end

/-! ### names, constants -/
def vr (i : Nat) : EX := fun env s => match env[i]? with
  | some (some d) => .ok d s
  | _ => .no
def cn (d : D) : EX := fun _ s => .ok d s
section
variable {X : Cx} {g : G} {W : XK} {f f' : EX}
theorem s_var {i : Nat} {e : Expr} (h : PE X e (tVar i)) : PE X e (sem g W (vr i)) := by
  refine PE.of h fun σ H Q ⟨m, env, s, a, q⟩ => ?_
  unfold vr at q
  split at q
  · rename_i d hd
    obtain ⟨v, e1, r⟩ := a.val i d hd
    exact ⟨v, e1, q v m H (Le.refl m H) a.hold r⟩
  · exact q.elim
theorem s_con {e : Expr} {v : V} {d : D} (h : PE X e (tC v)) (r : ∀ m H, Rep g m H v d) : PE X e (sem g W (cn d)) :=
  PE.of h fun σ H Q ⟨m, env, s, a, q⟩ => q v m H (Le.refl m H) a.hold (r m H)
theorem s_int {i : Int} {j pos} : PE X (.Constant (.int i) j pos) (sem g W (cn (.int i))) := s_con pe_int fun _ _ => .int i
theorem s_bl {b : Bool} {j pos} : PE X (.Constant (.bool b) j pos) (sem g W (cn (.bl b))) := s_con pe_bl fun _ _ => .bl b
theorem s_non {j pos} : PE X (.Constant .none j pos) (sem g W (cn .non)) := s_con pe_non fun _ _ => .non
theorem s_str {x : Str} {j pos} : PE X (.Constant (.str x) j pos) (sem g W (cn (.str x))) := s_con pe_str fun _ _ => .str x
end

/-! ### two-place operations -/
abbrev OP2 := D → D → S → Option (D × S)
def O2 (g : G) (r : R2) (o : OP2) : Prop := ∀ (m : List Addr) (H : Hp) (s : S) (v w : V) (d e x : D) (s' : S) (Q : VK), Hold g m s H → Rep g m H v d → Rep g m H w e → o d e s = some (x, s') → PD g m H Q x s' → r v w H Q
def e2 (o : OP2) (f f' : EX) : EX := fun env s => (f env s).bind fun d s1 => (f' env s1).bind fun e s2 => R.of (o d e s2)
section
variable {X : Cx} {g : G} {W : XK} {f f' f'' : EX} {a b c : Expr} {pos : Pos} {r r' : R2} {o o' : OP2}
theorem sem_2 (ho : O2 g r o) {σ : L2.St} {H : Hp} {Q : VK} (h : sem g W (e2 o f f') σ H Q) : tOp r (sem g W f) (sem g W f') σ H Q := by
  obtain ⟨m, env, s, ag, q⟩ := h
  refine sem_k ag (R.post_bind q) fun d s1 v m1 H1 q1 l1 a1 r1 => ?_
  refine sem_k a1 (R.post_mono (R.post_bind q1) (fun _ _ z => z) fun _ _ _ z => z.le l1) fun e s2 w m2 H2 q2 l2 a2 r2 => ?_
  obtain ⟨x, s', e1, q3⟩ := R.post_of q2
  exact ho m2 H2 s2 v w d e x s' Q a2.hold (r1.le l2) r2 e1 (q3.le (l1.trans l2))
theorem s_op {op : Operator} (hr : OpR X (binaryOp op) r) (ho : O2 g r o) (ha : PE X a (sem g W f)) (hb : PE X b (sem g W f')) : PE X (.BinOp a op b pos) (sem g W (e2 o f f')) :=
  PE.of (pe_op hr ha hb) fun _ _ _ h => sem_2 ho h
theorem s_cmp {op : CmpOp} (hr : OpR X (compareOp op) r) (ho : O2 g r o) (ha : PE X a (sem g W f)) (hb : PE X b (sem g W f')) (hm : behindInMarks op b = false) : PE X (.Compare a [op] [b] pos) (sem g W (e2 o f f')) :=
  PE.of (pe_cmpR hr ha hb hm) fun _ _ _ h => sem_2 ho h
theorem s_ix (hr : IxR X r) (ho : O2 g r o) (ha : PE X a (sem g W f)) (hb : PE X b (sem g W f')) (hs : PlainIx b) : PE X (.Subscript a b pos) (sem g W (e2 o f f')) :=
  PE.of (pe_ix hr ha hb hs) fun _ _ _ h => sem_2 ho h
theorem O2.or (h : O2 g r o) (h' : O2 g r' o') : O2 g (fun x y H Q => r x y H Q ∨ r' x y H Q) (fun d e s => match o d e s with | some x => some x | none => o' d e s) := by
  intro m H s v w d e x s' Q hold rv rw he q
  have he : (match o d e s with | some x => some x | none => o' d e s) = some (x, s') := he
  cases h1 : o d e s with
  | some z =>
    rw [h1] at he
    exact .inl (h m H s v w d e x s' Q hold rv rw (h1.trans he) q)
  | none =>
    rw [h1] at he
    exact .inr (h' m H s v w d e x s' Q hold rv rw he q)
end

/-! ### tests -/
/-- a bool's test; a value's test by its truth -/
def asB : D → S → R Bool
  | .bl b, s => .ok b s
  | _, _ => .no
def tB1 (f : EX) : EB := fun env s => (f env s).bind asB
def truD (d : D) (s : S) : Option Bool := match d with
  | .non => some false
  | .bl b => some b
  | .int i => some (i != 0)
  | .str x => if x.length ≤ sizeLine then some ((x.length : Int) != 0) else none
  | .tup ds => some (!ds.isEmpty)
  | .rol ds => some (!ds.isEmpty)
  | .ref p => match s[p]? with
    | some (.lst ds) => some (!ds.isEmpty)
    | some (.dct kvs) => some (!kvs.isEmpty)
    | _ => none
  | _ => none
def tTl (f : EX) : EB := fun env s => (f env s).bind fun d s1 => match truD d s1 with
  | some b => .ok b s1
  | none => .no
theorem Reps.isEmpty {g : G} {m : List Addr} {H : Hp} {xs : List V} {ds : List D} (r : Reps g m H xs ds) : xs.isEmpty = ds.isEmpty := by cases r <;> rfl
theorem ent_len {α β : Type} {F : α → β → Prop} {l₁ : List α} {l₂ : List β} (h : Paired F l₁ l₂) : l₁.isEmpty = l₂.isEmpty := by cases h <;> rfl
section
variable {X : Cx} {W : XK} {f f' : EX} {fb fb' : EB} {e a b : Expr} {rest : List Expr} {pos : Pos}
theorem truL_sem {g : G} {m : List Addr} {H : Hp} {s : S} {v : V} {d : D} {k : Bool} (hold : Hold g m s H) (r : Rep g m H v d) (h : truD d s = some k) : TruV g.K v H k := by
  cases r with
  | non => cases h; rfl
  | bl b => cases h; rfl
  | int i => cases h; rfl
  | str x =>
    have h : (if x.length ≤ sizeLine then some ((x.length : Int) != 0) else none) = some k := h
    by_cases z : x.length ≤ sizeLine
    · rw [if_pos z] at h; cases h; exact ⟨z, rfl⟩
    · rw [if_neg z] at h; cases h
  | ty n => cases h
  | tup z q => cases h; exact .inr (.inl ⟨_, z.sq, by rw [q.isEmpty]⟩)
  | rol z q => cases h; exact .inl ⟨_, z.sq, by rw [q.isEmpty]⟩
  | glo z => cases h
  | ref z =>
    rename_i a p
    have h : (match s[p]? with
      | some (.lst ds) => some (!ds.isEmpty)
      | some (.dct kvs) => some (!kvs.isEmpty)
      | _ => none) = some k := h
    split at h
    · rename_i ds hs
      cases h
      obtain ⟨xs, e1, q⟩ := hold.obj _ _ _ z hs
      exact .inl ⟨xs, .of e1, by rw [q.isEmpty]⟩
    · rename_i kvs hs
      cases h
      obtain ⟨es, e1, q⟩ := hold.obj _ _ _ z hs
      exact .inr (.inr ⟨es, e1, by rw [ent_len q]⟩)
    · cases h
theorem t_truth (h : PE X e (sem ⟨X.K, X.mg⟩ W f)) (he : ∀ whole, isTrue e X.env whole = (do let v ← whole; standAt e.pos; holding [v] (truthy v)) := by intro _; rfl) : PT X e (semB ⟨X.K, X.mg⟩ W (tTl f)) := by
  refine PT.of (pt_truth h he) fun σ H Q ⟨m, env, s, ag, q⟩ => ?_
  refine sem_k ag (R.post_bind q) fun d s1 v m1 H1 q1 l1 a1 r1 => ?_
  split at q1
  · rename_i k hk
    exact ⟨k, truL_sem a1.hold r1 hk, q1 m1 H1 l1 a1.hold⟩
  · exact q1.elim
/-- a comparison as a test -/
theorem t_cmp {op : CmpOp} {r : R2} {o : OP2} {g : G} (hr : OpR X (compareOp op) r) (ho : O2 g r o) (ha : PE X a (sem g W f)) (hb : PE X b (sem g W f')) (hm : behindInMarks op b = false) : PT X (.Compare a [op] [b] pos) (semB g W (tB1 (e2 o f f'))) := by
  refine PT.of (pt_cmpR hr ha hb hm) fun σ H Q ⟨m, env, s, ag, q⟩ => ?_
  refine sem_2 ho (sem_k ag (R.post_bind q) fun d s1 v m1 H1 q1 l1 a1 r1 => ?_)
  cases d <;> first | exact q1.elim | skip
  cases r1
  exact ⟨_, rfl, q1 m1 H1 l1 a1.hold⟩
def tAn (fb fb' : EB) : EB := fun env s => (fb env s).bind fun b s1 => if b = true then fb' env s1 else .ok false s1
def tO (fb fb' : EB) : EB := fun env s => (fb env s).bind fun b s1 => if b = true then .ok true s1 else fb' env s1
def tNo (fb : EB) : EB := fun env s => (fb env s).bind fun b s1 => .ok (!b) s1
variable {g : G}
theorem t_and1 (h : PT X a (semB g W fb)) : PW X (.BoolOp .And [a] pos) (semB g W fb) := pw_and1 h
theorem t_or1 (h : PT X a (semB g W fb)) : PW X (.BoolOp .Or [a] pos) (semB g W fb) := pw_or1 h
theorem PW.of {t t' : TT} (h : PW X e t) (k : ∀ σ H Q, t' σ H Q → t σ H Q) : PW X e t' := ⟨fun w pins s σ H Q I q => h.run w pins s σ H Q I (k _ _ _ q)⟩
theorem t_and (ha : PT X a (semB g W fb)) (hb : PW X (.BoolOp .And (b :: rest) pos) (semB g W fb')) : PW X (.BoolOp .And (a :: b :: rest) pos) (semB g W (tAn fb fb')) := by
  refine PW.of (pw_and ha hb) fun σ H Q ⟨m, env, s, ag, q⟩ => ?_
  refine semB_k ag (R.post_bind q) fun d s1 m1 H1 q1 l1 a1 => ?_
  cases d with
  | true => exact iteT ⟨m1, env, s1, a1, R.post_mono q1 (fun _ _ z => z.le l1) fun _ _ _ z => z.le l1⟩
  | false => exact iteF (q1 m1 H1 l1 a1.hold)
theorem t_or (ha : PT X a (semB g W fb)) (hb : PW X (.BoolOp .Or (b :: rest) pos) (semB g W fb')) : PW X (.BoolOp .Or (a :: b :: rest) pos) (semB g W (tO fb fb')) := by
  refine PW.of (pw_or ha hb) fun σ H Q ⟨m, env, s, ag, q⟩ => ?_
  refine semB_k ag (R.post_bind q) fun d s1 m1 H1 q1 l1 a1 => ?_
  cases d with
  | true => exact iteT (q1 m1 H1 l1 a1.hold)
  | false => exact iteF ⟨m1, env, s1, a1, R.post_mono q1 (fun _ _ z => z.le l1) fun _ _ _ z => z.le l1⟩
theorem t_not (ha : PT X a (semB g W fb)) : PT X (.UnaryOp .Not a pos) (semB g W (tNo fb)) := by
  refine PT.of (pt_not ha) fun σ H Q ⟨m, env, s, ag, q⟩ => ?_
  exact semB_k ag (R.post_bind q) fun d s1 m1 H1 q1 l1 a1 => q1 m1 H1 l1 a1.hold
/-! as values -/
def eAn (f f' : EX) : EX := fun env s => (f env s).bind fun d s1 => match d with
  | .bl true => f' env s1
  | .bl false => .ok (.bl false) s1
  | _ => .no
def eO (f f' : EX) : EX := fun env s => (f env s).bind fun d s1 => match d with
  | .bl true => .ok (.bl true) s1
  | .bl false => f' env s1
  | _ => .no
def eNo (f : EX) : EX := fun env s => (f env s).bind fun d s1 => match d with
  | .bl b => .ok (.bl (!b)) s1
  | _ => .no
theorem s_one {op} (h : PE X a (sem g W f)) : PE X (.BoolOp op [a] pos) (sem g W f) := pe_one h
theorem s_and (ha : PE X a (sem g W f)) (hb : PE X (.BoolOp .And (b :: rest) pos) (sem g W f')) : PE X (.BoolOp .And (a :: b :: rest) pos) (sem g W (eAn f f')) := by
  refine PE.of (pe_and ha hb) fun σ H Q ⟨m, env, s, ag, q⟩ => ?_
  refine sem_k ag (R.post_bind q) fun d s1 v m1 H1 q1 l1 a1 r1 => ?_
  cases r1 <;> first | exact q1.elim | skip
  rename_i k
  cases k with
  | true => exact ⟨true, rfl, iteT ⟨m1, env, s1, a1, R.post_mono q1 (fun _ _ z => z.le l1) fun _ _ _ z => z.le l1⟩⟩
  | false => exact ⟨false, rfl, iteF (q1 _ m1 H1 l1 a1.hold (.bl false))⟩
theorem s_or (ha : PE X a (sem g W f)) (hb : PE X (.BoolOp .Or (b :: rest) pos) (sem g W f')) : PE X (.BoolOp .Or (a :: b :: rest) pos) (sem g W (eO f f')) := by
  refine PE.of (pe_or ha hb) fun σ H Q ⟨m, env, s, ag, q⟩ => ?_
  refine sem_k ag (R.post_bind q) fun d s1 v m1 H1 q1 l1 a1 r1 => ?_
  cases r1 <;> first | exact q1.elim | skip
  rename_i k
  cases k with
  | true => exact ⟨true, rfl, iteT (q1 _ m1 H1 l1 a1.hold (.bl true))⟩
  | false => exact ⟨false, rfl, iteF ⟨m1, env, s1, a1, R.post_mono q1 (fun _ _ z => z.le l1) fun _ _ _ z => z.le l1⟩⟩
theorem s_not (ha : PE X a (sem g W f)) : PE X (.UnaryOp .Not a pos) (sem g W (eNo f)) := by
  refine PE.of (pe_not ha) fun σ H Q ⟨m, env, s, ag, q⟩ => ?_
  refine sem_k ag (R.post_bind q) fun d s1 v m1 H1 q1 l1 a1 r1 => ?_
  cases r1 <;> first | exact q1.elim | skip
  exact ⟨_, rfl, q1 _ m1 H1 l1 a1.hold (.bl _)⟩
def eIf (fb : EB) (f f' : EX) : EX := fun env s => (fb env s).bind fun b s1 => if b = true then f env s1 else f' env s1
theorem s_if {c : Expr} (hc : PT X c (semB g W fb)) (ha : PE X a (sem g W f)) (hb : PE X b (sem g W f')) : PE X (.IfExp c a b pos) (sem g W (eIf fb f f')) := by
  refine PE.of (pe_ifExp hc ha hb) fun σ H Q ⟨m, env, s, ag, q⟩ => ?_
  refine semB_k ag (R.post_bind q) fun d s1 m1 H1 q1 l1 a1 => ?_
  cases d with
  | true => exact iteT ⟨m1, env, s1, a1, R.post_mono q1 (fun _ _ z => z.le l1) fun _ _ _ z => z.le l1⟩
  | false => exact iteF ⟨m1, env, s1, a1, R.post_mono q1 (fun _ _ z => z.le l1) fun _ _ _ z => z.le l1⟩
/-- a < b < c -/
def eCh (o o' : OP2) (f f' f'' : EX) : EX := fun env s => (f env s).bind fun d s1 => (f' env s1).bind fun e s2 => (R.of (o d e s2)).bind fun k s3 => match k with
  | .bl true => (f'' env s3).bind fun c s4 => (R.of (o' e c s4)).bind fun k s5 => match k with
    | .bl b => .ok (.bl b) s5
    | _ => .no
  | .bl false => .ok (.bl false) s3
  | _ => .no
end
end Mi

set_option Elab.async false
set_option linter.all false
set_option maxRecDepth 100000
namespace Mi
open PySem PySem.Spec PyProof.Rows L2

section
variable {g : G} {m : List Addr} {H : Hp} {s : S} {Q : VK} {p : Addr} {xs : List V} {ds : List D}
theorem line_ok {n : Nat} (h : n ≤ 16777216) : n ≤ sizeLine := by rw [sizeLine_eq]; exact h
theorem line_of {n : Nat} (h : n ≤ sizeLine) : n ≤ 16777216 := by rw [sizeLine_eq] at h; exact h
theorem new_tup (hold : Hold g m s H) (e : H p = none) (r : Reps g m H xs ds) (q : PD g m H Q (.tup ds) s) : Q (.ref p) (upd H p (.tup xs)) :=
  q (.ref p) m _ (Le.aside hold e) (hold.aside e) (.tup (.inl ⟨upd_same, hold.free e⟩) (r.le (Le.aside hold e)))
theorem new_lst (hold : Hold g m s H) (e : H p = none) (r : Reps g m H xs ds) (q : PD g m H Q (.ref s.length) (s ++ [.lst ds])) : Q (.ref p) (upd H p (.lst xs)) :=
  q (.ref p) (m ++ [p]) _ (Le.new hold e) (hold.new e ⟨xs, upd_same, r.le (Le.new hold e)⟩) (.ref (by rw [← hold.len, List.getElem?_append_right (Nat.le_refl _), Nat.sub_self]; rfl))
theorem PD.here (hold : Hold g m s H) {v : V} {d : D} (r : Rep g m H v d) (q : PD g m H Q d s) : Q v H := q v m H (Le.refl m H) hold r
theorem rep_int {v : V} {i : Int} (r : Rep g m H v (.int i)) : v = .int i := by cases r; rfl
theorem rep_bl {v : V} {b : Bool} (r : Rep g m H v (.bl b)) : v = .bl b := by cases r; rfl
theorem rep_str {v : V} {x : Str} (r : Rep g m H v (.str x)) : v = .str x := by cases r; rfl
theorem rep_non {v : V} (r : Rep g m H v .non) : v = .non := by cases r; rfl
theorem rep_tup {v : V} (r : Rep g m H v (.tup ds)) : ∃ a xs, v = .ref a ∧ RdT g m H a xs ∧ Reps g m H xs ds := by cases r with | tup h r => exact ⟨_, _, rfl, h, r⟩
theorem rep_rol {v : V} (r : Rep g m H v (.rol ds)) : ∃ a xs, v = .ref a ∧ RdL g m H a xs ∧ Reps g m H xs ds := by cases r with | rol h r => exact ⟨_, _, rfl, h, r⟩
theorem rep_ref {v : V} {i : Nat} (r : Rep g m H v (.ref i)) : ∃ a, v = .ref a ∧ m[i]? = some a := by cases r with | ref h => exact ⟨_, rfl, h⟩
theorem rep_lst {v : V} {i : Nat} (hold : Hold g m s H) (r : Rep g m H v (.ref i)) (e : s[i]? = some (.lst ds)) : ∃ a xs, v = .ref a ∧ m[i]? = some a ∧ H a = some (.lst xs) ∧ Reps g m H xs ds := by
  obtain ⟨a, rfl, h⟩ := rep_ref r
  obtain ⟨xs, e1, r1⟩ := hold.obj i a _ h e
  exact ⟨a, xs, rfl, h, e1, r1⟩
end

/-! ### arithmetic -/
def opI (C : Int → Int → Bool) (k : Int → Int → D) : OP2 := fun d e s => match d, e with
  | .int i, .int j => if C i j = true then some (k i j, s) else none
  | _, _ => none
theorem opI_some {C : Int → Int → Bool} {k : Int → Int → D} {d e x : D} {s s' : S} (h : opI C k d e s = some (x, s')) : ∃ i j, d = .int i ∧ e = .int j ∧ C i j = true ∧ x = k i j ∧ s' = s := by
  unfold opI at h
  split at h
  · rename_i i j
    by_cases c : C i j = true
    · rw [if_pos c] at h; cases h; exact ⟨i, j, rfl, rfl, c, rfl, rfl⟩
    · rw [if_neg c] at h; cases h
  · cases h
theorem o2_I {g : G} {P : Int → Int → Prop} {f : Int → Int → V} {C : Int → Int → Bool} {k : Int → Int → D} (hC : ∀ i j, C i j = true → P i j) (hk : ∀ m H i j, C i j = true → Rep g m H (f i j) (k i j)) : O2 g (rI P f) (opI C k) := by
  intro m H s v w d e x s' Q hold rv rw he q
  obtain ⟨i, j, rfl, rfl, c, rfl, rfl⟩ := opI_some he
  exact ⟨i, j, rep_int rv, rep_int rw, hC i j c, PD.here hold (hk m H i j c) q⟩
theorem o2_I0 {g : G} {f : Int → Int → V} {k : Int → Int → D} (hk : ∀ m H i j, Rep g m H (f i j) (k i j)) : O2 g (rI0 f) (opI (fun _ _ => true) k) := by
  intro m H s v w d e x s' Q hold rv rw he q
  obtain ⟨i, j, rfl, rfl, c, rfl, rfl⟩ := opI_some he
  exact ⟨i, j, rep_int rv, rep_int rw, PD.here hold (hk m H i j) q⟩
abbrev subD : OP2 := opI (fun _ _ => true) fun i j => .int (i - j)
abbrev modD : OP2 := opI (fun _ j => decide (0 < j)) fun i j => .int (i % j)
abbrev divD : OP2 := opI (fun _ j => decide (0 < j ∧ j < 1073741824)) fun i j => .int (i / j)
abbrev divWD : OP2 := opI (fun _ j => decide (0 < j ∧ j.natAbs.log2 < 9000)) fun i j => .int (i / j)
abbrev powD : OP2 := opI (fun i j => decide (0 ≤ j ∧ j ≤ 1000000 ∧ i.natAbs < 2 ^ 64)) fun i j => .int (i ^ j.toNat)
abbrev shlD : OP2 := opI (fun i j => decide (0 ≤ j ∧ j ≤ 1000000 ∧ i.natAbs < 2 ^ 64)) fun i j => .int (i * 2 ^ j.toNat)
abbrev andD : OP2 := opI (fun _ _ => true) fun i j => .int (Builtin.bitAnd i j)
abbrev orD : OP2 := opI (fun _ _ => true) fun i j => .int (Builtin.bitOr i j)
abbrev xorD : OP2 := opI (fun _ _ => true) fun i j => .int (Builtin.bitXor i j)
abbrev ltD : OP2 := opI (fun _ _ => true) fun i j => .bl (decide (i < j))
abbrev leD : OP2 := opI (fun _ _ => true) fun i j => .bl (decide (i ≤ j))
abbrev gtD : OP2 := opI (fun _ _ => true) fun i j => .bl (decide (j < i))
abbrev geD : OP2 := opI (fun _ _ => true) fun i j => .bl (decide (j ≤ i))
section
variable {g : G} {X : Cx}
theorem o2_sub : O2 g (rI0 fun i j => .int (i - j)) subD := o2_I0 fun _ _ _ _ => .int _
theorem o2_mod : O2 g (rI (fun _ j => 0 < j) fun i j => .int (i % j)) modD := o2_I (fun _ _ h => of_decide_eq_true h) fun _ _ _ _ _ => .int _
theorem o2_div : O2 g (rI CDiv fun i j => .int (i / j)) divD := o2_I (fun _ _ h => (by have z := of_decide_eq_true h; exact z)) fun _ _ _ _ _ => .int _
theorem o2_divW : O2 g (rI CDivW fun i j => .int (i / j)) divWD := o2_I (fun _ _ h => (by have z := of_decide_eq_true h; exact z)) fun _ _ _ _ _ => .int _
theorem o2_pow : O2 g (rI CPow fun i j => .int (i ^ j.toNat)) powD := o2_I (fun _ _ h => (by have z := of_decide_eq_true h; exact z)) fun _ _ _ _ _ => .int _
theorem o2_shl : O2 g (rI CPow fun i j => .int (i * 2 ^ j.toNat)) shlD := o2_I (fun _ _ h => (by have z := of_decide_eq_true h; exact z)) fun _ _ _ _ _ => .int _
theorem o2_and : O2 g (rI0 fun i j => .int (Builtin.bitAnd i j)) andD := o2_I0 fun _ _ _ _ => .int _
theorem o2_or : O2 g (rI0 fun i j => .int (Builtin.bitOr i j)) orD := o2_I0 fun _ _ _ _ => .int _
theorem o2_xor : O2 g (rI0 fun i j => .int (Builtin.bitXor i j)) xorD := o2_I0 fun _ _ _ _ => .int _
theorem o2_lt : O2 g (rI0 fun i j => .bl (decide (i < j))) ltD := o2_I0 fun _ _ _ _ => .bl _
theorem o2_le : O2 g (rI0 fun i j => .bl (decide (i ≤ j))) leD := o2_I0 fun _ _ _ _ => .bl _
theorem o2_gt : O2 g (rI0 fun i j => .bl (decide (j < i))) gtD := o2_I0 fun _ _ _ _ => .bl _
theorem o2_ge : O2 g (rI0 fun i j => .bl (decide (j ≤ i))) geD := o2_I0 fun _ _ _ _ => .bl _

/-! a + b, a * b by kinds -/
def addD : OP2 := fun d e s => match d, e with
  | .int i, .int j => some (.int (i + j), s)
  | .str x, .str y => if x.length + y.length ≤ 16777216 then some (.str (x ++ y), s) else none
  | .tup xs, .tup ys => if xs.length + ys.length ≤ 16777216 then some (.tup (xs ++ ys), s) else none
  | .ref p, .ref q => match s[p]?, s[q]? with
    | some (.lst xs), some (.lst ys) => if xs.length + ys.length ≤ 16777216 then some (.ref s.length, s ++ [.lst (xs ++ ys)]) else none
    | _, _ => none
  | _, _ => none
def rAddA (K : PySem.W.Frag) : R2 := fun x y H Q => (rI0 fun i j => .int (i + j)) x y H Q ∨ (∃ i j, x = .str i ∧ y = .str j ∧ i.length + j.length ≤ sizeLine ∧ Q (.str (i ++ j)) H) ∨ rCatA K x y H Q ∨ rCat x y H Q
theorem op_addA : OpR X (binaryOp .Add) (rAddA X.K) := op_add.or (op_add_str.or (op_catA.or op_cat))
theorem o2_add : O2 g (rAddA g.K) addD := by
  intro m H s v w d e x s' Q hold rv rw he q
  unfold addD at he
  split at he
  · cases he
    exact .inl ⟨_, _, rep_int rv, rep_int rw, PD.here hold (.int _) q⟩
  · rename_i x y
    by_cases c : x.length + y.length ≤ 16777216
    · rw [if_pos c] at he; cases he
      exact .inr (.inl ⟨_, _, rep_str rv, rep_str rw, line_ok c, PD.here hold (.str _) q⟩)
    · rw [if_neg c] at he; cases he
  · rename_i xs ys
    by_cases c : xs.length + ys.length ≤ 16777216
    · rw [if_pos c] at he; cases he
      obtain ⟨a, vs, rfl, h1, r1⟩ := rep_tup rv
      obtain ⟨b, ws, rfl, h2, r2⟩ := rep_tup rw
      refine .inr (.inr (.inl ⟨a, b, vs, ws, rfl, rfl, h1.sq, h2.sq, line_ok (by rw [r1.length, r2.length]; exact c), fun e => ?_, fun _ e => ?_, fun _ _ p hp => ?_⟩))
      · subst e; cases r1; exact PD.here hold (.tup h2 r2) q
      · subst e; cases r2; rw [List.append_nil] at q; exact PD.here hold (.tup h1 r1) q
      · exact new_tup hold hp (r1.append r2) q
    · rw [if_neg c] at he; cases he
  · rename_i i j
    split at he
    · rename_i xs ys e1 e2
      by_cases c : xs.length + ys.length ≤ 16777216
      · rw [if_pos c] at he; cases he
        obtain ⟨a, vs, rfl, _, h1, r1⟩ := rep_lst hold rv e1
        obtain ⟨b, ws, rfl, _, h2, r2⟩ := rep_lst hold rw e2
        exact .inr (.inr (.inr ⟨a, b, vs, ws, rfl, rfl, h1, h2, line_ok (by rw [r1.length, r2.length]; exact c), fun p hp => new_lst hold hp (r1.append r2) q⟩))
      · rw [if_neg c] at he; cases he
    · cases he
  · cases he
def repD {α : Type} (n : Nat) (xs : List α) : List α := (List.replicate n xs).flatten
def mulD : OP2 := fun d e s => match d, e with
  | .int i, .int j => if (-(2 ^ 64) < i ∧ i < 2 ^ 64) ∨ (-(2 ^ 64) < j ∧ j < 2 ^ 64) then some (.int (i * j), s) else none
  | .ref p, .int k => match s[p]? with
    | some (.lst xs) => if k < 2 ^ 63 ∧ -(2 ^ 63) ≤ k ∧ xs.length * k.toNat ≤ 16777216 then some (.ref s.length, s ++ [.lst (repD k.toNat xs)]) else none
    | _ => none
  | _, _ => none
theorem Reps.rep {m : List Addr} {H : Hp} {xs : List V} {ds : List D} (r : Reps g m H xs ds) : ∀ n, Reps g m H (repD n xs) (repD n ds)
  | 0 => .nil
  | n + 1 => by
    unfold repD
    rw [List.replicate_succ, List.replicate_succ, List.flatten_cons, List.flatten_cons]
    exact r.append (Reps.rep r n)
def rMulA : R2 := fun x y H Q => (rI CMul fun i j => .int (i * j)) x y H Q ∨ rRep x y H Q
theorem op_mulA : OpR X (binaryOp .Mult) rMulA := op_mul.or op_rep
theorem o2_mul : O2 g rMulA mulD := by
  intro m H s v w d e x s' Q hold rv rw he q
  unfold mulD at he
  split at he
  · rename_i i j
    by_cases c : (-(2 ^ 64) < i ∧ i < 2 ^ 64) ∨ (-(2 ^ 64) < j ∧ j < 2 ^ 64)
    · rw [if_pos c] at he; cases he
      exact .inl ⟨_, _, rep_int rv, rep_int rw, c, PD.here hold (.int _) q⟩
    · rw [if_neg c] at he; cases he
  · rename_i i k
    split at he
    · rename_i xs e1
      by_cases c : k < 2 ^ 63 ∧ -(2 ^ 63) ≤ k ∧ xs.length * k.toNat ≤ 16777216
      · rw [if_pos c] at he; cases he
        obtain ⟨a, vs, rfl, _, h1, r1⟩ := rep_lst hold rv e1
        exact .inr ⟨a, k, vs, rfl, rep_int rw, h1, c.2.1, c.1, line_ok (by rw [r1.length]; exact c.2.2), fun p hp => new_lst hold hp (r1.rep k.toNat) q⟩
      · rw [if_neg c] at he; cases he
    · cases he
  · cases he

/-! == and != -/
def toP : Nat → S → D → Option PyData
  | 0, _, _ => none
  | n + 1, s, d => match d with
    | .non => some .none
    | .bl b => some (.bool b)
    | .int i => some (.int i)
    | .str x => some (.str x)
    | .tup ds => (ds.mapM (toP n s)).map .tuple
    | .rol ds => (ds.mapM (toP n s)).map .list
    | .ref p => match s[p]? with
      | some (.lst ds) => (ds.mapM (toP n s)).map .list
      | _ => none
    | _ => none
theorem dpAll_of {m : List Addr} {H : Hp} {F : D → Option PyData} : ∀ {xs : List V} {ds : List D} {ps : List PyData}, Reps g m H xs ds → ds.mapM F = some ps →
    (∀ x d p, Rep g m H x d → F d = some p → Dp g.K H x p) → DpAll g.K H xs ps
  | _, _, _, .nil, h, _ => by cases h; exact .nil
  | _, _, _, .cons (d := d) (ds := ds) r t, h, k => by
    rw [List.mapM_cons] at h
    cases e1 : F d with
    | none => rw [e1] at h; cases h
    | some p =>
      cases e2 : ds.mapM F with
      | none => rw [e1, e2] at h; cases h
      | some ps =>
        rw [e1, e2] at h
        cases h
        exact .cons (k _ _ _ r e1) (dpAll_of t e2 k)
theorem toP_ok {m : List Addr} {H : Hp} {s : S} (hold : Hold g m s H) : ∀ (n : Nat) (x : V) (d : D) (p : PyData), Rep g m H x d → toP n s d = some p → Dp g.K H x p
  | 0, _, _, _, _, h => by cases h
  | n + 1, x, d, p, r, h => by
    cases r with
    | non => cases h; exact .non
    | bl b => cases h; exact .bl b
    | int i => cases h; exact .int i
    | str y => cases h; exact .str y
    | ty y => cases h
    | glo z => cases h
    | @tup a xs ds z q =>
      have h : (ds.mapM (toP n s)).map PyData.tuple = some p := h
      cases e : ds.mapM (toP n s) with
      | none => rw [e] at h; cases h
      | some ps => rw [e] at h; cases h; exact .tup z.sq (dpAll_of q e fun x d p r h => toP_ok hold n x d p r h)
    | @rol a xs ds z q =>
      have h : (ds.mapM (toP n s)).map PyData.list = some p := h
      cases e : ds.mapM (toP n s) with
      | none => rw [e] at h; cases h
      | some ps => rw [e] at h; cases h; exact .lst z.sq (dpAll_of q e fun x d p r h => toP_ok hold n x d p r h)
    | @ref a i z =>
      have h : (match s[i]? with
        | some (.lst ds) => (ds.mapM (toP n s)).map PyData.list
        | _ => none) = some p := h
      split at h
      · rename_i ds e1
        obtain ⟨xs, e2, q⟩ := hold.obj i a _ z e1
        cases e : ds.mapM (toP n s) with
        | none => rw [e] at h; cases h
        | some ps => rw [e] at h; cases h; exact .lst (.of e2) (dpAll_of q e fun x d p r h => toP_ok hold n x d p r h)
      · cases h
/-- scalars of one kind, or none beside one: by their terms -/
def eqS : D → D → Option Bool
  | .non, .non => some true
  | .int i, .int j => some (decide (i = j))
  | .bl i, .bl j => some (decide (i = j))
  | .str i, .str j => some (decide (i = j))
  | .non, .int _ => some false | .int _, .non => some false
  | .non, .bl _ => some false | .bl _, .non => some false
  | .non, .str _ => some false | .str _, .non => some false
  | .int _, .str _ => some false | .str _, .int _ => some false
  | .bl _, .str _ => some false | .str _, .bl _ => some false
  | _, _ => none
def eqB (d e : D) (s : S) : Option Bool := match eqS d e with
  | some b => some b
  | none => match toP 60 s d, toP 60 s e with
    | some p, some q => if SeqAt.shaped p && SeqAt.shaped q then some (PyData.eqv p q) else none
    | _, _ => none
def eqD : OP2 := fun d e s => match eqB d e s with
  | some b => some (.bl b, s)
  | none => none
def neD : OP2 := fun d e s => match eqB d e s with
  | some b => some (.bl (!b), s)
  | none => none
def rEqA (K : PySem.W.Frag) : R2 := fun x y H Q => rEq x y H Q ∨ rEqD K x y H Q
def rNeA (K : PySem.W.Frag) : R2 := fun x y H Q => rNe x y H Q ∨ rNeD K x y H Q
theorem op_eqA (hu : X.A.units + 64 < cLine) : OpR X (compareOp .Eq) (rEqA X.K) := op_eq.or (op_eqD hu)
theorem op_neA (hu : X.A.units + 64 < cLine) : OpR X (compareOp .NotEq) (rNeA X.K) := op_ne.or (op_neD hu)
theorem eqS_ok {m : List Addr} {H : Hp} {d e : D} {b : Bool} {v w : V} (h : eqS d e = some b) (rv : Rep g m H v d) (rw : Rep g m H w e) : scal v w = true ∧ b = decide (v = w) := by
  cases rv <;> cases rw <;> first
    | (cases h; done)
    | (cases h; exact ⟨rfl, by simp⟩)
theorem eqB_ok {m : List Addr} {H : Hp} {s : S} (hold : Hold g m s H) {d e : D} {b : Bool} {v w : V} (h : eqB d e s = some b) (rv : Rep g m H v d) (rw : Rep g m H w e) :
    (scal v w = true ∧ b = decide (v = w)) ∨ (∃ p q, Dp g.K H v p ∧ Dp g.K H w q ∧ SeqAt.shaped p = true ∧ SeqAt.shaped q = true ∧ b = PyData.eqv p q) := by
  unfold eqB at h
  split at h
  · rename_i b' hb
    cases h
    exact .inl (eqS_ok hb rv rw)
  · split at h
    · rename_i p q h1 h2
      by_cases c : (SeqAt.shaped p && SeqAt.shaped q) = true
      · rw [if_pos c] at h; cases h
        rw [Bool.and_eq_true] at c
        exact .inr ⟨p, q, toP_ok hold _ _ _ _ rv h1, toP_ok hold _ _ _ _ rw h2, c.1, c.2, rfl⟩
      · rw [if_neg c] at h; cases h
    · cases h
theorem o2_eq : O2 g (rEqA g.K) eqD := by
  intro m H s v w d e x s' Q hold rv rw he q
  unfold eqD at he
  split at he
  · rename_i b hb
    cases he
    rcases eqB_ok hold hb rv rw with ⟨h1, rfl⟩ | ⟨p, p', h1, h2, h3, h4, rfl⟩
    · exact .inl ⟨h1, PD.here hold (.bl _) q⟩
    · exact .inr ⟨p, p', h1, h2, h3, h4, PD.here hold (.bl _) q⟩
  · cases he
theorem o2_ne : O2 g (rNeA g.K) neD := by
  intro m H s v w d e x s' Q hold rv rw he q
  unfold neD at he
  split at he
  · rename_i b hb
    cases he
    rcases eqB_ok hold hb rv rw with ⟨h1, rfl⟩ | ⟨p, p', h1, h2, h3, h4, rfl⟩
    · exact .inl ⟨h1, PD.here hold (.bl _) q⟩
    · exact .inr ⟨p, p', h1, h2, h3, h4, PD.here hold (.bl _) q⟩
  · cases he

/-! is None, is True -/
def isD : OP2 := fun d e s => match d, e with
  | d, .non => some (.bl (match d with | .non => true | _ => false), s)
  | .bl a, .bl b => some (.bl (decide (a = b)), s)
  | _, _ => none
def isNotD : OP2 := fun d e s => match d, e with
  | d, .non => some (.bl (match d with | .non => false | _ => true), s)
  | .bl a, .bl b => some (.bl (!decide (a = b)), s)
  | _, _ => none
def rIsA : R2 := fun x y H Q => (y = .non ∧ Q (.bl (decide (x = .non))) H) ∨ (∃ a b, x = .bl a ∧ y = .bl b ∧ Q (.bl (decide (a = b))) H)
def rIsNotA : R2 := fun x y H Q => (y = .non ∧ Q (.bl (!decide (x = .non))) H) ∨ (∃ a b, x = .bl a ∧ y = .bl b ∧ Q (.bl (!decide (a = b))) H)
theorem op_isA : OpR X (compareOp .Is) rIsA := op_isN.or op_is_bl
theorem op_isNotA : OpR X (compareOp .IsNot) rIsNotA := op_notN.or op_isnot_bl
theorem o2_is : O2 g rIsA isD := by
  intro m H s v w d e x s' Q hold rv rw he q
  unfold isD at he
  split at he
  · cases he
    refine .inl ⟨rep_non rw, PD.here hold ?_ q⟩
    cases rv <;> simp <;> exact .bl _
  · cases he
    exact .inr ⟨_, _, rep_bl rv, rep_bl rw, PD.here hold (.bl _) q⟩
  · cases he
theorem o2_isNot : O2 g rIsNotA isNotD := by
  intro m H s v w d e x s' Q hold rv rw he q
  unfold isNotD at he
  split at he
  · cases he
    refine .inl ⟨rep_non rw, PD.here hold ?_ q⟩
    cases rv <;> simp <;> exact .bl _
  · cases he
    exact .inr ⟨_, _, rep_bl rv, rep_bl rw, PD.here hold (.bl _) q⟩
  · cases he

/-! in: a list or tuple of flat things -/
def flatD : D → Bool
  | .non | .bl _ | .int _ | .str _ => true
  | _ => false
def eqF : D → D → Bool
  | .non, .non => true
  | .bl a, .bl b => a == b
  | .bl a, .int b => (if a then 1 else 0) == b
  | .int a, .bl b => a == (if b then 1 else 0)
  | .int a, .int b => a == b
  | .str a, .str b => a == b
  | _, _ => false
def itemsD (d : D) (s : S) : Option (List D) := match d with
  | .tup ds => some ds
  | .rol ds => some ds
  | .ref p => match s[p]? with
    | some (.lst ds) => some ds
    | _ => none
  | _ => none
def inD (neg : Bool) : OP2 := fun d e s => match itemsD e s with
  | some ds => if flatD d && ds.all flatD then some (.bl (if neg then !(ds.any fun y => eqF y d) else ds.any fun y => eqF y d), s) else none
  | none => none
theorem flat_ok {m : List Addr} {H : Hp} {v : V} {d : D} (r : Rep g m H v d) : flatV v = flatD d ∨ flatD d = false := by cases r <;> first | exact .inl rfl | exact .inr rfl
theorem flat_rep {m : List Addr} {H : Hp} {v : V} {d : D} (r : Rep g m H v d) (h : flatD d = true) : flatV v = true := by cases r <;> first | rfl | cases h
theorem flats_rep {m : List Addr} {H : Hp} : ∀ {vs : List V} {ds : List D}, Reps g m H vs ds → ds.all flatD = true → vs.all flatV = true
  | _, _, .nil, _ => rfl
  | _, _, .cons r t, h => by
    rw [List.all_cons, Bool.and_eq_true] at h ⊢
    exact ⟨flat_rep r h.1, flats_rep t h.2⟩
theorem eqF_rep {m : List Addr} {H : Hp} {v w : V} {d e : D} (r : Rep g m H v d) (r' : Rep g m H w e) (h : flatD d = true) (h' : flatD e = true) : eqV v w = eqF d e := by
  cases r <;> first | (cases h; done) | (cases r' <;> first | (cases h'; done) | rfl)
theorem inV_rep {m : List Addr} {H : Hp} {v : V} {d : D} (r : Rep g m H v d) (h : flatD d = true) : ∀ {vs : List V} {ds : List D}, Reps g m H vs ds → ds.all flatD = true → inV v vs = ds.any fun y => eqF y d
  | _, _, .nil, _ => rfl
  | _, _, .cons q t, h' => by
    rw [List.all_cons, Bool.and_eq_true] at h'
    unfold inV
    rw [List.any_cons, List.any_cons, eqF_rep q r h'.1 h]
    have := inV_rep r h t h'.2
    unfold inV at this
    rw [this]
/-- a sequence as it is read -/
theorem items_rep {m : List Addr} {H : Hp} {s : S} {v : V} {d : D} {ds : List D} (hold : Hold g m s H) (r : Rep g m H v d) (h : itemsD d s = some ds) : ∃ p xs, v = .ref p ∧ (SqL g.K H p xs ∨ SqT g.K H p xs) ∧ Reps g m H xs ds := by
  cases r with
  | tup z q => cases h; exact ⟨_, _, rfl, .inr z.sq, q⟩
  | rol z q => cases h; exact ⟨_, _, rfl, .inl z.sq, q⟩
  | @ref a i z =>
    have h : (match s[i]? with
      | some (.lst ds) => some ds
      | _ => none) = some ds := h
    split at h
    · rename_i e1
      cases h
      obtain ⟨xs, e2, q⟩ := hold.obj i a _ z e1
      exact ⟨a, xs, rfl, .inl (.of e2), q⟩
    · cases h
  | _ => cases h
theorem o2_in {neg : Bool} : O2 g (rIn g.K neg) (inD neg) := by
  intro m H s v w d e x s' Q hold rv rw he q
  unfold inD at he
  split at he
  · rename_i ds hd
    by_cases c : (flatD d && ds.all flatD) = true
    · rw [if_pos c] at he; cases he
      rw [Bool.and_eq_true] at c
      obtain ⟨p, xs, rfl, hq, rs⟩ := items_rep hold rw hd
      refine ⟨p, xs, rfl, hq, flat_rep rv c.1, flats_rep rs c.2, ?_⟩
      rw [inV_rep rv c.1 rs c.2]
      exact PD.here hold (.bl _) q
    · rw [if_neg c] at he; cases he
  · cases he

/-! xs[i] -/
def ixD : OP2 := fun d e s => match d, e with
  | .str z, .int i => if z.length ≤ 16777216 then (match atI z.cps.toList i with | some c => some (.str ⟨#[c]⟩, s) | none => none) else none
  | d, .int i => match itemsD d s with
    | some ds => (match atI ds i with | some x => some (x, s) | none => none)
    | none => none
  | _, _ => none
theorem atI_rep {m : List Addr} {H : Hp} {xs : List V} {ds : List D} {i : Int} {d : D} (r : Reps g m H xs ds) (h : atI ds i = some d) : ∃ v, atI xs i = some v ∧ Rep g m H v d := by
  unfold atI at h ⊢
  rw [← r.length] at h
  cases e : ixN xs.length i with
  | none => rw [e] at h; cases h
  | some j =>
    rw [e] at h
    exact r.get h
theorem o2_ix : O2 g (rIx g.K) ixD := by
  intro m H s v w d e x s' Q hold rv rw he q
  unfold ixD at he
  split at he
  · rename_i z i
    by_cases c : z.length ≤ 16777216
    · rw [if_pos c] at he
      split at he
      · rename_i c' hc
        cases he
        exact .inr (.inr ⟨z, i, c', rep_str rv, rep_int rw, line_ok c, hc, PD.here hold (.str _) q⟩)
      · cases he
    · rw [if_neg c] at he; cases he
  · rename_i d' i _
    split at he
    · rename_i ds hd
      split at he
      · rename_i y hy
        cases he
        obtain ⟨p, xs, rfl, hq, rs⟩ := items_rep hold rv hd
        obtain ⟨y', h1, h2⟩ := atI_rep rs hy
        rcases hq with hq | hq
        · exact .inl ⟨p, xs, i, y', rfl, rep_int rw, hq, h1, PD.here hold h2 q⟩
        · exact .inr (.inl ⟨p, xs, i, y', rfl, rep_int rw, hq, h1, PD.here hold h2 q⟩)
      · cases he
    · cases he
  · cases he
end
end Mi

set_option Elab.async false
set_option linter.all false
set_option maxRecDepth 100000
namespace Mi
open PySem PySem.Spec PyProof.Rows L2

/-! ### arguments, displays, calls -/
def aN : EA := fun _ s => .ok [] s
def aC (f : EX) (fa : EA) : EA := fun env s => (f env s).bind fun d s1 => (fa env s1).bind fun ds s2 => .ok (d :: ds) s2
def eTup (fa : EA) : EX := fun env s => (fa env s).bind fun ds s1 => if ds.length ≤ 16777216 then .ok (.tup ds) s1 else .no
def eLst (fa : EA) : EX := fun env s => (fa env s).bind fun ds s1 => if ds.length ≤ 16777216 then .ok (.ref s1.length) (s1 ++ [.lst ds]) else .no
abbrev FN := List D → S → R D
def eCall (n : Nat) (F : FN) (fa : EA) : EX := fun env s => (fa env s).bind fun ds s1 => if ds.length = n then F ds s1 else .no
abbrev OPN := List D → S → Option (D × S)
def eB (o : OPN) (fa : EA) : EX := fun env s => (fa env s).bind fun ds s1 => R.of (o ds s1)
abbrev RN := List V → Hp → VK → Prop
def ON (g : G) (r : RN) (o : OPN) : Prop := ∀ (m : List Addr) (H : Hp) (s : S) (vs : List V) (ds : List D) (x : D) (s' : S) (Q : VK), Hold g m s H → Reps g m H vs ds → o ds s = some (x, s') → PD g m H Q x s' → r vs H Q
theorem ON.or {g : G} {r r' : RN} {o o' : OPN} (h : ON g r o) (h' : ON g r' o') : ON g (fun vs H Q => r vs H Q ∨ r' vs H Q) (fun ds s => match o ds s with | some x => some x | none => o' ds s) := by
  intro m H s vs ds x s' Q hold rv he q
  have he : (match o ds s with | some x => some x | none => o' ds s) = some (x, s') := he
  cases h1 : o ds s with
  | some z =>
    rw [h1] at he
    exact .inl (h m H s vs ds x s' Q hold rv (h1.trans he) q)
  | none =>
    rw [h1] at he
    exact .inr (h' m H s vs ds x s' Q hold rv he q)
/-- what a def of the program promises: it does F -/
def spF (g : G) (n : Nat) (F : FN) : Sp := fun vs H Q E => ∃ m s ds, ds.length = n ∧ Hold g m s H ∧ Reps g m H vs ds ∧ (F ds s).post (PD g m H Q) (WX g m H E)
section
variable {X : Cx} {g : G} {W : XK} {f f' : EX} {fa : EA} {e : Expr} {es : List Expr} {pos : Pos}
theorem a_nil : PA X [] (semA g W aN) := PA.of pa_nil fun _ H Q ⟨m, env, s, a, q⟩ => q [] m H (Le.refl m H) a.hold .nil
theorem a_cons (h : PE X e (sem g W f)) (hr : PA X es (semA g W fa)) (hs : starEach (e :: es) X.env = (false, eval e X.env) :: starEach es X.env := by rfl) : PA X (e :: es) (semA g W (aC f fa)) := by
  refine PA.of (pa_cons h hr hs) fun σ H Q ⟨m, env, s, ag, q⟩ => ?_
  refine sem_k ag (R.post_bind q) fun d s1 v m1 H1 q1 l1 a1 r1 => ?_
  refine semA_k a1 (R.post_mono (R.post_bind q1) (fun _ _ z => z) fun _ _ _ z => z.le l1) fun ds s2 vs m2 H2 q2 l2 a2 r2 => ?_
  exact q2 (v :: vs) m2 H2 (l1.trans l2) a2.hold (.cons (r1.le l2) r2)
theorem s_tup {x1} (h : PA X es (semA g W fa)) : PE X (.Tuple es x1 pos) (sem g W (eTup fa)) := by
  refine PE.of (pe_tup h) fun σ H Q ⟨m, env, s, ag, q⟩ => ?_
  refine semA_k ag (R.post_bind q) fun ds s1 vs m1 H1 q1 l1 a1 r1 => ?_
  by_cases c : ds.length ≤ 16777216
  · rw [if_pos c] at q1
    exact ⟨line_ok (by rw [r1.length]; exact c), fun p hp => new_tup a1.hold hp r1 (PD.le l1 q1)⟩
  · rw [if_neg c] at q1; exact q1.elim
theorem s_lst (h : PA X es (semA g W fa)) : PE X (.List es pos) (sem g W (eLst fa)) := by
  refine PE.of (pe_lst h) fun σ H Q ⟨m, env, s, ag, q⟩ => ?_
  refine semA_k ag (R.post_bind q) fun ds s1 vs m1 H1 q1 l1 a1 r1 => ?_
  by_cases c : ds.length ≤ 16777216
  · rw [if_pos c] at q1
    exact ⟨line_ok (by rw [r1.length]; exact c), fun p hp => new_lst a1.hold hp r1 (PD.le l1 q1)⟩
  · rw [if_neg c] at q1; exact q1.elim
theorem sem_call {n : Nat} {F : FN} {σ : L2.St} {H : Hp} {Q : VK} (h : sem g W (eCall n F fa) σ H Q) : tCall (spF g n F) [] W (semA g W fa) σ H Q := by
  obtain ⟨m, env, s, ag, q⟩ := h
  refine semA_k ag (R.post_bind q) fun ds s1 vs m1 H1 q1 l1 a1 r1 => ?_
  by_cases c : ds.length = n
  · rw [if_pos c] at q1
    rw [List.append_nil]
    exact ⟨m1, s1, ds, c, a1.hold, r1, R.post_mono q1 (fun _ _ z => PD.le l1 z) fun _ _ _ z => WX.le l1 z⟩
  · rw [if_neg c] at q1; exact q1.elim
theorem s_call {n : Nat} {F : FN} (h : PE X e (tCall (spF g n F) [] W (semA g W fa))) : PE X e (sem g W (eCall n F fa)) := PE.of h fun _ _ _ q => sem_call q
theorem s_call0 {n : Nat} {F : FN} {p : Pos} {x : Str} (h : PE X e (fun _ H Q => spF g n F [] H Q W)) : PE X e (sem g W (eCall n F aN)) := by
  refine PE.of h fun σ H Q ⟨m, env, s, ag, q⟩ => ?_
  have q : (if ([] : List D).length = n then F [] s else .no).post (PD g m H Q) (WX g m H W) := q
  by_cases c : ([] : List D).length = n
  · rw [if_pos c] at q
    exact ⟨m, s, [], c, ag.hold, .nil, q⟩
  · rw [if_neg c] at q; exact q.elim
/-- a call of a built-in, by its rule -/
theorem s_blt {r : RN} {o : OPN} (h : PE X e (tCB r (semA g W fa))) (ho : ON g r o) : PE X e (sem g W (eB o fa)) := by
  refine PE.of h fun σ H Q ⟨m, env, s, ag, q⟩ => ?_
  refine semA_k ag (R.post_bind q) fun ds s1 vs m1 H1 q1 l1 a1 r1 => ?_
  obtain ⟨x, s', e1, q2⟩ := R.post_of q1
  exact ho m1 H1 s1 vs ds x s' Q a1.hold r1 e1 (PD.le l1 q2)
end

/-! ### built-in methods -/
abbrev OPM := D → List D → S → Option (D × S)
abbrev RM := V → List V → Hp → VK → Prop
def OM (g : G) (r : RM) (o : OPM) : Prop := ∀ (m : List Addr) (H : Hp) (s : S) (v : V) (vs : List V) (d : D) (ds : List D) (x : D) (s' : S) (Q : VK), Hold g m s H → Rep g m H v d → Reps g m H vs ds → o d ds s = some (x, s') → PD g m H Q x s' → r v vs H Q
/-- the receiver is of that built-in type -/
def tyD (T : String) (d : D) (s : S) : Bool := match d with
  | .str _ => T == "str"
  | .rol _ => T == "list"
  | .ref p => match s[p]? with
    | some (.lst _) => T == "list"
    | some (.dct _) => T == "dict"
    | some (.dtt _) => T == "dict"
    | _ => false
  | _ => false
def eM (T : String) (o : OPM) (f : EX) (fa : EA) : EX := fun env s => (f env s).bind fun d s1 => if tyD T d s1 = true then (fa env s1).bind fun ds s2 => R.of (o d ds s2) else .no
theorem tyD_ok {g : G} {m : List Addr} {H : Hp} {s : S} {v : V} {d : D} {T : String} (hold : Hold g m s H) (r : Rep g m H v d) (h : tyD T d s = true) : tyV g.K T v H := by
  cases r with
  | str x => exact eq_of_beq h
  | rol z q => exact .inl ⟨eq_of_beq h, _, z.sq⟩
  | @ref a i z =>
    have h : (match s[i]? with
      | some (.lst _) => T == "list"
      | some (.dct _) => T == "dict"
      | some (.dtt _) => T == "dict"
      | _ => false) = true := h
    split at h
    · rename_i ds e1
      obtain ⟨xs, e2, _⟩ := hold.obj i a _ z e1
      exact .inl ⟨eq_of_beq h, _, .of e2⟩
    · rename_i kvs e1
      obtain ⟨es, e2, _⟩ := hold.obj i a _ z e1
      exact .inr (.inr (.inl ⟨eq_of_beq h, .inl ⟨_, e2⟩⟩))
    · rename_i kvs e1
      obtain ⟨es, e2, _⟩ := hold.obj i a _ z e1
      exact .inr (.inr (.inl ⟨eq_of_beq h, .inr ⟨_, e2⟩⟩))
    · cases h
  | _ => cases h
section
variable {X : Cx} {g : G} {W : XK} {f f' : EX} {fa : EA} {e : Expr} {es : List Expr} {pos : Pos} {T : String} {r : RM} {o : OPM}
theorem s_meth (h : PE X e (tBM g.K T r (sem g W f) (semA g W fa))) (ho : OM g r o) : PE X e (sem g W (eM T o f fa)) := by
  refine PE.of h fun σ H Q ⟨m, env, s, ag, q⟩ => ?_
  refine sem_k ag (R.post_bind q) fun d s1 v m1 H1 q1 l1 a1 r1 => ?_
  by_cases c : tyD T d s1 = true
  · rw [if_pos c] at q1
    refine ⟨tyD_ok a1.hold r1 c, ?_⟩
    refine semA_k a1 (R.post_mono (R.post_bind q1) (fun _ _ z => z) fun _ _ _ z => z.le l1) fun ds s2 vs m2 H2 q2 l2 a2 r2 => ?_
    obtain ⟨x, s', e1, q3⟩ := R.post_of q2
    exact ho m2 H2 s2 v vs d ds x s' Q a2.hold (r1.le l2) r2 e1 (PD.le (l1.trans l2) q3)
  · rw [if_neg c] at q1; exact q1.elim
theorem s_meth0 (h : PE X e (tBM0 g.K T r (sem g W f))) (ho : OM g r o) : PE X e (sem g W (eM T o f aN)) := by
  refine PE.of h fun σ H Q ⟨m, env, s, ag, q⟩ => ?_
  refine sem_k ag (R.post_bind q) fun d s1 v m1 H1 q1 l1 a1 r1 => ?_
  by_cases c : tyD T d s1 = true
  · rw [if_pos c] at q1
    refine ⟨tyD_ok a1.hold r1 c, ?_⟩
    obtain ⟨x, s', e1, q3⟩ := R.post_of (show (R.of (o d [] s1)).post _ _ from q1)
    exact ho m1 H1 s1 v [] d [] x s' Q a1.hold r1 .nil e1 (PD.le l1 q3)
  · rw [if_neg c] at q1; exact q1.elim
end

/-! ### slices -/
abbrev EO := Env → S → R (Option Int)
def oN : EO := fun _ s => .ok none s
def oS (f : EX) : EO := fun env s => (f env s).bind fun d s1 => match d with
  | .int i => .ok (some i) s1
  | _ => .no
def PO' (g : G) (m : List Addr) (H : Hp) (Q : Option Int → Hp → Prop) : Option Int → S → Prop := fun o s => ∀ (m' : List Addr) (H' : Hp), Le m H m' H' → Hold g m' s H' → Q o H'
def semO (g : G) (W : XK) (f : EO) : TO := fun σ H Q => ∃ m env s, Ag g m σ H env s ∧ (f env s).post (PO' g m H Q) (WX g m H W)
def cutD (xs : List D) (lo hi : Option Int) : List D := (xs.drop (HT.sIx xs.length 0 lo)).take (HT.sIx xs.length xs.length hi - HT.sIx xs.length 0 lo)
def slD (d : D) (lo hi : Option Int) (s : S) : Option (D × S) := match d with
  | .str z => if z.length ≤ 16777216 then some (.str (cutS z lo hi), s) else none
  | .tup ds => some (.tup (cutD ds lo hi), s)
  | .rol ds => some (.ref s.length, s ++ [.lst (cutD ds lo hi)])
  | .ref p => match s[p]? with
    | some (.lst ds) => some (.ref s.length, s ++ [.lst (cutD ds lo hi)])
    | _ => none
  | _ => none
def eSl (f : EX) (l h : EO) : EX := fun env s => (f env s).bind fun d s1 => (l env s1).bind fun lo s2 => (h env s2).bind fun hi s3 => R.of (slD d lo hi s3)
def rSlAll (K : PySem.W.Frag) : V → Option Int → Option Int → Hp → VK → Prop := fun x lo hi H Q => rSlL K x lo hi H Q ∨ rSlA K x lo hi H Q ∨ rSlS x lo hi H Q
section
variable {X : Cx} {g : G} {W : XK} {f f' : EX} {l h : EO} {e : Expr} {lo hi : Option Expr} {pos p2 : Pos}
theorem PO.of {e : Option Expr} {t t' : TO} (h : PO X e t) (k : ∀ σ H Q, t' σ H Q → t σ H Q) : PO X e t' := ⟨fun pins s σ H Q I q => h.run pins s σ H Q I (k _ _ _ q)⟩
theorem o_none : PO X none (semO g W oN) := PO.of po_none fun _ H Q ⟨m, env, s, a, q⟩ => q m H (Le.refl m H) a.hold
theorem o_some (he : PE X e (sem g W f)) : PO X (some e) (semO g W (oS f)) := by
  refine PO.of (po_some he) fun σ H Q ⟨m, env, s, ag, q⟩ => ?_
  refine sem_k ag (R.post_bind q) fun d s1 v m1 H1 q1 l1 a1 r1 => ?_
  cases r1 <;> first | exact q1.elim | skip
  exact ⟨_, rfl, q1 m1 H1 l1 a1.hold⟩
theorem semO_k {fo : EO} {σ : L2.St} {H : Hp} {m : List Addr} {env : Env} {s : S} {P : Option Int → S → Prop} {K : Option Int → Hp → Prop} (a : Ag g m σ H env s) (h : (fo env s).post P (WX g m H W))
    (k : ∀ d s1 m1 H1, P d s1 → Le m H m1 H1 → Ag g m1 σ H1 env s1 → K d H1) : semO g W fo σ H K :=
  ⟨m, env, s, a, R.post_mono h (fun d s1 p m1 H1 l hold => k d s1 m1 H1 p l (a.go l hold)) fun _ _ _ e => e⟩
theorem sl_all : SlR X (rSlAll X.K) := sl_list.or (sl_tupA.or sl_str)
theorem cut_rep {m : List Addr} {H : Hp} {xs : List V} {ds : List D} (r : Reps g m H xs ds) (lo hi : Option Int) : Reps g m H (cutV xs lo hi) (cutD ds lo hi) := by
  unfold cutV cutD
  rw [r.length]
  exact (r.drop _).take _
theorem sl_ok {m : List Addr} {H : Hp} {s : S} {v : V} {d : D} {lo hi : Option Int} {x : D} {s' : S} {Q : VK} (hold : Hold g m s H) (r : Rep g m H v d) (he : slD d lo hi s = some (x, s')) (q : PD g m H Q x s') : rSlAll g.K v lo hi H Q := by
  cases r with
  | str z =>
    have he : (if z.length ≤ 16777216 then some (D.str (cutS z lo hi), s) else none) = some (x, s') := he
    by_cases c : z.length ≤ 16777216
    · rw [if_pos c] at he; cases he
      exact .inr (.inr ⟨z, rfl, line_ok c, PD.here hold (.str _) q⟩)
    · rw [if_neg c] at he; cases he
  | @tup a xs ds z t =>
    cases he
    refine .inr (.inl ⟨a, xs, rfl, z.sq, fun ⟨h1, h2⟩ => ?_, fun _ p hp => new_tup hold hp (cut_rep t lo hi) q⟩)
    have e1 : cutD ds lo hi = ds := by
      unfold cutD
      rw [t.length] at h1 h2
      rw [h1, h2, List.drop_zero, Nat.sub_zero, List.take_length]
    rw [e1] at q
    exact PD.here hold (.tup z t) q
  | @rol a xs ds z t =>
    cases he
    exact .inl ⟨a, xs, rfl, z.sq, fun p hp => new_lst hold hp (cut_rep t lo hi) q⟩
  | @ref a i z =>
    have he : (match s[i]? with
      | some (.lst ds) => some (D.ref s.length, s ++ [.lst (cutD ds lo hi)])
      | _ => none) = some (x, s') := he
    split at he
    · rename_i ds e1
      cases he
      obtain ⟨xs, e2, t⟩ := hold.obj i a _ z e1
      exact .inl ⟨a, xs, rfl, .of e2, fun p hp => new_lst hold hp (cut_rep t lo hi) q⟩
    · cases he
  | _ => cases he
theorem s_slice (he : PE X e (sem ⟨X.K, X.mg⟩ W f)) (hl : PO X lo (semO ⟨X.K, X.mg⟩ W l)) (hu : PO X hi (semO ⟨X.K, X.mg⟩ W h)) : PE X (.Subscript e (.Slice lo hi none p2) pos) (sem ⟨X.K, X.mg⟩ W (eSl f l h)) := by
  refine PE.of (pe_slice sl_all he hl hu) fun σ H Q ⟨m, env, s, ag, q⟩ => ?_
  refine sem_k ag (R.post_bind q) fun d s1 v m1 H1 q1 l1 a1 r1 => ?_
  refine semO_k a1 (R.post_mono (R.post_bind q1) (fun _ _ z => z) fun _ _ _ z => z.le l1) fun lo s2 m2 H2 q2 l2 a2 => ?_
  refine semO_k a2 (R.post_mono (R.post_bind q2) (fun _ _ z => z) fun _ _ _ z => z.le (l1.trans l2)) fun hi s3 m3 H3 q3 l3 a3 => ?_
  obtain ⟨x, s', e1, q4⟩ := R.post_of q3
  exact sl_ok (g := ⟨X.K, X.mg⟩) a3.hold (r1.le (l2.trans l3)) e1 (PD.le (l1.trans (l2.trans l3)) q4)
end
end Mi

set_option Elab.async false
set_option linter.all false
set_option maxRecDepth 100000
namespace Mi
open PySem PySem.Spec PyProof.Rows L2

/-! ### statements -/
inductive Fl where
  | no | nx (env : Env) (s : S) | rt (d : D) (s : S) | bk (env : Env) (s : S) | ct (env : Env) (s : S) | ex (c : Str) (fs : XF) (s : S)
abbrev ST := Env → S → Fl
def PE' (g : G) (m : List Addr) (H : Hp) (Q : L2.St → Hp → Prop) (env : Env) (s : S) : Prop := ∀ (σ : L2.St) (m' : List Addr) (H' : Hp), Le m H m' H' → Ag g m' σ H' env s → Q σ H'
def Fl.post (g : G) (m : List Addr) (H : Hp) (W : XK) (B : Ends) : Fl → Prop
  | .no => False
  | .nx env s => PE' g m H B.nx env s
  | .rt d s => PD g m H B.rt d s
  | .bk env s => PE' g m H B.bk env s
  | .ct env s => PE' g m H B.ct env s
  | .ex c fs s => WX g m H W c fs s
theorem PE'.le {g : G} {m m' : List Addr} {H H' : Hp} (l : Le m H m' H') {Q : L2.St → Hp → Prop} {env : Env} {s : S} (h : PE' g m H Q env s) : PE' g m' H' Q env s := fun σ m2 H2 l2 => h σ m2 H2 (l.trans l2)
theorem Fl.post_le {g : G} {m m' : List Addr} {H H' : Hp} {W : XK} {B : Ends} (l : Le m H m' H') {f : Fl} (h : f.post g m H W B) : f.post g m' H' W B := by
  cases f with
  | no => exact h
  | nx env s => exact PE'.le l h
  | rt d s => exact PD.le l h
  | bk env s => exact PE'.le l h
  | ct env s => exact PE'.le l h
  | ex c fs s => exact WX.le l h
def semS (g : G) (W : XK) (f : ST) : TS := fun B σ H => ∃ m env s, Ag g m σ H env s ∧ (f env s).post g m H W B
def Fl.seq (r : Fl) (f : Env → S → Fl) : Fl := match r with
  | .nx env s => f env s
  | r => r
/-- a value, then on -/
def R.go {α : Type} (r : R α) (f : α → S → Fl) : Fl := match r with
  | .no => .no
  | .ok a s => f a s
  | .ex c fs s => .ex c fs s
theorem R.go_post {α : Type} {g : G} {m : List Addr} {H : Hp} {W : XK} {B : Ends} {r : R α} {f : α → S → Fl} (h : (r.go f).post g m H W B) : r.post (fun a s => (f a s).post g m H W B) (WX g m H W) := by
  cases r with
  | no => exact h
  | ok a s => exact h
  | ex c fs s => exact h
def sSkip : ST := fun env s => .nx env s
def sSeq (f f' : ST) : ST := fun env s => (f env s).seq f'
def sSet (i : Nat) (f : EX) : ST := fun env s => (f env s).go fun d s1 => .nx (env.set i (some d)) s1
def sEx (f : EX) : ST := fun env s => (f env s).go fun _ s1 => .nx env s1
def sRet (f : EX) : ST := fun env s => (f env s).go fun d s1 => .rt d s1
def sRetN : ST := fun _ s => .rt .non s
def sIf (c : EB) (f f' : ST) : ST := fun env s => (c env s).go fun b s1 => if b = true then f env s1 else f' env s1
def sBk : ST := fun env s => .bk env s
def sCt : ST := fun env s => .ct env s
inductive T where
  | n (i : Nat) | t (is : List Nat)
def setAll : List Nat → List D → Env → Env
  | i :: is, d :: ds, env => setAll is ds (env.set i (some d))
  | _, _, env => env
def asgT : T → D → Env → Option Env
  | .n i, d, env => some (env.set i (some d))
  | .t is, .tup ds, env => if ds.length = is.length then some (setAll is ds env) else none
  | .t _, _, _ => none
def sAsg (t : T) (f : EX) : ST := fun env s => (f env s).go fun d s1 => match asgT t d env with
  | some env' => .nx env' s1
  | none => .no
def gNs : List Nat → TGs
  | [] => gNil
  | i :: is => gCons (gName i) (gNs is)
def gT (K : PySem.W.Frag) : T → TG
  | .n i => gName i
  | .t is => gTup K is.length (gNs is)

section
variable {X : Cx} {g : G} {W : XK} {f f' : EX} {fs fs' : ST} {c : EB} {st : Stmt} {sts : List Stmt} {pos : Pos}
theorem PS.of {t t' : TS} (h : PS X st t) (k : ∀ B σ H, t' B σ H → t B σ H) : PS X st t' := ⟨fun pins s σ H B I q => h.run pins s σ H B I (k _ _ _ q)⟩
theorem PSs.of {t t' : TS} (h : PSs X sts t) (k : ∀ B σ H, t' B σ H → t B σ H) : PSs X sts t' := ⟨fun pins s σ H B I q => h.run pins s σ H B I (k _ _ _ q)⟩
theorem ss_nil : PSs X [] (semS g W sSkip) := PSs.of pss_nil fun _ σ H ⟨m, env, s, a, q⟩ => q σ m H (Le.refl m H) a
theorem ss_cons (h : PS X st (semS g W fs)) (h' : PSs X sts (semS g W fs')) : PSs X (st :: sts) (semS g W (sSeq fs fs')) := by
  refine PSs.of (pss_cons h h') fun B σ H ⟨m, env, s, a, q⟩ => ⟨m, env, s, a, ?_⟩
  unfold sSeq at q
  cases e : fs env s with
  | no => rw [e] at q; exact q
  | nx env1 s1 =>
    rw [e] at q
    exact fun σ1 m1 H1 l1 a1 => ⟨m1, env1, s1, a1, Fl.post_le l1 q⟩
  | rt d s1 => rw [e] at q; exact q
  | bk env1 s1 => rw [e] at q; exact q
  | ct env1 s1 => rw [e] at q; exact q
  | ex c x s1 => rw [e] at q; exact q
theorem ss_one (h : PS X st (semS g W fs)) : PSs X [st] (semS g W fs) := by
  refine PSs.of (ss_cons h ss_nil) fun B σ H ⟨m, env, s, a, q⟩ => ⟨m, env, s, a, ?_⟩
  unfold sSeq
  cases e : fs env s <;> (rw [e] at q; exact q)
theorem c_set {i : Nat} (h : PS X st (tAsg (sem g W f) (gName i))) : PS X st (semS g W (sSet i f)) := by
  refine PS.of h fun B σ H ⟨m, env, s, a, q⟩ => ?_
  refine sem_k a (R.go_post q) fun d s1 v m1 H1 q1 l1 a1 r1 => ?_
  exact q1 _ m1 H1 l1 (a1.set r1 i)
theorem c_ex (h : PS X st (tDrop (sem g W f))) : PS X st (semS g W (sEx f)) := by
  refine PS.of h fun B σ H ⟨m, env, s, a, q⟩ => ?_
  exact sem_k a (R.go_post q) fun d s1 v m1 H1 q1 l1 a1 r1 => q1 _ m1 H1 l1 a1
theorem c_ret (h : PS X st (tRet (sem g W f))) : PS X st (semS g W (sRet f)) := by
  refine PS.of h fun B σ H ⟨m, env, s, a, q⟩ => ?_
  exact sem_k a (R.go_post q) fun d s1 v m1 H1 q1 l1 a1 r1 => q1 v m1 H1 l1 a1.hold r1
theorem c_retN (h : PS X st tRetN) : PS X st (semS g W sRetN) := PS.of h fun B σ H ⟨m, env, s, a, q⟩ => q _ m H (Le.refl m H) a.hold .non
theorem c_if (h : PS X st (tIfS (semB g W c) (semS g W fs) (semS g W fs'))) : PS X st (semS g W (sIf c fs fs')) := by
  refine PS.of h fun B σ H ⟨m, env, s, a, q⟩ => ?_
  refine semB_k a (R.go_post q) fun b s1 m1 H1 q1 l1 a1 => ?_
  cases b with
  | true => exact iteT ⟨m1, env, s1, a1, Fl.post_le l1 q1⟩
  | false => exact iteF ⟨m1, env, s1, a1, Fl.post_le l1 q1⟩
theorem c_bk (h : PS X st tBreak) : PS X st (semS g W sBk) := PS.of h fun B σ H ⟨m, env, s, a, q⟩ => q σ m H (Le.refl m H) a
theorem c_ct (h : PS X st tCont) : PS X st (semS g W sCt) := PS.of h fun B σ H ⟨m, env, s, a, q⟩ => q σ m H (Le.refl m H) a
theorem c_pass (h : PS X st tNext) : PS X st (semS g W sSkip) := PS.of h fun B σ H ⟨m, env, s, a, q⟩ => q σ m H (Le.refl m H) a
theorem setAll_ok {m : List Addr} {H : Hp} {s : S} {Q : L2.St → Hp → Prop} : ∀ {is : List Nat} {ds : List D} {vs : List V} {env : Env} {σ : L2.St}, ds.length = is.length → Reps g m H vs ds → Ag g m σ H env s →
    (∀ σ', Ag g m σ' H (setAll is ds env) s → Q σ' H) → gNs is vs σ H Q
  | [], [], _, env, σ, _, .nil, a, k => ⟨rfl, k σ a⟩
  | i :: is, d :: ds, _, env, σ, h, .cons (v := v) (vs := vs) r t, a, k => ⟨v, vs, rfl, setAll_ok (by simpa using h) t (a.set r i) k⟩
  | [], _ :: _, _, _, _, h, _, _, _ => by simp at h
  | _ :: _, [], _, _, _, h, _, _, _ => by simp at h
theorem asgT_ok {t : T} {m : List Addr} {H : Hp} {s : S} {Q : L2.St → Hp → Prop} {d : D} {v : V} {env env' : Env} {σ : L2.St} (a : Ag g m σ H env s) (r : Rep g m H v d) (h : asgT t d env = some env')
    (k : ∀ σ', Ag g m σ' H env' s → Q σ' H) : gT g.K t v σ H Q := by
  cases t with
  | n i => cases h; exact k _ (a.set r i)
  | t is =>
    cases r with
    | @tup b xs ds z q =>
      have h : (if ds.length = is.length then some (setAll is ds env) else none) = some env' := h
      by_cases c : ds.length = is.length
      · rw [if_pos c] at h; cases h
        exact ⟨b, xs, rfl, z.sq, by rw [q.length]; exact c, setAll_ok c q a k⟩
      · rw [if_neg c] at h; cases h
    | _ => cases h
theorem c_asg {t : T} (h : PS X st (tAsg (sem g W f) (gT g.K t))) : PS X st (semS g W (sAsg t f)) := by
  refine PS.of h fun B σ H ⟨m, env, s, a, q⟩ => ?_
  refine sem_k a (R.go_post q) fun d s1 v m1 H1 q1 l1 a1 r1 => ?_
  split at q1
  · rename_i env' he
    exact asgT_ok a1 r1 he fun σ' a' => q1 σ' m1 H1 l1 a'
  · exact q1.elim
end

/-! ### loops -/
open Classical in
noncomputable def forL (t : T) (b : ST) (ok : S → Prop) : List D → ST
  | [], env, s => if ok s then .nx env s else .no
  | d :: ds, env, s => if ok s then (match asgT t d env with
      | none => .no
      | some env1 => match b env1 s with
        | .nx e2 s2 => forL t b ok ds e2 s2
        | .ct e2 s2 => forL t b ok ds e2 s2
        | .bk e2 s2 => .nx e2 s2
        | r => r) else .no
/-- what is walked: the items, and what must stay so of the store -/
structure Wk where
  items : List D
  ok : S → Prop
abbrev EI := Env → S → R Wk
noncomputable def sFor (t : T) (it : EI) (b : ST) : ST := fun env s => (it env s).go fun w s1 => forL t b w.ok w.items env s1
def Walks (g : G) (m0 : List Addr) (H0 : Hp) (J : It) (w : Wk) : Prop :=
  ∀ (m : List Addr) (s : S) (H : Hp) (i : Nat), Le m0 H0 m H → Hold g m s H → w.ok s →
    (∀ d, w.items[i]? = some d → J.go i H ∧ ∀ x H', J.yld i H x H' → Le m H m H' ∧ Hold g m s H' ∧ Rep g m H' x d) ∧ (w.items.length ≤ i → J.stop i H)
def PW' (g : G) (m : List Addr) (H : Hp) (R : It → Hp → Prop) : Wk → S → Prop := fun w s =>
  ∀ (J : It) (m' : List Addr) (H' : Hp), Le m H m' H' → Hold g m' s H' → Walks g m' H' J w → R J H'
def semI (g : G) (W : XK) (f : EI) : TI := fun σ H R => ∃ m env s, Ag g m σ H env s ∧ (f env s).post (PW' g m H R) (WX g m H W)
section
variable {X : Cx} {g : G} {W : XK} {f f' : EX} {b : ST} {c : EB} {it : EI} {st : Stmt} {t : T}
theorem semI_k {σ : L2.St} {H : Hp} {m : List Addr} {env : Env} {s : S} {P : Wk → S → Prop} {K : It → Hp → Prop} (a : Ag g m σ H env s) (h : (it env s).post P (WX g m H W))
    (k : ∀ w s1 J m1 H1, P w s1 → Le m H m1 H1 → Ag g m1 σ H1 env s1 → Walks g m1 H1 J w → K J H1) : semI g W it σ H K :=
  ⟨m, env, s, a, R.post_mono h (fun w s1 p J m1 H1 l hold hw => k w s1 J m1 H1 p l (a.go l hold) hw) fun _ _ _ e => e⟩
theorem c_for (h : PS X st (tFor (semI g W it) (gT g.K t) (semS g W b))) : PS X st (semS g W (sFor t it b)) := by
  refine PS.of h fun B σ H ⟨m, env, s, a, q⟩ => ?_
  refine semI_k a (R.go_post q) fun w s1 J m1 H1 q1 l1 a1 hw => ?_
  refine ⟨fun i n σ' H' => n = w.items.length - i ∧ i ≤ w.items.length ∧ ∃ m' env' s', Le m1 H1 m' H' ∧ Ag g m' σ' H' env' s' ∧ (forL t b w.ok (w.items.drop i) env' s').post g m' H' W B,
    ⟨w.items.length, by simp, Nat.zero_le _, m1, env, s1, Le.refl _ _, a1, by rw [List.drop_zero]; exact Fl.post_le l1 q1⟩, ?_⟩
  rintro i n σ2 H2 ⟨rfl, hi, m2, env2, s2, l2, a2, q2⟩
  by_cases hlt : i < w.items.length
  · rw [List.drop_eq_getElem_cons hlt] at q2
    unfold forL at q2
    by_cases hok : w.ok s2
    · rw [if_pos hok] at q2
      have hg := (hw m2 s2 H2 i l2 a2.hold hok).1 w.items[i] (List.getElem?_eq_getElem hlt)
      refine .inr ⟨hg.1, fun σ' H' => ∃ m' env' s', Le m1 H1 m' H' ∧ Ag g m' σ' H' env' s' ∧ (forL t b w.ok (w.items.drop (i + 1)) env' s').post g m' H' W B, fun σ' H' z => ⟨w.items.length - (i + 1), by omega, rfl, hlt, z⟩, fun x H3 hy => ?_⟩
      obtain ⟨l3, hold3, r3⟩ := hg.2 x H3 hy
      have a3 := a2.go l3 hold3
      cases e1 : asgT t w.items[i] env2 with
      | none => rw [e1] at q2; exact q2.elim
      | some env3 =>
        rw [e1] at q2
        refine asgT_ok a3 r3 e1 fun σ4 a4 => ⟨m2, env3, s2, a4, ?_⟩
        dsimp only at q2
        cases e2 : b env3 s2 with
        | no => rw [e2] at q2; exact q2
        | nx env5 s5 =>
          rw [e2] at q2
          exact fun σ5 m5 H5 l5 a5 => ⟨m5, env5, s5, l2.trans (l3.trans l5), a5, Fl.post_le (l3.trans l5) q2⟩
        | ct env5 s5 =>
          rw [e2] at q2
          exact fun σ5 m5 H5 l5 a5 => ⟨m5, env5, s5, l2.trans (l3.trans l5), a5, Fl.post_le (l3.trans l5) q2⟩
        | bk env5 s5 => rw [e2] at q2; exact PE'.le l3 q2
        | rt d s5 => rw [e2] at q2; exact PD.le l3 q2
        | ex c x s5 => rw [e2] at q2; exact WX.le l3 q2
    · rw [if_neg hok] at q2; exact q2.elim
  · have e : i = w.items.length := by omega
    subst e
    rw [List.drop_length] at q2
    unfold forL at q2
    by_cases hok : w.ok s2
    · rw [if_pos hok] at q2
      exact .inl ⟨(hw m2 s2 H2 _ l2 a2.hold hok).2 (Nat.le_refl _), q2 σ2 m2 H2 (Le.refl _ _) a2⟩
    · rw [if_neg hok] at q2; exact q2.elim
def whl (c : EB) (b : ST) : Nat → ST
  | 0, _, _ => .no
  | n + 1, env, s => (c env s).go fun k s1 => if k = true then (match b env s1 with
      | .nx e2 s2 => whl c b n e2 s2
      | .ct e2 s2 => whl c b n e2 s2
      | .bk e2 s2 => .nx e2 s2
      | r => r) else .nx env s1
theorem c_while {n : Nat} (h : PS X st (tWhile (semB g W c) (semS g W b))) : PS X st (semS g W (whl c b n)) := by
  refine PS.of h fun B σ H ⟨m, env, s, a, q⟩ => ?_
  refine ⟨fun n σ' H' => ∃ m' env' s', Ag g m' σ' H' env' s' ∧ (whl c b n env' s').post g m' H' W B, ⟨n, m, env, s, a, q⟩, ?_⟩
  rintro n σ1 H1 ⟨m1, env1, s1, a1, q1⟩
  cases n with
  | zero => exact q1.elim
  | succ n =>
    unfold whl at q1
    refine semB_k a1 (R.go_post q1) fun k s2 m2 H2 q2 l2 a2 => ?_
    cases k with
    | false => exact iteF (q2 σ1 m2 H2 l2 a2)
    | true =>
      rw [if_pos rfl] at q2 ⊢
      refine ⟨fun σ' H' => ∃ m' env' s', Ag g m' σ' H' env' s' ∧ (whl c b n env' s').post g m' H' W B, fun σ' H' z => ⟨n, Nat.lt_succ_self n, z⟩, m2, env1, s2, a2, ?_⟩
      cases e2 : b env1 s2 with
      | no => rw [e2] at q2; exact q2
      | nx env5 s5 =>
        rw [e2] at q2
        exact fun σ5 m5 H5 l5 a5 => ⟨m5, env5, s5, a5, Fl.post_le (l2.trans l5) q2⟩
      | ct env5 s5 =>
        rw [e2] at q2
        exact fun σ5 m5 H5 l5 a5 => ⟨m5, env5, s5, a5, Fl.post_le (l2.trans l5) q2⟩
      | bk env5 s5 => rw [e2] at q2; exact PE'.le l2 q2
      | rt d s5 => rw [e2] at q2; exact PD.le l2 q2
      | ex c x s5 => rw [e2] at q2; exact WX.le l2 q2

/-! what is walked: a sequence, a range -/
def iSeq (f : EX) : EI := fun env s => (f env s).bind fun d s1 => match d with
  | .tup ds => .ok ⟨ds, fun _ => True⟩ s1
  | .rol ds => .ok ⟨ds, fun _ => True⟩ s1
  | .ref p => match s1[p]? with
    | some (.lst ds) => .ok ⟨ds, fun s => s[p]? = some (.lst ds)⟩ s1
    | _ => .no
  | _ => .no
theorem PI.of {tg iter : Expr} {w w' : TI} (h : PI X tg iter w) (k : ∀ σ H R, w' σ H R → w σ H R) : PI X tg iter w' := ⟨fun pins s σ H R I q => h.run pins s σ H R I (k _ _ _ q)⟩
theorem sqL_uniq {m : List Addr} {H : Hp} {a : Addr} {xs ys : List V} (K : PySem.W.Frag) (h : H a = some (.lst xs)) (h2 : ∀ zs, SqL K H a zs → zs[0]? = zs[0]?) : True := True.intro
theorem walks_tup {m : List Addr} {H : Hp} {a : Addr} {xs : List V} {ds : List D} (z : RdT g m H a xs) (r : Reps g m H xs ds) : Walks g m H (Itt g.K a) ⟨ds, fun _ => True⟩ := by
  intro m1 s1 H1 i l1 hold1 _
  have z1 : SqT g.K H1 a xs := (z.le l1).sq
  refine ⟨fun d hd => ?_, fun hi => ⟨xs, z1, by rw [r.length]; exact hi⟩⟩
  obtain ⟨x, hx, rx⟩ := r.get hd
  refine ⟨⟨xs, x, z1, hx⟩, fun y H' ⟨e, hy⟩ => ?_⟩
  subst e
  have : x = y := Option.some.inj (hx.symm.trans (hy xs z1))
  subst this
  exact ⟨Le.refl _ _, hold1, rx.le l1⟩
theorem walks_rol {m : List Addr} {H : Hp} {a : Addr} {xs : List V} {ds : List D} (z : RdL g m H a xs) (r : Reps g m H xs ds) : Walks g m H (Itl g.K a) ⟨ds, fun _ => True⟩ := by
  intro m1 s1 H1 i l1 hold1 _
  have z1 : SqL g.K H1 a xs := (z.le l1).sq
  refine ⟨fun d hd => ?_, fun hi => ⟨xs, z1, by rw [r.length]; exact hi⟩⟩
  obtain ⟨x, hx, rx⟩ := r.get hd
  refine ⟨⟨xs, x, z1, hx⟩, fun y H' ⟨e, hy⟩ => ?_⟩
  subst e
  have : x = y := Option.some.inj (hx.symm.trans (hy xs z1))
  subst this
  exact ⟨Le.refl _ _, hold1, rx.le l1⟩
theorem walks_ref {m : List Addr} {H : Hp} {a : Addr} {p : Nat} {ds : List D} (z : m[p]? = some a) : Walks g m H (Itl g.K a) ⟨ds, fun s => s[p]? = some (.lst ds)⟩ := by
  intro m1 s1 H1 i l1 hold1 hok
  obtain ⟨xs, e1, r⟩ := hold1.obj p a _ (l1.get z) hok
  have z1 : SqL g.K H1 a xs := .of e1
  refine ⟨fun d hd => ?_, fun hi => ⟨xs, z1, by rw [r.length]; exact hi⟩⟩
  obtain ⟨x, hx, rx⟩ := r.get hd
  refine ⟨⟨xs, x, z1, hx⟩, fun y H' ⟨e, hy⟩ => ?_⟩
  subst e
  have : x = y := Option.some.inj (hx.symm.trans (hy xs z1))
  subst this
  exact ⟨Le.refl _ _, hold1, rx⟩
/-- over a tuple; over a list: as the expression is -/
def iTupD (f : EX) : EI := fun env s => (f env s).bind fun d s1 => match d with
  | .tup ds => .ok ⟨ds, fun _ => True⟩ s1
  | _ => .no
def iLstD (f : EX) : EI := fun env s => (f env s).bind fun d s1 => match d with
  | .rol ds => .ok ⟨ds, fun _ => True⟩ s1
  | .ref p => match s1[p]? with
    | some (.lst ds) => .ok ⟨ds, fun s => s[p]? = some (.lst ds)⟩ s1
    | _ => .no
  | _ => .no
theorem i_tup {tg e : Expr} (h : PI X tg e (iTup g.K (sem g W f))) : PI X tg e (semI g W (iTupD f)) := by
  refine PI.of h fun σ H Q ⟨m, env, s, ag, q⟩ => ?_
  refine sem_k ag (R.post_bind q) fun d s1 v m1 H1 q1 l1 a1 r1 => ?_
  cases r1 with
  | tup z r => exact ⟨_, rfl, ⟨_, z.sq⟩, q1 _ m1 H1 l1 a1.hold (walks_tup z r)⟩
  | _ => exact q1.elim
theorem i_lst {tg e : Expr} (h : PI X tg e (iList g.K (sem g W f))) : PI X tg e (semI g W (iLstD f)) := by
  refine PI.of h fun σ H Q ⟨m, env, s, ag, q⟩ => ?_
  refine sem_k ag (R.post_bind q) fun d s1 v m1 H1 q1 l1 a1 r1 => ?_
  cases r1 with
  | rol z r => exact ⟨_, rfl, ⟨_, z.sq⟩, q1 _ m1 H1 l1 a1.hold (walks_rol z r)⟩
  | @ref a p z =>
    dsimp only at q1
    split at q1
    · rename_i ds e1
      obtain ⟨xs, e2, _⟩ := a1.hold.obj p a _ z e1
      exact ⟨a, rfl, ⟨xs, .of e2⟩, q1 _ m1 H1 l1 a1.hold (walks_ref z)⟩
    · exact q1.elim
  | _ => exact q1.elim
def rng (lo : Int) (n : Nat) : List D := (List.range n).map fun (i : Nat) => .int (lo + (i : Int))
def iRg1 (f : EX) : EI := fun env s => (f env s).bind fun d s1 => match d with
  | .int j => if -4611686018427387904 ≤ j ∧ j < 4611686018427387904 then .ok ⟨rng 0 j.toNat, fun _ => True⟩ s1 else .no
  | _ => .no
def iRg2 (f f' : EX) : EI := fun env s => (f env s).bind fun d s1 => (f' env s1).bind fun e s2 => match d, e with
  | .int i, .int j => if -4611686018427387904 ≤ i ∧ i < 4611686018427387904 ∧ -4611686018427387904 ≤ j ∧ j < 4611686018427387904 then .ok ⟨rng i (j - i).toNat, fun _ => True⟩ s2 else .no
  | _, _ => .no
theorem rng_len (lo : Int) (n : Nat) : (rng lo n).length = n := by unfold rng; rw [List.length_map, List.length_range]
theorem rng_get {lo : Int} {n i : Nat} {d : D} (h : (rng lo n)[i]? = some d) : i < n ∧ d = .int (lo + i) := by
  unfold rng at h
  rw [List.getElem?_map] at h
  by_cases c : i < n
  · rw [List.getElem?_range c] at h; cases h; exact ⟨c, rfl⟩
  · rw [List.getElem?_eq_none (by rw [List.length_range]; omega)] at h; cases h
theorem walks_rng {m : List Addr} {H : Hp} {lo : Int} {n : Nat} : Walks g m H (Itr lo n) ⟨rng lo n, fun _ => True⟩ := by
  intro m1 s1 H1 i l1 hold1 _
  refine ⟨fun d hd => ?_, fun hi => by rw [rng_len] at hi; exact hi⟩
  obtain ⟨hi, rfl⟩ := rng_get hd
  refine ⟨hi, fun y H' ⟨e, hy⟩ => ?_⟩
  subst e hy
  exact ⟨Le.refl _ _, hold1, .int _⟩
theorem i_rg1 {tg e : Expr} (h : PI X tg e (iRng1 (semA g W (aC f aN)))) : PI X tg e (semI g W (iRg1 f)) := by
  refine PI.of h fun σ H Q ⟨m, env, s, ag, q⟩ => ?_
  refine ⟨m, env, s, ag, ?_⟩
  have q := R.post_bind q
  unfold aC
  cases hf : f env s with
  | no => rw [hf] at q; exact q
  | ex c x s1 => rw [hf] at q; exact q
  | ok d s1 =>
    rw [hf] at q
    intro vs m1 H1 l1 hold1 r1
    have q : (match d with
      | .int j => if -4611686018427387904 ≤ j ∧ j < 4611686018427387904 then R.ok (⟨rng 0 j.toNat, fun _ => True⟩ : Wk) s1 else .no
      | _ => .no).post (PW' g m H Q) (WX g m H W) := q
    cases d with
    | int j =>
      dsimp only at q
      by_cases c : -4611686018427387904 ≤ j ∧ j < 4611686018427387904
      · rw [if_pos c] at q
        cases r1 with
        | cons r t =>
          cases t
          cases r
          exact ⟨j, rfl, c.1, c.2, q _ m1 H1 l1 hold1 walks_rng⟩
      · rw [if_neg c] at q; exact q.elim
    | _ => exact q.elim
theorem i_rg2 {tg e : Expr} (h : PI X tg e (iRng2 (semA g W (aC f (aC f' aN))))) : PI X tg e (semI g W (iRg2 f f')) := by
  refine PI.of h fun σ H Q ⟨m, env, s, ag, q⟩ => ?_
  refine ⟨m, env, s, ag, ?_⟩
  have q := R.post_bind q
  unfold aC
  cases hf : f env s with
  | no => rw [hf] at q; exact q
  | ex c x s1 => rw [hf] at q; exact q
  | ok d s1 =>
    rw [hf] at q
    have q := R.post_bind q
    show (((aC f' aN) env s1).bind fun ds s2 => R.ok (d :: ds) s2).post _ _
    unfold aC
    cases hf' : f' env s1 with
    | no => rw [hf'] at q; exact q
    | ex c x s1 => rw [hf'] at q; exact q
    | ok d' s2 =>
      rw [hf'] at q
      intro vs m1 H1 l1 hold1 r1
      have q : (match d, d' with
        | .int i, .int j => if -4611686018427387904 ≤ i ∧ i < 4611686018427387904 ∧ -4611686018427387904 ≤ j ∧ j < 4611686018427387904 then R.ok (⟨rng i (j - i).toNat, fun _ => True⟩ : Wk) s2 else .no
        | _, _ => .no).post (PW' g m H Q) (WX g m H W) := q
      cases r1 with
      | cons r t =>
        cases t with
        | cons r' t' =>
          cases t'
          cases r with
          | int i =>
            cases r' with
            | int j =>
              dsimp only at q
              by_cases c : -4611686018427387904 ≤ i ∧ i < 4611686018427387904 ∧ -4611686018427387904 ≤ j ∧ j < 4611686018427387904
              · rw [if_pos c] at q
                exact ⟨i, j, rfl, c, q _ m1 H1 l1 hold1 walks_rng⟩
              · rw [if_neg c] at q; exact q.elim
            | _ => exact q.elim
          | _ => exact q.elim
end

/-! ### defs -/
def fnB (tot n : Nat) (b : ST) : FN := fun ds s => if ds.length = n then (match b (ds.map some ++ List.replicate (tot - n) none) s with
  | .nx _ s' => .ok .non s'
  | .rt d s' => .ok d s'
  | _ => .no) else .no
theorem ag_start {g : G} {m : List Addr} {H : Hp} {s : S} {N : List Str} {n : Nat} : ∀ {vs : List V} {ds : List D}, Hold g m s H → Reps g m H vs ds → ds.length = n →
    Ag g m (L2.start N vs) H (ds.map some ++ List.replicate (N.length - n) none) s := by
  intro vs ds hold r hn
  refine ⟨hold, by unfold L2.start; rw [List.length_append, List.length_append, List.length_map, List.length_map, List.length_replicate, List.length_replicate, r.length, hn], fun i d hd => ?_⟩
  unfold L2.start
  by_cases c : i < ds.length
  · rw [List.getElem?_append_left (by rw [List.length_map]; exact c), List.getElem?_map] at hd
    rw [List.getElem?_append_left (by rw [List.length_map, r.length]; exact c), List.getElem?_map]
    cases e : ds[i]? with
    | none => rw [e] at hd; cases hd
    | some d' =>
      rw [e] at hd; cases hd
      obtain ⟨v, hv, rv⟩ := r.get e
      exact ⟨v, by rw [hv]; rfl, rv⟩
  · rw [List.getElem?_append_right (by rw [List.length_map]; omega), List.getElem?_replicate] at hd
    split at hd <;> cases hd
section
variable {P : Program} {w : World} {K : PySem.W.Frag} {mg : Str → Option Value} {base : Heap}
/-- THE RULE for a def that lets no exception out -/
theorem fn_ok {x qual : Str} {st : Stmt} {f : Addr} {fd : FuncData} {N ps : List Str} {k : Nat} {b : ST} (F : Fun K x qual st f fd) (sc : FnScope N ps (defScope st))
    (hb : ∀ (cdv : Value) (A : Around) (outer : List PySem.Env) (s : Shared) (H : Hp) (E : XK), Room k (A.deeper (envOfC qual (defScope st) s.heap.objs.size f cdv)) →
      PSs (cxOf CX0 P w K mg base N qual (defScope st) f cdv A outer s H E).nox (defBody st) (semS ⟨K, mg⟩ E0 b)) :
    FnOk P w K mg base CX0 (k + 1) f fd ps (spF ⟨K, mg⟩ ps.length (fnB N.length ps.length b)) := by
  refine F.ok sc (fun vs H Q E h => ?_) (fun cdv A outer s H vs Q E hr h => ⟨_, hb cdv A outer s H E hr, ?_⟩)
  · obtain ⟨m, s, ds, hn, _, r, _⟩ := h
    rw [r.length]; exact hn
  · obtain ⟨m, s1, ds, hn, hold, r, q⟩ := h
    refine ⟨m, _, s1, ag_start (N := N) hold r hn, ?_⟩
    unfold fnB at q
    rw [if_pos hn] at q
    cases e : b (ds.map some ++ List.replicate (N.length - ps.length) none) s1 with
    | no => rw [e] at q; exact q.elim
    | nx env2 s2 =>
      rw [e] at q
      exact fun σ' m' H' l' a' => q _ m' H' l' a'.hold .non
    | rt d s2 => rw [e] at q; exact q
    | bk env2 s2 => rw [e] at q; exact q.elim
    | ct env2 s2 => rw [e] at q; exact q.elim
    | ex c x s2 => rw [e] at q; exact q.elim
end
end Mi

set_option Elab.async false
set_option linter.all false
set_option maxRecDepth 100000
namespace Mi
open PySem PySem.Spec PyProof.Rows L2

section
variable {X : Cx} {g : G} {W : XK} {f f' : EX} {e : Expr} {r : R2} {o : OP2}
theorem c_2 (h : PE X e (tOp r (sem g W f) (sem g W f'))) (ho : O2 g r o) : PE X e (sem g W (e2 o f f')) := PE.of h fun _ _ _ q => sem_2 ho q
theorem c_2t (h : PT X e (tB (tOp r (sem g W f) (sem g W f')))) (ho : O2 g r o) : PT X e (semB g W (tB1 (e2 o f f'))) := by
  refine PT.of h fun σ H Q ⟨m, env, s, ag, q⟩ => ?_
  refine sem_2 ho (sem_k ag (R.post_bind q) fun d s1 v m1 H1 q1 l1 a1 r1 => ?_)
  cases d <;> first | exact q1.elim | skip
  cases r1
  exact ⟨_, rfl, q1 m1 H1 l1 a1.hold⟩
theorem reps1 {m : List Addr} {H : Hp} {vs : List V} {d : D} (r : Reps g m H vs [d]) : ∃ v, vs = [v] ∧ Rep g m H v d := by
  cases r with
  | cons r t => cases t; exact ⟨_, rfl, r⟩
theorem reps2 {m : List Addr} {H : Hp} {vs : List V} {d e : D} (r : Reps g m H vs [d, e]) : ∃ v w, vs = [v, w] ∧ Rep g m H v d ∧ Rep g m H w e := by
  cases r with
  | cons r t =>
    cases t with
    | cons r2 t2 => cases t2; exact ⟨_, _, rfl, r, r2⟩
end

/-! ### built-in functions -/
def lenB : OPN := fun ds s => match ds with
  | [d] => (match d with
    | .str z => if z.length ≤ 16777216 then some (.int (z.length : Int), s) else none
    | .ref p => (match s[p]? with
      | some (.lst xs) => some (.int (xs.length : Int), s)
      | some (.dct kvs) => some (.int (kvs.length : Int), s)
      | _ => none)
    | .tup xs => some (.int (xs.length : Int), s)
    | .rol xs => some (.int (xs.length : Int), s)
    | _ => none)
  | _ => none
def rLenA (K : PySem.W.Frag) : RN := fun xs H Q => (∃ x n, xs = [x] ∧ LenV K x H n ∧ Q (.int n) H) ∨ (∃ a kvs, xs = [V.ref a] ∧ H a = some (.dK kvs) ∧ Q (.int kvs.length) H)
section
variable {X : Cx} {g : G}
theorem CallR.or {f : Value} {r r' : RN} (h : CallR X f r) (h' : CallR X f r') : CallR X f (fun xs H Q => r xs H Q ∨ r' xs H Q) := by
  intro pins s σ H xs us Q I rx q
  rcases q with q | q
  · exact h pins s σ H xs us Q I rx q
  · exact h' pins s σ H xs us Q I rx q
theorem call_lenA : CallR X (.builtin "len") (rLenA X.K) := CallR.or call_len call_lenD
theorem ent_length {α β : Type} {F : α → β → Prop} : ∀ {l₁ : List α} {l₂ : List β}, Paired F l₁ l₂ → l₁.length = l₂.length
  | _, _, .nil => rfl
  | _, _, .cons _ t => by rw [List.length_cons, List.length_cons, ent_length t]
theorem on_len : ON g (rLenA g.K) lenB := by
  intro m H s vs ds x s' Q hold rv he q
  unfold lenB at he
  split at he
  · rename_i d
    obtain ⟨v, rfl, r⟩ := reps1 rv
    cases r with
    | str z =>
      dsimp only at he
      by_cases c : z.length ≤ 16777216
      · rw [if_pos c] at he; cases he
        exact .inl ⟨_, _, rfl, ⟨line_ok c, rfl⟩, PD.here hold (.int _) q⟩
      · rw [if_neg c] at he; cases he
    | tup z t => cases he; exact .inl ⟨_, _, rfl, .inr ⟨_, z.sq, t.length.symm⟩, PD.here hold (.int _) q⟩
    | rol z t => cases he; exact .inl ⟨_, _, rfl, .inl ⟨_, z.sq, t.length.symm⟩, PD.here hold (.int _) q⟩
    | @ref a p z =>
      dsimp only at he
      split at he
      · rename_i xs e1
        cases he
        obtain ⟨ys, e2, t⟩ := hold.obj p a _ z e1
        exact .inl ⟨_, _, rfl, .inl ⟨_, .of e2, t.length.symm⟩, PD.here hold (.int _) q⟩
      · rename_i kvs e1
        cases he
        obtain ⟨ys, e2, t⟩ := hold.obj p a _ z e1
        refine .inr ⟨_, _, rfl, e2, ?_⟩
        rw [ent_length t]
        exact PD.here hold (.int _) q
      · cases he
    | _ => cases he
  · cases he
def absB : OPN := fun ds s => match ds with
  | [.int i] => some (.int (if i < 0 then -i else i), s)
  | _ => none
theorem on_abs : ON g (fun xs H Q => ∃ i, xs = [.int i] ∧ Q (.int (if i < 0 then -i else i)) H) absB := by
  intro m H s vs ds x s' Q hold rv he q
  unfold absB at he
  split at he
  · cases he
    obtain ⟨v, rfl, r⟩ := reps1 rv
    cases r
    exact ⟨_, rfl, PD.here hold (.int _) q⟩
  · cases he
def intB : OPN := fun ds s => match ds with
  | [.int i] => some (.int i, s)
  | [.bl k] => some (.int (if k then 1 else 0), s)
  | _ => none
theorem on_int : ON g (fun xs H Q => (∃ i, xs = [.int i] ∧ Q (.int i) H) ∨ ∃ k, xs = [.bl k] ∧ Q (.int (if k then 1 else 0)) H) intB := by
  intro m H s vs ds x s' Q hold rv he q
  unfold intB at he
  split at he
  · cases he
    obtain ⟨v, rfl, r⟩ := reps1 rv
    cases r
    exact .inl ⟨_, rfl, PD.here hold (.int _) q⟩
  · cases he
    obtain ⟨v, rfl, r⟩ := reps1 rv
    cases r
    exact .inr ⟨_, rfl, PD.here hold (.int _) q⟩
  · cases he
def strB : OPN := fun ds s => match ds with
  | [.int i] => if i.natAbs.log2 < 1920 then some (.str (toString i), s) else none
  | _ => none
theorem on_str : ON g (fun xs H Q => ∃ i, xs = [.int i] ∧ i.natAbs.log2 < 1920 ∧ Q (.str (toString i)) H) strB := by
  intro m H s vs ds x s' Q hold rv he q
  unfold strB at he
  split at he
  · rename_i i
    by_cases c : i.natAbs.log2 < 1920
    · rw [if_pos c] at he; cases he
      obtain ⟨v, rfl, r⟩ := reps1 rv
      cases r
      exact ⟨_, rfl, c, PD.here hold (.str _) q⟩
    · rw [if_neg c] at he; cases he
  · cases he
def max2B : OPN := fun ds s => match ds with
  | [.int i, .int j] => some (.int (if j > i then j else i), s)
  | _ => none
def min2B : OPN := fun ds s => match ds with
  | [.int i, .int j] => some (.int (if j < i then j else i), s)
  | _ => none
theorem on_max2 : ON g (fun xs H Q => ∃ i j, xs = [.int i, .int j] ∧ Q (.int (if j > i then j else i)) H) max2B := by
  intro m H s vs ds x s' Q hold rv he q
  unfold max2B at he
  split at he
  · cases he
    obtain ⟨v, w, rfl, r, r'⟩ := reps2 rv
    cases r; cases r'
    exact ⟨_, _, rfl, PD.here hold (.int _) q⟩
  · cases he
theorem on_min2 : ON g (fun xs H Q => ∃ i j, xs = [.int i, .int j] ∧ Q (.int (if j < i then j else i)) H) min2B := by
  intro m H s vs ds x s' Q hold rv he q
  unfold min2B at he
  split at he
  · cases he
    obtain ⟨v, w, rfl, r, r'⟩ := reps2 rv
    cases r; cases r'
    exact ⟨_, _, rfl, PD.here hold (.int _) q⟩
  · cases he
/-- tuple(x), list(x) of a list or tuple -/
def tupB : OPN := fun ds s => match ds with
  | [d] => (itemsD d s).map fun xs => (.tup xs, s)
  | _ => none
def lstB : OPN := fun ds s => match ds with
  | [d] => (itemsD d s).map fun xs => (.ref s.length, s ++ [.lst xs])
  | _ => none
theorem on_tup : ON g (fun xs H Q => ∃ p ys, xs = [.ref p] ∧ ((SqL g.K H p ys ∧ ∀ l, H l = none → Q (.ref l) (upd H l (.tup ys))) ∨ (SqT g.K H p ys ∧ Q (.ref p) H))) tupB := by
  intro m H s vs ds x s' Q hold rv he q
  unfold tupB at he
  split at he
  · rename_i d
    obtain ⟨v, rfl, r⟩ := reps1 rv
    cases hi : itemsD d s with
    | none => rw [hi] at he; cases he
    | some xs =>
      rw [hi] at he; cases he
      cases r with
      | @tup a ys ds z t => cases hi; exact ⟨_, _, rfl, .inr ⟨z.sq, PD.here hold (.tup z t) q⟩⟩
      | @rol a ys ds z t => cases hi; exact ⟨_, _, rfl, .inl ⟨z.sq, fun p hp => new_tup hold hp t q⟩⟩
      | @ref a p z =>
        have hi : (match s[p]? with
          | some (.lst ds) => some ds
          | _ => none) = some xs := hi
        split at hi
        · rename_i e1
          cases hi
          obtain ⟨ys, e2, t⟩ := hold.obj p a _ z e1
          exact ⟨_, _, rfl, .inl ⟨.of e2, fun p hp => new_tup hold hp t q⟩⟩
        · cases hi
      | _ => cases hi
  · cases he
theorem on_lst : ON g (fun xs H Q => ∃ p ys, xs = [.ref p] ∧ (SqL g.K H p ys ∨ SqT g.K H p ys) ∧ ∀ l, H l = none → Q (.ref l) (upd H l (.lst ys))) lstB := by
  intro m H s vs ds x s' Q hold rv he q
  unfold lstB at he
  split at he
  · rename_i d
    obtain ⟨v, rfl, r⟩ := reps1 rv
    cases hi : itemsD d s with
    | none => rw [hi] at he; cases he
    | some xs =>
      rw [hi] at he; cases he
      obtain ⟨p, ys, rfl, hq, t⟩ := items_rep hold r hi
      exact ⟨p, ys, rfl, hq, fun l hl => new_lst hold hl t q⟩
  · cases he
/-- lists of ints, of bools -/
def intsD : List D → Option (List Int)
  | [] => some []
  | .int i :: ds => (intsD ds).map (i :: ·)
  | _ => none
def blsD : List D → Option (List Bool)
  | [] => some []
  | .bl i :: ds => (blsD ds).map (i :: ·)
  | _ => none
theorem ints_rep {m : List Addr} {H : Hp} : ∀ {xs : List V} {ds : List D} {ns : List Int}, Reps g m H xs ds → intsD ds = some ns → xs = ns.map V.int
  | _, _, _, .nil, h => by cases h; rfl
  | _, _, _, .cons (d := d) (ds := ds) r t, h => by
    cases r <;> first | (cases h; done) | skip
    rename_i i
    have h : (intsD ds).map (i :: ·) = some _ := h
    cases e : intsD ds with
    | none => rw [e] at h; cases h
    | some ns => rw [e] at h; cases h; rw [ints_rep t e]; rfl
theorem bls_rep {m : List Addr} {H : Hp} : ∀ {xs : List V} {ds : List D} {ns : List Bool}, Reps g m H xs ds → blsD ds = some ns → xs = ns.map V.bl
  | _, _, _, .nil, h => by cases h; rfl
  | _, _, _, .cons (d := d) (ds := ds) r t, h => by
    cases r <;> first | (cases h; done) | skip
    rename_i i
    have h : (blsD ds).map (i :: ·) = some _ := h
    cases e : blsD ds with
    | none => rw [e] at h; cases h
    | some ns => rw [e] at h; cases h; rw [bls_rep t e]; rfl
theorem ints_map (ns : List Int) : intsD (ns.map D.int) = some ns := by
  induction ns with
  | nil => rfl
  | cons n ns ih => show (intsD (ns.map D.int)).map (n :: ·) = _; rw [ih]; rfl
theorem bls_map (ns : List Bool) : blsD (ns.map D.bl) = some ns := by
  induction ns with
  | nil => rfl
  | cons n ns ih => show (blsD (ns.map D.bl)).map (n :: ·) = _; rw [ih]; rfl
theorem reps_ints {m : List Addr} {H : Hp} : ∀ (ns : List Int), Reps g m H (ns.map V.int) (ns.map D.int)
  | [] => .nil
  | n :: ns => .cons (.int n) (reps_ints ns)
def listItems (d : D) (s : S) : Option (List D) := match d with
  | .rol ds => some ds
  | .ref p => match s[p]? with
    | some (.lst ds) => some ds
    | _ => none
  | _ => none
theorem list_rep {m : List Addr} {H : Hp} {s : S} {v : V} {d : D} {ds : List D} (hold : Hold g m s H) (r : Rep g m H v d) (h : listItems d s = some ds) : ∃ p xs, v = .ref p ∧ SqL g.K H p xs ∧ Reps g m H xs ds := by
  cases r with
  | rol z q => cases h; exact ⟨_, _, rfl, z.sq, q⟩
  | @ref a i z =>
    have h : (match s[i]? with
      | some (.lst ds) => some ds
      | _ => none) = some ds := h
    split at h
    · rename_i e1
      cases h
      obtain ⟨xs, e2, q⟩ := hold.obj i a _ z e1
      exact ⟨a, xs, rfl, .of e2, q⟩
    · cases h
  | _ => cases h
def oneL {α : Type} (P : List D → Option α) (k : S → α → D × S) : OPN := fun ds s => match ds with
  | [d] => ((listItems d s).bind P).map (k s)
  | _ => none
def sortI (ns : List Int) : List Int := ns.mergeSort (fun a b => decide (a ≤ b))
def anyB : OPN := oneL blsD fun s bs => (.bl (bs.any id), s)
def allB : OPN := oneL blsD fun s bs => (.bl (bs.all id), s)
def sumB : OPN := oneL intsD fun s bs => (.int bs.sum, s)
def sortB : OPN := oneL intsD fun s ns => (.ref s.length, s ++ [.lst ((sortI ns).map D.int)])
theorem one_list {m : List Addr} {H : Hp} {s : S} {vs : List V} {ds : List D} {α : Type} {P : List D → Option α} {k : S → α → D × S} {x : D} {s' : S} (hold : Hold g m s H) (rv : Reps g m H vs ds)
    (he : oneL P k ds s = some (x, s')) : ∃ p xs es ns, vs = [.ref p] ∧ SqL g.K H p xs ∧ Reps g m H xs es ∧ P es = some ns ∧ k s ns = (x, s') := by
  unfold oneL at he
  split at he
  · rename_i d
    obtain ⟨v, rfl, r⟩ := reps1 rv
    cases hi : listItems d s with
    | none => rw [hi] at he; cases he
    | some es =>
      rw [hi] at he
      obtain ⟨p, xs, rfl, hq, t⟩ := list_rep hold r hi
      have he : (P es).map (k s) = some (x, s') := he
      cases hp : P es with
      | none => rw [hp] at he; cases he
      | some ns => rw [hp] at he; exact ⟨p, xs, es, ns, rfl, hq, t, hp, Option.some.inj he⟩
  · cases he
theorem on_any : ON g (rAny g.K) anyB := by
  intro m H s vs ds x s' Q hold rv he q
  obtain ⟨p, xs, es, ns, rfl, hq, t, hp, e⟩ := one_list hold rv he
  cases e
  exact ⟨p, ns, rfl, by rw [← bls_rep t hp]; exact hq, PD.here hold (.bl _) q⟩
theorem on_all : ON g (rAll g.K) allB := by
  intro m H s vs ds x s' Q hold rv he q
  obtain ⟨p, xs, es, ns, rfl, hq, t, hp, e⟩ := one_list hold rv he
  cases e
  exact ⟨p, ns, rfl, by rw [← bls_rep t hp]; exact hq, PD.here hold (.bl _) q⟩
theorem on_sum : ON g (rSum g.K) sumB := by
  intro m H s vs ds x s' Q hold rv he q
  obtain ⟨p, xs, es, ns, rfl, hq, t, hp, e⟩ := one_list hold rv he
  cases e
  exact ⟨p, ns, rfl, by rw [← ints_rep t hp]; exact hq, PD.here hold (.int _) q⟩
theorem sort_uniq {ns ys : List Int} (h : ys.Perm ns) (hp : ys.Pairwise (· ≤ ·)) : ys = sortI ns := by
  have h1 : (sortI ns).Perm ns := List.mergeSort_perm ns _
  have h2 : (sortI ns).Pairwise (· ≤ ·) := by
    have := List.pairwise_mergeSort (le := fun a b : Int => decide (a ≤ b)) (by intro a b c; simp only [decide_eq_true_eq]; omega) (by intro a b; simp only [Bool.or_eq_true, decide_eq_true_eq]; omega) ns
    exact this.imp fun h => of_decide_eq_true h
  exact (h.trans h1.symm).eq_of_pairwise (le := (· ≤ ·)) (fun a b _ _ h1 h2 => by omega) hp h2
theorem on_sort : ON g (rSortedI g.K) sortB := by
  intro m H s vs ds x s' Q hold rv he q
  obtain ⟨p, xs, es, ns, rfl, hq, t, hp, e⟩ := one_list hold rv he
  cases e
  refine ⟨p, ns, rfl, by rw [← ints_rep t hp]; exact hq, fun ys l h1 h2 hl => ?_⟩
  rw [sort_uniq h1 h2]
  exact new_lst hold hl (reps_ints _) q
end
end Mi

set_option Elab.async false
set_option linter.all false
set_option maxRecDepth 100000
namespace Mi
open PySem PySem.Spec PyProof.Rows L2

section
variable {g : G} {m : List Addr} {H : Hp} {s : S} {p : Nat} {a : Addr} {v : V} {d : D} {W : XK}
/-- the object p is written: what then holds -/
theorem wr_lst (hold : Hold g m s H) (z : m[p]? = some a) {xs : List V} {ds : List D} (r : Reps g m H xs ds) : Hold g m (s.set p (.lst ds)) (upd H a (.lst xs)) :=
  hold.write z ⟨xs, upd_same, r.le (Le.write hold z)⟩
theorem wr_dct (hold : Hold g m s H) (z : m[p]? = some a) {xs : List (Key × V)} {ds : List (Key × D)} (r : EntK g m H xs ds) : Hold g m (s.set p (.dct ds)) (upd H a (.dK xs)) :=
  hold.write z ⟨xs, upd_same, r.le (Le.write hold z)⟩

/-! ### methods of lists -/
def appM : OPM := fun d ds s => match d, ds with
  | .ref p, [x] => match s[p]? with
    | some (.lst xs) => if xs.length < 16777216 then some (.non, s.set p (.lst (xs ++ [x]))) else none
    | _ => none
  | _, _ => none
theorem om_app : OM g rAppend appM := by
  intro m H s v vs d ds x s' Q hold r rs he q
  unfold appM at he
  split at he
  · rename_i p y
    split at he
    · rename_i xs e1
      by_cases c : xs.length < 16777216
      · rw [if_pos c] at he; cases he
        obtain ⟨a, ys, rfl, z, e2, t⟩ := rep_lst hold r e1
        obtain ⟨w, rfl, rw1⟩ := reps1 rs
        refine ⟨a, ys, w, rfl, rfl, e2, by rw [sizeLine_eq, t.length]; exact c, ?_⟩
        exact q .non m _ (Le.write hold z) (wr_lst hold z (t.append (.cons rw1 .nil))) .non
      · rw [if_neg c] at he; cases he
    · cases he
  · cases he
def extM : OPM := fun d ds s => match d, ds with
  | .ref p, [.ref q] => match s[p]?, s[q]? with
    | some (.lst xs), some (.lst ys) => if xs.length + ys.length ≤ 16777216 then some (.non, s.set p (.lst (xs ++ ys))) else none
    | _, _ => none
  | _, _ => none
theorem om_ext : OM g rExtend extM := by
  intro m H s v vs d ds x s' Q hold r rs he q
  unfold extM at he
  split at he
  · rename_i p p'
    split at he
    · rename_i xs ys e1 e1'
      by_cases c : xs.length + ys.length ≤ 16777216
      · rw [if_pos c] at he; cases he
        obtain ⟨a, us, rfl, z, e2, t⟩ := rep_lst hold r e1
        obtain ⟨w, rfl, rw1⟩ := reps1 rs
        obtain ⟨b, ws, rfl, z', e2', t'⟩ := rep_lst hold rw1 e1'
        refine ⟨a, b, us, ws, rfl, rfl, e2, e2', line_ok (by rw [t.length, t'.length]; exact c), ?_⟩
        exact q .non m _ (Le.write hold z) (wr_lst hold z (t.append t')) .non
      · rw [if_neg c] at he; cases he
    · cases he
  · cases he
def popM : OPM := fun d ds s => match d, ds with
  | .ref p, [] => match s[p]? with
    | some (.lst xs) => match xs[xs.length - 1]? with
      | some x => some (x, s.set p (.lst xs.dropLast))
      | none => none
    | _ => none
  | _, _ => none
theorem Reps.dropLast {xs : List V} {ds : List D} (r : Reps g m H xs ds) : Reps g m H xs.dropLast ds.dropLast := by
  rw [List.dropLast_eq_take, List.dropLast_eq_take, r.length]
  exact r.take _
theorem om_pop : OM g rPop popM := by
  intro m H s v vs d ds x s' Q hold r rs he q
  unfold popM at he
  split at he
  · rename_i p
    split at he
    · rename_i xs e1
      split at he
      · rename_i y hy
        cases he
        obtain ⟨a, us, rfl, z, e2, t⟩ := rep_lst hold r e1
        cases rs
        rw [← t.length] at hy
        obtain ⟨w, hw, rw1⟩ := t.get hy
        refine ⟨a, us, w, rfl, rfl, e2, hw, ?_⟩
        exact q w m _ (Le.write hold z) (wr_lst hold z t.dropLast) (rw1.le (Le.write hold z))
      · cases he
    · cases he
  · cases he

/-! ### dicts with ints and texts as keys -/
def valD (kvs : List (Key × D)) (k : Key) : Option D := (kvs.find? fun kv => decide (kv.1 = k)).map (·.2)
def putD (kvs : List (Key × D)) (k : Key) (v : D) : List (Key × D) :=
  if (kvs.any fun kv => decide (kv.1 = k)) = true then kvs.map (fun kv => if kv.1 = k then (kv.1, v) else kv) else kvs ++ [(k, v)]
def dropD (kvs : List (Key × D)) (k : Key) : List (Key × D) := kvs.filter fun kv => decide (kv.1 ≠ k)
theorem key_rep {v : V} {d : D} {k : Key} (r : Rep g m H v d) (h : keyD d = some k) : v = kV k := by
  cases r <;> first | (cases h; done) | (cases h; rfl)
theorem val_rep {es : List (Key × V)} {kvs : List (Key × D)} {k : Key} (r : EntK g m H es kvs) : (valD kvs k = none ∧ valV es k = none) ∨ ∃ v d, valD kvs k = some d ∧ valV es k = some v ∧ Rep g m H v d := by
  unfold EntK at r
  induction r with
  | nil => exact .inl ⟨rfl, rfl⟩
  | @cons p q ps qs h t ih =>
    by_cases c : p.1 = k
    · have c' : q.1 = k := h.1.trans c
      refine .inr ⟨p.2, q.2, ?_, valV_pos c, h.2⟩
      unfold valD
      rw [List.find?_cons, decide_eq_true c']
      rfl
    · have c' : ¬ q.1 = k := fun z => c (h.1.symm.trans z)
      rw [valV_neg c]
      have e : valD (q :: qs) k = valD qs k := by
        unfold valD
        rw [List.find?_cons, decide_eq_false c']
      rw [e]
      exact ih
theorem any_rep {es : List (Key × V)} {kvs : List (Key × D)} {k : Key} (r : EntK g m H es kvs) : (es.any fun kv => decide (kv.1 = k)) = (kvs.any fun kv => decide (kv.1 = k)) := by
  unfold EntK at r
  induction r with
  | nil => rfl
  | @cons p q ps qs h t ih => rw [List.any_cons, List.any_cons, ih, h.1]
theorem put_rep {es : List (Key × V)} {kvs : List (Key × D)} {k : Key} {v : V} {d : D} (r : EntK g m H es kvs) (rv : Rep g m H v d) : EntK g m H (putK es k v) (putD kvs k d) := by
  unfold putK putD
  rw [any_rep r]
  split
  · unfold EntK at r ⊢
    rename_i hh; clear hh
    induction r with
    | nil => exact .nil
    | @cons p q ps qs h t ih =>
      rw [List.map_cons, List.map_cons]
      refine .cons ?_ ih
      by_cases c : p.1 = k
      · rw [if_pos c, if_pos (h.1.trans c)]; exact ⟨h.1, rv⟩
      · rw [if_neg c, if_neg (fun z => c (h.1.symm.trans z))]; exact h
  · unfold EntK at r ⊢
    rename_i hh; clear hh
    induction r with
    | nil => exact .cons ⟨rfl, rv⟩ .nil
    | @cons p q ps qs h t ih => exact .cons h ih
theorem drop_rep {es : List (Key × V)} {kvs : List (Key × D)} {k : Key} (r : EntK g m H es kvs) : EntK g m H (dropK es k) (dropD kvs k) := by
  unfold dropK dropD
  unfold EntK at r ⊢
  induction r with
  | nil => exact .nil
  | @cons p q ps qs h t ih =>
    rw [List.filter_cons, List.filter_cons]
    by_cases c : p.1 = k
    · rw [if_neg (by simp [c]), if_neg (by simp [h.1.trans c])]; exact ih
    · rw [if_pos (by simp [c]), if_pos (by rw [h.1]; simp [c])]; exact .cons h ih
def dctAt (d : D) (s : S) : Option (List (Key × D)) := match d with
  | .ref p => match s[p]? with
    | some (.dct kvs) => some kvs
    | _ => none
  | _ => none
theorem dct_rep {kvs : List (Key × D)} (hold : Hold g m s H) (r : Rep g m H v d) (h : dctAt d s = some kvs) : ∃ p a es, d = .ref p ∧ v = .ref a ∧ m[p]? = some a ∧ H a = some (.dK es) ∧ EntK g m H es kvs := by
  cases r with
  | @ref a p z =>
    have h : (match s[p]? with
      | some (.dct kvs) => some kvs
      | _ => none) = some kvs := h
    split at h
    · rename_i e1
      cases h
      obtain ⟨es, e2, t⟩ := hold.obj p a _ z e1
      exact ⟨p, a, es, rfl, rfl, z, e2, t⟩
    · cases h
  | _ => cases h
def dgetD : OP2 := fun d e s => match dctAt d s, keyD e with
  | some kvs, some k => (valD kvs k).map fun x => (x, s)
  | _, _ => none
theorem o2_dget : O2 g (fun x y H Q => ∃ a v, x = .ref a ∧ DGet H a y (some v) ∧ Q v H) dgetD := by
  intro m H s v w d e x s' Q hold rv rw he q
  unfold dgetD at he
  split at he
  · rename_i kvs k h1 h2
    obtain ⟨p, a, es, rfl, rfl, z, e2, t⟩ := dct_rep hold rv h1
    rcases val_rep (k := k) t with ⟨e3, _⟩ | ⟨u, d, e3, e4, r⟩
    · rw [e3] at he; cases he
    · rw [e3] at he; cases he
      have := key_rep rw h2
      subst this
      exact ⟨a, u, rfl, by rw [← e4]; exact DGet.k e2, PD.here hold r q⟩
  · cases he
def dinD (neg : Bool) : OP2 := fun e d s => match dctAt d s, keyD e with
  | some kvs, some k => some (.bl (if neg then !(valD kvs k).isSome else (valD kvs k).isSome), s)
  | _, _ => none
theorem din_ok {hold : Hold g m s H} {w : V} {e x : D} {s' : S} {neg : Bool} {Q : VK} (rv : Rep g m H v d) (rw1 : Rep g m H w e) (he : dinD neg e d s = some (x, s')) (q : PD g m H Q x s') :
    ∃ a o, v = .ref a ∧ DGet H a w o ∧ Q (.bl (if neg then !o.isSome else o.isSome)) H := by
  unfold dinD at he
  split at he
  · rename_i kvs k h1 h2
    cases he
    obtain ⟨p, a, es, rfl, rfl, z, e2, t⟩ := dct_rep hold rv h1
    have := key_rep rw1 h2
    subst this
    refine ⟨a, _, rfl, DGet.k (k := k) e2, ?_⟩
    rcases val_rep (k := k) t with ⟨e3, e4⟩ | ⟨u, d, e3, e4, r⟩
    · rw [e3] at q; rw [e4]; exact PD.here hold (.bl _) q
    · rw [e3] at q; rw [e4]; exact PD.here hold (.bl _) q
  · cases he
theorem o2_din : O2 g (fun y x H Q => ∃ a o, x = .ref a ∧ DGet H a y o ∧ Q (.bl o.isSome) H) (dinD false) := by
  intro m H s v w d e x s' Q hold rv rw he q
  exact din_ok (hold := hold) rw rv he q
theorem o2_dnotin : O2 g (fun y x H Q => ∃ a o, x = .ref a ∧ DGet H a y o ∧ Q (.bl (!o.isSome)) H) (dinD true) := by
  intro m H s v w d e x s' Q hold rv rw he q
  exact din_ok (hold := hold) rw rv he q
section
variable {X : Cx} {f f' f'' : EX} {st : Stmt} {e : Expr}
/-- d[k] = v: the value, the dict, the key -/
def sDPutD (f f' f'' : EX) : ST := fun env s => (f env s).go fun x s1 => (f' env s1).go fun d s2 => (f'' env s2).go fun k s3 => match d, dctAt d s3, keyD k with
  | .ref p, some kvs, some k => if kvs.length < 16777216 then .nx env (s3.set p (.dct (putD kvs k x))) else .no
  | _, _, _ => .no
theorem c_dput (h : PS X st (sDPut (sem g W f') (sem g W f'') (sem g W f))) : PS X st (semS g W (sDPutD f f' f'')) := by
  refine PS.of h fun B σ H ⟨m, env, s, a, q⟩ => ?_
  refine sem_k a (R.go_post q) fun x s1 v m1 H1 q1 l1 a1 r1 => ?_
  refine sem_k a1 (R.go_post (Fl.post_le l1 q1)) fun d s2 w m2 H2 q2 l2 a2 r2 => ?_
  refine sem_k a2 (R.go_post (Fl.post_le l2 q2)) fun k s3 u m3 H3 q3 l3 a3 r3 => ?_
  split at q3
  · rename_i p kvs k' h2 h1
    by_cases c : kvs.length < 16777216
    · rw [if_pos c] at q3
      obtain ⟨p', b, es, e0, rfl, z, e2, t⟩ := dct_rep a3.hold (r2.le l3) h1
      cases e0
      have := key_rep r3 h2
      subst this
      have hw := wr_dct a3.hold z (put_rep (k := k') t ((r1.le l2).le l3))
      refine ⟨b, _, rfl, DPut.k e2 (by rw [sizeLine_eq, ent_length t]; exact c), ?_⟩
      exact q3 σ m3 _ (l3.trans (Le.write a3.hold z)) (a3.go (Le.write a3.hold z) hw)
    · rw [if_neg c] at q3; exact q3.elim
  · exact q3.elim
/-- d[k] op= v, of ints: the dict, the key, the value -/
def sDAugD (o : OP2) (f' f'' f : EX) : ST := fun env s => (f' env s).go fun d s1 => (f'' env s1).go fun k s2 => (R.of (dgetD d k s2)).go fun old s2 => (f env s2).go fun x s3 => (R.of (o old x s3)).go fun y s4 => match d, dctAt d s4, keyD k with
  | .ref p, some kvs, some k => if kvs.length < 16777216 then .nx env (s4.set p (.dct (putD kvs k y))) else .no
  | _, _, _ => .no
/-- an operator in place, by values -/
def InR (X : Cx) (op : Operator) (r : R2) : Prop := InOp X op r
theorem c_daug {r : R2} {o : OP2} (h : PS X st (sDAug (sem g W f') (sem g W f'') (sem g W f) r)) (ho : O2 g r o) : PS X st (semS g W (sDAugD o f' f'' f)) := by
  refine PS.of h fun B σ H ⟨m, env, s, a, q⟩ => ?_
  refine sem_k a (R.go_post q) fun d s1 w m1 H1 q1 l1 a1 r1 => ?_
  refine sem_k a1 (R.go_post (Fl.post_le l1 q1)) fun k s2 u m2 H2 q2 l2 a2 r2 => ?_
  obtain ⟨old, s2', e0, q2⟩ := R.post_of (R.go_post q2)
  have e0' := e0
  unfold dgetD at e0
  split at e0
  · rename_i kvs k' h1 h2
    obtain ⟨p, b, es, rfl, rfl, z, e2, t⟩ := dct_rep a2.hold (r1.le l2) h1
    have := key_rep r2 h2
    subst this
    rcases val_rep (k := k') t with ⟨e3, _⟩ | ⟨ov, od, e3, e4, r⟩
    · rw [e3] at e0; cases e0
    · rw [e3] at e0; cases e0
      refine ⟨b, ov, rfl, by rw [← e4]; exact DGet.k e2, ?_⟩
      refine sem_k a2 (R.go_post (Fl.post_le l2 q2)) fun x s3 xv m3 H3 q3 l3 a3 r3 => ?_
      obtain ⟨y, s4, e5, q4⟩ := R.post_of (R.go_post q3)
      refine ho m3 H3 s3 ov xv _ x y s4 _ a3.hold (r.le l3) r3 e5 fun yv m4 H4 l4 hold4 r4 => ?_
      split at q4
      · rename_i p' kvs' k'' e6 e7 e8
        cases e6
        rw [h2] at e8; cases e8
        by_cases c : kvs'.length < 16777216
        · rw [if_pos c] at q4
          have r1' := (((r1.le l2).le l3).le l4)
          obtain ⟨p'', b', es', e9, e10, z', e11, t'⟩ := dct_rep hold4 r1' e7
          cases e9
          cases e10
          have hw := wr_dct hold4 z' (put_rep (k := k') t' r4)
          refine ⟨_, DPut.k e11 (by rw [sizeLine_eq, ent_length t']; exact c), ?_⟩
          exact q4 σ m4 _ (l3.trans (l4.trans (Le.write hold4 z'))) (a3.go (l4.trans (Le.write hold4 z')) hw)
        · rw [if_neg c] at q4; exact q4.elim
      · exact q4.elim
  · cases e0
/-- op= on ints by the operator's own rule -/
def rInI (op : Int → Int → Int) : R2 := fun x y H Q => ∃ i j, x = .int i ∧ y = .int j ∧ Q (.int (op i j)) H
theorem o2_addI : O2 g rAdd (opI (fun _ _ => true) fun i j => .int (i + j)) := by
  intro m H s v w d e x s' Q hold rv rw he q
  obtain ⟨i, j, rfl, rfl, c, rfl, rfl⟩ := opI_some he
  exact ⟨i, j, rep_int rv, rep_int rw, PD.here hold (.int _) q⟩
theorem o2_subI : O2 g rSub (opI (fun _ _ => true) fun i j => .int (i - j)) := by
  intro m H s v w d e x s' Q hold rv rw he q
  obtain ⟨i, j, rfl, rfl, c, rfl, rfl⟩ := opI_some he
  exact ⟨i, j, rep_int rv, rep_int rw, PD.here hold (.int _) q⟩
abbrev addI : OP2 := opI (fun _ _ => true) fun i j => .int (i + j)
/-- x op= e -/
def sAug (i : Nat) (o : OP2) (f : EX) : ST := fun env s => match env[i]? with
  | some (some d) => (f env s).go fun e s1 => (R.of (o d e s1)).go fun x s2 => .nx (env.set i (some x)) s2
  | _ => .no
theorem c_aug {i : Nat} {r : R2} {o : OP2} (h : PS X st (tAug i (sem g W f) r)) (ho : O2 g r o) : PS X st (semS g W (sAug i o f)) := by
  refine PS.of h fun B σ H ⟨m, env, s, a, q⟩ => ?_
  unfold sAug at q
  split at q
  · rename_i d hd
    obtain ⟨x, hx, rx⟩ := a.val i d hd
    refine ⟨x, hx, ?_⟩
    refine sem_k a (R.go_post q) fun e s1 v m1 H1 q1 l1 a1 r1 => ?_
    obtain ⟨y, s2, e1, q2⟩ := R.post_of (R.go_post q1)
    refine ho m1 H1 s1 x v d e y s2 _ a1.hold (rx.le l1) r1 e1 fun yv m2 H2 l2 hold2 r2 => ?_
    exact q2 _ m2 H2 (l1.trans l2) ((a1.go l2 hold2).set r2 i)
  · exact q.elim
theorem ip_of {op : Operator} {r : R2} (h : OpR X (inplaceOp op) r) : PIp X op r := fun pins s σ H x y v u Q I rx ry q => h pins s σ H x y v u Q I rx ry q
/-- xs[i] = v: the value, the list, the index -/
def setLD (d k x : D) (s : S) : Option S := match d, k with
  | .ref p, .int i => match s[p]? with
    | some (.lst xs) => match ixN xs.length i with
      | some j => some (s.set p (.lst (xs.set j x)))
      | none => none
    | _ => none
  | _, _ => none
def sLPut (f f' f'' : EX) : ST := fun env s => (f env s).go fun x s1 => (f' env s1).go fun d s2 => (f'' env s2).go fun k s3 => match setLD d k x s3 with
  | some s4 => .nx env s4
  | none => .no
theorem setL_ok {m : List Addr} {H : Hp} {s s' : S} {v w u : V} {d k x : D} {Q : Hp → Prop} (hold : Hold g m s H) (r : Rep g m H v d) (r' : Rep g m H w k) (r'' : Rep g m H u x) (h : setLD d k x s = some s')
    (q : ∀ H', Le m H m H' → Hold g m s' H' → Q H') : rSetL v w u H Q := by
  unfold setLD at h
  split at h
  · rename_i p i
    split at h
    · rename_i xs e1
      split at h
      · rename_i j e2
        cases h
        obtain ⟨a, ys, rfl, z, e3, t⟩ := rep_lst hold r e1
        refine ⟨a, ys, i, j, rfl, rep_int r', e3, by rw [t.length]; exact e2, ?_⟩
        exact q _ (Le.write hold z) (wr_lst hold z (t.set r'' j))
      · cases h
    · cases h
  · cases h
theorem c_lput (h : PS X st (tAsg (sem g W f) (gSub (sem g W f') (sem g W f'') rSetL))) : PS X st (semS g W (sLPut f f' f'')) := by
  refine PS.of h fun B σ H ⟨m, env, s, a, q⟩ => ?_
  refine sem_k a (R.go_post q) fun x s1 v m1 H1 q1 l1 a1 r1 => ?_
  refine sem_k a1 (R.go_post (Fl.post_le l1 q1)) fun d s2 w m2 H2 q2 l2 a2 r2 => ?_
  refine sem_k a2 (R.go_post (Fl.post_le l2 q2)) fun k s3 u m3 H3 q3 l3 a3 r3 => ?_
  split at q3
  · rename_i s4 e1
    exact setL_ok a3.hold (r2.le l3) r3 ((r1.le l2).le l3) e1 fun H' l' h' => q3 σ m3 H' (l3.trans l') (a3.go l' h')
  · exact q3.elim
end
end

/-! ### displays of dicts -/
def evPs : List (EX × EX) → Env → S → R (List (D × D))
  | [], _, s => .ok [] s
  | (fk, fv) :: r, env, s => (fk env s).bind fun k s1 => (fv env s1).bind fun v s2 => (evPs r env s2).bind fun ps s3 => .ok ((k, v) :: ps) s3
def keyed : List (D × D) → Option (List (Key × D))
  | [] => some []
  | (k, v) :: r => match keyD k, keyed r with
    | some k', some r' => some ((k', v) :: r')
    | _, _ => none
def mergeD (kvs more : List (Key × D)) : List (Key × D) := more.foldl (fun acc kv => putD acc kv.1 kv.2) kvs
def eDct (trs : List (EX × EX)) : EX := fun env s => (evPs trs env s).bind fun ps s1 => match keyed ps with
  | some kvs => if kvs.length ≤ 15 then .ok (.ref s1.length) (s1 ++ [.dct (mergeD [] kvs)]) else .no
  | none => .no
def RepPs (g : G) (m : List Addr) (H : Hp) : List (V × V) → List (D × D) → Prop := Paired fun p q => Rep g m H p.1 q.1 ∧ Rep g m H p.2 q.2
section
variable {X : Cx} {g : G} {W : XK}
theorem pairs_ok {m : List Addr} {H : Hp} {σ : L2.St} {env : Env} {K : List (V × V) → Hp → Prop} : ∀ (trs : List (EX × EX)) {s : S} {P : List (D × D) → S → Prop}, Ag g m σ H env s → (evPs trs env s).post P (WX g m H W) →
    (∀ ps s1 vs m1 H1, P ps s1 → Le m H m1 H1 → Ag g m1 σ H1 env s1 → RepPs g m1 H1 vs ps → K vs H1) → tPairs (trs.map fun p => (sem g W p.1, sem g W p.2)) σ H K := by
  intro trs
  induction trs generalizing m H K with
  | nil => intro s P a q k; exact k [] s [] m H q (Le.refl _ _) a .nil
  | cons p r ih =>
    intro s P a q k
    obtain ⟨fk, fv⟩ := p
    refine sem_k a (R.post_bind q) fun kd s1 kv m1 H1 q1 l1 a1 r1 => ?_
    refine sem_k a1 (R.post_mono (R.post_bind q1) (fun _ _ z => z) fun _ _ _ z => WX.le l1 z) fun d s2 v m2 H2 q2 l2 a2 r2 => ?_
    refine ih a2 (R.post_mono (R.post_bind q2) (fun _ _ z => z) fun _ _ _ z => WX.le (l1.trans l2) z) fun ps s3 vs m3 H3 q3 l3 a3 r3 => ?_
    exact k _ s3 ((kv, v) :: vs) m3 H3 q3 (l1.trans (l2.trans l3)) a3 (.cons ⟨(r1.le l2).le l3, r2.le l3⟩ r3)
theorem keyed_rep {m : List Addr} {H : Hp} : ∀ {vs : List (V × V)} {ps : List (D × D)} {kvs : List (Key × D)}, RepPs g m H vs ps → keyed ps = some kvs → ∃ es : List (Key × V), vs = es.map (fun kv => (kV kv.1, kv.2)) ∧ EntK g m H es kvs
  | _, _, _, .nil, h => by cases h; exact ⟨[], rfl, .nil⟩
  | _, _, _, .cons (a := p) (b := q) r t, h => by
    obtain ⟨pk, pv⟩ := p
    obtain ⟨qk, qv⟩ := q
    unfold keyed at h
    split at h
    · rename_i k' r' h1 h2
      cases h
      obtain ⟨es, rfl, t'⟩ := keyed_rep t h2
      have := key_rep r.1 h1
      refine ⟨(k', pv) :: es, ?_, .cons ⟨rfl, r.2⟩ t'⟩
      rw [List.map_cons]
      have this : pk = kV k' := this
      show (pk, pv) :: _ = (kV k', pv) :: _
      rw [this]
    · cases h
theorem merge_rep {m : List Addr} {H : Hp} : ∀ {es : List (Key × V)} {kvs : List (Key × D)} {es0 : List (Key × V)} {kvs0 : List (Key × D)}, EntK g m H es kvs → EntK g m H es0 kvs0 → EntK g m H (mergeK es0 es) (mergeD kvs0 kvs) := by
  intro es kvs es0 kvs0 r
  unfold EntK at r
  induction r generalizing es0 kvs0 with
  | nil => intro q; exact q
  | @cons p q ps qs h t ih =>
    intro r0
    show EntK g m H (mergeK (putK es0 p.1 p.2) ps) (mergeD (putD kvs0 q.1 q.2) qs)
    refine ih ?_
    rw [h.1]
    exact put_rep r0 h.2
theorem s_dct {pos : Pos} {keys : List (Option Expr)} {values : List Expr} {trs : List (EX × EX)} (h : PPs X pos keys values (trs.map fun p => (sem g W p.1, sem g W p.2))) (hall : keys.all (·.isSome) = true) (hl : keys.length = values.length) (h0 : keys ≠ [])
    (h15 : keys.length ≤ 15) : PE X (.Dict keys values pos) (sem g W (eDct trs)) := by
  refine PE.of (pe_disp h hall hl h0 h15) fun σ H Q ⟨m, env, s, ag, q⟩ => ?_
  intro p hp
  have ag0 : Ag g m σ (upd H p (.dK [])) env s := ag.go (Le.aside ag.hold hp) (ag.hold.aside hp)
  have l0 : Le m H m (upd H p (.dK [])) := Le.aside ag.hold hp
  refine pairs_ok trs ag0 (R.post_mono (R.post_bind q) (fun _ _ z => z) fun _ _ _ z => WX.le l0 z) fun ps s1 vs m1 H1 q1 l1 a1 r1 => ?_
  have hp1 : p ∉ m := ag.hold.free hp
  have e1 : H1 p = some (.dK []) := l1.rest p _ hp1 upd_same
  have hp2 : p ∉ m1 := l1.nin hp1 upd_same
  refine ⟨e1, ?_⟩
  split at q1
  · rename_i kvs hk
    by_cases c : kvs.length ≤ 15
    · rw [if_pos c] at q1
      obtain ⟨es, rfl, t⟩ := keyed_rep r1 hk
      refine ⟨es, rfl, by rw [ent_length t]; exact c, ?_⟩
      have n1 : ∀ xs : List V, HO.dK [] ≠ .tup xs := fun _ z => by cases z
      have n2 : ∀ (ob : Obj) (v : HO), HO.dK [] ≠ .frz ob v := fun _ _ z => by cases z
      have n3 : ∀ y : Addr, HO.dK [] ≠ .own y := fun _ z => by cases z
      refine q1 (.ref p) (m1 ++ [p]) _ (Le.join hp l1 hp2) (a1.hold.join hp2 e1 n1 n2 n3 ⟨_, upd_same, (merge_rep t .nil).lr (Lr.join hp2 e1 n1 n2)⟩) (.ref (by rw [← a1.hold.len, List.getElem?_append_right (Nat.le_refl _), Nat.sub_self]; rfl))
    · rw [if_neg c] at q1; exact q1.elim
  · exact q1.elim
end
end Mi

set_option Elab.async false
set_option linter.all false
set_option maxRecDepth 100000
namespace Mi
open PySem PySem.Spec PyProof.Rows L2

def wipeE (env : Env) : List Nat → Env
  | [] => env
  | v :: vs => (wipeE env vs).set v none
theorem wipe_get (σ : L2.St) (i : Nat) : ∀ vs : List Nat, (wipe σ vs)[i]? = if i ∈ vs then σ[i]?.map (fun _ => none) else σ[i]?
  | [] => by simp [wipe]
  | v :: vs => by
    unfold wipe
    by_cases c : v = i
    · subst c
      by_cases h : v < σ.length
      · rw [List.getElem?_set_self (by rw [wipe_length]; exact h), if_pos List.mem_cons_self, List.getElem?_eq_getElem h]; rfl
      · rw [List.getElem?_eq_none (by rw [List.length_set, wipe_length]; omega), if_pos List.mem_cons_self, List.getElem?_eq_none (by omega)]; rfl
    · rw [List.getElem?_set_ne c, wipe_get σ i vs]
      have : i ∈ v :: vs ↔ i ∈ vs := ⟨fun h => (List.mem_cons.mp h).elim (fun z => absurd z.symm c) id, fun h => List.mem_cons_of_mem _ h⟩
      by_cases k : i ∈ vs
      · rw [if_pos k, if_pos (this.mpr k)]
      · rw [if_neg k, if_neg (fun z => k (this.mp z))]
theorem wipe_idem (σ : L2.St) (vs : List Nat) : wipe (wipe σ vs) vs = wipe σ vs := by
  apply List.ext_getElem?
  intro i
  rw [wipe_get, wipe_get]
  split
  · cases σ[i]? <;> rfl
  · rfl
theorem wipe_set {σ : L2.St} {vs : List Nat} {i : Nat} {x : Option V} (h : i ∈ vs) : wipe (σ.set i x) vs = wipe σ vs := by
  apply List.ext_getElem?
  intro j
  rw [wipe_get, wipe_get]
  by_cases c : i = j
  · subst c
    rw [if_pos h, if_pos h]
    by_cases k : i < σ.length
    · rw [List.getElem?_set_self k, List.getElem?_eq_getElem k]; rfl
    · rw [List.getElem?_eq_none (by rw [List.length_set]; omega), List.getElem?_eq_none (by omega)]
  · rw [List.getElem?_set_ne c]
theorem wipeE_length (env : Env) : ∀ vs, (wipeE env vs).length = env.length
  | [] => rfl
  | v :: vs => by unfold wipeE; rw [List.length_set, wipeE_length env vs]
theorem wipeE_some {env : Env} {i : Nat} {d : D} : ∀ {vs : List Nat}, (wipeE env vs)[i]? = some (some d) → env[i]? = some (some d) ∧ i ∉ vs
  | [], h => ⟨h, by simp⟩
  | v :: vs, h => by
    unfold wipeE at h
    by_cases hi : v = i
    · subst hi
      by_cases hv : v < (wipeE env vs).length
      · rw [List.getElem?_set_self hv] at h; cases h
      · rw [List.getElem?_eq_none (by simpa using hv)] at h; cases h
    · rw [List.getElem?_set_ne hi] at h
      obtain ⟨h1, h2⟩ := wipeE_some h
      exact ⟨h1, by simp only [List.mem_cons, not_or]; exact ⟨fun e => hi e.symm, h2⟩⟩
theorem Ag.wipe {g : G} {m : List Addr} {σ : L2.St} {H : Hp} {env : Env} {s : S} (a : Ag g m σ H env s) (vs : List Nat) : Ag g m (L2.wipe σ vs) H (wipeE env vs) s := by
  refine ⟨a.hold, by rw [wipeE_length, wipe_length]; exact a.len, fun i d h => ?_⟩
  obtain ⟨h1, h2⟩ := wipeE_some h
  obtain ⟨v, e, r⟩ := a.val i d h1
  exact ⟨v, by rw [wipe_get, if_neg h2]; exact e, r⟩
def T.vars : T → List Nat
  | .n i => [i]
  | .t is => is
section
variable {X : Cx} {g : G} {W : XK}
theorem setAll_ok2 {m : List Addr} {H : Hp} {s : S} {vs0 : List Nat} {Q : L2.St → Hp → Prop} : ∀ {is : List Nat} {ds : List D} {vs : List V} {env : Env} {σ : L2.St}, ds.length = is.length → Reps g m H vs ds → Ag g m σ H env s → (∀ i ∈ is, i ∈ vs0) →
    (∀ σ', Ag g m σ' H (setAll is ds env) s → wipe σ' vs0 = wipe σ vs0 → Q σ' H) → gNs is vs σ H Q
  | [], [], _, env, σ, _, .nil, a, _, k => ⟨rfl, k σ a rfl⟩
  | i :: is, d :: ds, _, env, σ, h, .cons (v := v) (vs := vs) r t, a, hv, k => ⟨v, vs, rfl, setAll_ok2 (by simpa using h) t (a.set r i) (fun j hj => hv j (List.mem_cons_of_mem _ hj)) fun σ' a' e => k σ' a' (e.trans (wipe_set (hv i List.mem_cons_self)))⟩
  | [], _ :: _, _, _, _, h, _, _, _, _ => by simp at h
  | _ :: _, [], _, _, _, h, _, _, _, _ => by simp at h
theorem asgT_ok2 {t : T} {m : List Addr} {H : Hp} {s : S} {vs0 : List Nat} {Q : L2.St → Hp → Prop} {d : D} {v : V} {env env' : Env} {σ : L2.St} (a : Ag g m σ H env s) (r : Rep g m H v d) (h : asgT t d env = some env') (hv : ∀ i ∈ t.vars, i ∈ vs0)
    (k : ∀ σ', Ag g m σ' H env' s → wipe σ' vs0 = wipe σ vs0 → Q σ' H) : gT g.K t v σ H Q := by
  cases t with
  | n i => cases h; exact k _ (a.set r i) (wipe_set (hv i List.mem_cons_self))
  | t is =>
    cases r with
    | @tup b xs ds z q =>
      have h : (if ds.length = is.length then some (setAll is ds env) else none) = some env' := h
      by_cases c : ds.length = is.length
      · rw [if_pos c] at h; cases h
        exact ⟨b, xs, rfl, z.sq, by rw [q.length]; exact c, setAll_ok2 c q a hv k⟩
      · rw [if_neg c] at h; cases h
    | _ => cases h

/-! an object aside that is written -/
theorem Lr.turn {m : List Addr} {H : Hp} {p : Addr} {x u : HO} (e : H p = some x) (h1 : ∀ xs, x ≠ .tup xs) (h2 : ∀ ob v, x ≠ .frz ob v) : Lr m H m (upd H p u) := by
  refine ⟨List.prefix_refl m, fun a xs h q => ?_, fun a ob w h q => ?_⟩
  · have n : a ≠ p := fun z => by subst z; rw [e] at q; exact h1 xs (Option.some.inj q)
    exact ⟨by rw [upd_ne n]; exact q, h⟩
  · have n : a ≠ p := fun z => by subst z; rw [e] at q; exact h2 ob w (Option.some.inj q)
    exact ⟨by rw [upd_ne n]; exact q, h⟩
theorem Hold.turn {m : List Addr} {s : S} {H : Hp} {p : Addr} {x u : HO} (h : Hold g m s H) (hp : p ∉ m) (e : H p = some x) (h1 : ∀ xs, x ≠ .tup xs) (h2 : ∀ ob v, x ≠ .frz ob v) (h3 : ∀ y, x ≠ .own y) : Hold g m s (upd H p u) := by
  refine ⟨h.len, h.nd, fun q b o' e1 e2 => ?_⟩
  have r := h.obj q b o' e1 e2
  have nb : b ≠ p := fun z => hp (z ▸ List.mem_of_getElem? e1)
  exact r.lr_of (Lr.turn e h1 h2) (upd_ne nb) fun d (q' : _ = some (HO.own b)) => by rw [upd_ne (fun z => by rw [z, e] at q'; exact h3 b (Option.some.inj q'))]; exact q'
theorem Le.turn {m m' : List Addr} {H H' : Hp} {p : Addr} {x u : HO} (l : Le m (upd H p x) m' H') (hp : p ∉ m') : Le m (upd H p u) m' (upd H' p u) := by
  refine ⟨l.pre, fun a o ha e => ?_, fun a ha hn => ?_⟩
  · by_cases c : a = p
    · subst c; rw [upd_same] at e ⊢; exact e
    · rw [upd_ne c] at e ⊢
      exact l.rest a o ha (by rw [upd_ne c]; exact e)
  · have n : a ≠ p := fun z => hp (z ▸ ha)
    have := l.fresh a ha hn
    rw [upd_ne n] at this ⊢
    exact this
theorem upd_self {H : Hp} {p : Addr} {x : HO} (e : H p = some x) : upd H p x = H := by
  funext a
  by_cases c : a = p
  · subst c; rw [upd_same, e]
  · rw [upd_ne c]

/-! ### comprehensions -/
open Classical in
noncomputable def compL (t : T) (vs : List Nat) (c : EB) (e : EX) (ok : S → Prop) (env : Env) : List D → S → R (List D)
  | [], s => if ok s then .ok [] s else .no
  | d :: ds, s => if ok s then (match asgT t d (wipeE env vs) with
    | none => .no
    | some env1 => match c env1 s with
      | .ok true s1 => (match e env1 s1 with
        | .ok y s2 => (match compL t vs c e ok env ds s2 with
          | .ok ys s3 => .ok (y :: ys) s3
          | _ => .no)
        | _ => .no)
      | .ok false s1 => compL t vs c e ok env ds s1
      | _ => .no) else .no
noncomputable def eLc (it : EI) (t : T) (vs : List Nat) (c : EB) (e : EX) : EX := fun env s => (it env s).bind fun w s1 => if w.items.length ≤ 16777216 then
  (match compL t vs c e w.ok env w.items s1 with
  | .ok ys s2 => .ok (.ref s2.length) (s2 ++ [.lst ys])
  | _ => .no) else .no
def yes : EB := fun _ s => .ok true s
theorem c_lc {it : EI} {t : T} {vs : List Nat} {c : EB} {e : EX} {tt : TT} {σ : L2.St} {H : Hp} {Q : VK} (hv : ∀ i ∈ t.vars, i ∈ vs) (htt : ∀ σ H Q, semB g E0 c σ H Q → tt σ H Q) (h : sem g W (eLc it t vs c e) σ H Q) : tLc (semI g W it) (gT g.K t) tt (sem g E0 e) vs σ H Q := by
  obtain ⟨m, env, s, ag, q⟩ := h
  refine semI_k ag (R.post_bind q) fun w s1 J m1 H1 q1 l1 a1 hw => ?_
  by_cases hlen : w.items.length ≤ 16777216
  · rw [if_pos hlen] at q1
    intro D0 hD
    have n1 : ∀ ys xs : List V, HO.lst ys ≠ .tup xs := fun _ _ z => by cases z
    have n2 : ∀ (ys : List V) (ob : Obj) (v : HO), HO.lst ys ≠ .frz ob v := fun _ _ _ z => by cases z
    have n3 : ∀ (ys : List V) (y : Addr), HO.lst ys ≠ .own y := fun _ _ z => by cases z
    have hD1 : D0 ∉ m1 := a1.hold.free hD
    refine ⟨fun i n H' => n = w.items.length - i ∧ i ≤ w.items.length ∧ ∃ m' s' acc accV, Le m1 (upd H1 D0 (.lst accV)) m' H' ∧ Hold g m' s' H' ∧ Reps g m' H' accV acc ∧ acc.length ≤ i ∧
      (match compL t vs c e w.ok env (w.items.drop i) s' with
        | .ok ys s2 => PD g m1 H1 Q (.ref s2.length) (s2 ++ [.lst (acc ++ ys)])
        | _ => False), ⟨w.items.length, by simp, Nat.zero_le _, m1, s1, [], [], Le.refl _ _, a1.hold.aside hD, .nil, Nat.zero_le _, ?_⟩, ?_⟩
    · rw [List.drop_zero]
      split at q1
      · rename_i ys s2 e1
        exact PD.le l1 q1
      · exact q1.elim
    · rintro i n H2 ⟨rfl, hi, m2, s2, acc, accV, l2, h2, r2, hacc, q2⟩
      have hD2 : D0 ∉ m2 := l2.nin hD1 upd_same
      have eD : H2 D0 = some (.lst accV) := l2.rest D0 _ hD1 upd_same
      have l2' : Le m1 H1 m2 H2 := (Le.aside a1.hold hD).trans l2
      have l02 : Le m H m2 H2 := l1.trans l2'
      by_cases hlt : i < w.items.length
      · rw [List.drop_eq_getElem_cons hlt] at q2
        unfold compL at q2
        by_cases hok : w.ok s2
        · rw [if_pos hok] at q2
          have hg := (hw m2 s2 H2 i l2' h2 hok).1 w.items[i] (List.getElem?_eq_getElem hlt)
          refine .inr ⟨hg.1, fun H' => i + 1 ≤ w.items.length ∧ ∃ m' s' acc accV, Le m1 (upd H1 D0 (.lst accV)) m' H' ∧ Hold g m' s' H' ∧ Reps g m' H' accV acc ∧ acc.length ≤ i + 1 ∧
            (match compL t vs c e w.ok env (w.items.drop (i + 1)) s' with
              | .ok ys s2 => PD g m1 H1 Q (.ref s2.length) (s2 ++ [.lst (acc ++ ys)])
              | _ => False), fun H' z => ⟨w.items.length - (i + 1), by omega, rfl, z⟩, fun x H3 hy => ?_⟩
          obtain ⟨l3, h3, r3⟩ := hg.2 x H3 hy
          have a3 : Ag g m2 σ H3 env s2 := (ag.go (l02.trans l3) h3)
          cases e1 : asgT t w.items[i] (wipeE env vs) with
          | none => rw [e1] at q2; exact q2.elim
          | some env3 =>
            rw [e1] at q2
            refine asgT_ok2 (vs0 := vs) (a3.wipe vs) r3 e1 hv fun σ4 a4 ew => ⟨ew.trans (wipe_idem σ vs), htt _ _ _ ?_⟩
            dsimp only at q2
            cases e2 : c env3 s2 with
            | no => rw [e2] at q2; exact q2.elim
            | ex cc x s5 => rw [e2] at q2; exact q2.elim
            | ok b s5 =>
              rw [e2] at q2
              refine ⟨m2, env3, s2, a4, ?_⟩
              rw [e2]
              intro m5 H5 l5 h5
              have l25 : Le m1 (upd H1 D0 (.lst accV)) m5 H5 := l2.trans (l3.trans l5)
              cases b with
              | false =>
                refine iteF ⟨hlt, m5, s5, acc, accV, l25, h5, r2.le (l3.trans l5), by omega, q2⟩
              | true =>
                refine iteT ?_
                dsimp only at q2
                cases e3 : e env3 s5 with
                | no => rw [e3] at q2; exact q2.elim
                | ex cc x s6 => rw [e3] at q2; exact q2.elim
                | ok y s6 =>
                  rw [e3] at q2
                  refine ⟨m5, env3, s5, a4.go l5 h5, ?_⟩
                  rw [e3]
                  intro yv m6 H6 l6 h6 r6
                  have l26 : Le m1 (upd H1 D0 (.lst accV)) m6 H6 := l25.trans l6
                  have hD6 : D0 ∉ m6 := l26.nin hD1 upd_same
                  have eD6 : H6 D0 = some (.lst accV) := l26.rest D0 _ hD1 upd_same
                  have r2' := r2.le (l3.trans (l5.trans l6))
                  refine ⟨accV, eD6, ?_, hlt, m6, s6, acc ++ [y], accV ++ [yv], l26.turn hD6, h6.turn hD6 eD6 (n1 _) (n2 _) (n3 _), (r2'.append (.cons r6 .nil)).lr (Lr.turn eD6 (n1 _) (n2 _)), ?_, ?_⟩
                  · rw [r2.length, sizeLine_eq]
                    show acc.length < 16777216
                    omega
                  · rw [List.length_append, List.length_singleton]; omega
                  · dsimp only at q2
                    cases e4 : compL t vs c e w.ok env (List.drop (i + 1) w.items) s6 with
                    | no => rw [e4] at q2; exact q2.elim
                    | ex cc x s7 => rw [e4] at q2; exact q2.elim
                    | ok ys s7 =>
                      rw [e4] at q2
                      dsimp only at q2 ⊢
                      rw [List.append_assoc]
                      exact q2
        · rw [if_neg hok] at q2; exact q2.elim
      · have e0 : i = w.items.length := by omega
        subst e0
        rw [List.drop_length] at q2
        unfold compL at q2
        by_cases hok : w.ok s2
        · rw [if_pos hok] at q2
          refine .inl ⟨(hw m2 s2 H2 _ l2' h2 hok).2 (Nat.le_refl _), ?_⟩
          dsimp only at q2
          rw [List.append_nil] at q2
          have hj : upd H2 D0 (.lst accV) = H2 := upd_self eD
          have := q2 (.ref D0) (m2 ++ [D0]) (upd H2 D0 (.lst accV)) (Le.join hD l2 hD2) (h2.join hD2 eD (n1 _) (n2 _) (n3 _) ⟨accV, upd_same, r2.lr (Lr.join hD2 eD (n1 _) (n2 _))⟩) (.ref (by rw [← h2.len, List.getElem?_append_right (Nat.le_refl _), Nat.sub_self]; rfl))
          rw [hj] at this
          exact this
        · rw [if_neg hok] at q2; exact q2.elim
  · rw [if_neg hlen] at q1; exact q1.elim
theorem s_lc {ex : Expr} {it : EI} {t : T} {vs : List Nat} {c : EB} {e : EX} (h : PE X ex (tLc (semI g W it) (gT g.K t) (semB g E0 c) (sem g E0 e) vs)) (hv : ∀ i ∈ t.vars, i ∈ vs) : PE X ex (sem g W (eLc it t vs c e)) :=
  PE.of h fun σ H Q q => c_lc hv (fun _ _ _ z => z) q
theorem s_lc0 {ex : Expr} {it : EI} {t : T} {vs : List Nat} {e : EX} (h : PE X ex (tLc (semI g W it) (gT g.K t) tYes (sem g E0 e) vs)) (hv : ∀ i ∈ t.vars, i ∈ vs) : PE X ex (sem g W (eLc it t vs yes e)) :=
  PE.of h fun σ H Q q => c_lc hv (fun σ H Q ⟨m, env, s, ag, q⟩ => q m H (Le.refl _ _) ag.hold) q
theorem c_setLc {st : Stmt} {i : Nat} {it : EI} {t : T} {vs : List Nat} {c : EB} {e : EX} (h : PS X st (tAsg (tLc (semI g W it) (gT g.K t) (semB g E0 c) (sem g E0 e) vs) (gName i))) (hv : ∀ i ∈ t.vars, i ∈ vs) : PS X st (semS g W (sSet i (eLc it t vs c e))) :=
  c_set (PS.of h fun B σ H q => c_lc hv (fun _ _ _ z => z) q)
theorem c_setLc0 {st : Stmt} {i : Nat} {it : EI} {t : T} {vs : List Nat} {e : EX} (h : PS X st (tAsg (tLc (semI g W it) (gT g.K t) tYes (sem g E0 e) vs) (gName i))) (hv : ∀ i ∈ t.vars, i ∈ vs) : PS X st (semS g W (sSet i (eLc it t vs yes e))) :=
  c_set (PS.of h fun B σ H q => c_lc hv (fun σ H Q ⟨m, env, s, ag, q⟩ => q m H (Le.refl _ _) ag.hold) q)
end
end Mi

set_option Elab.async false
set_option linter.all false
set_option maxRecDepth 100000
namespace Mi
open PySem PySem.Spec PyProof.Rows L2

/-! ### a dict comprehension stored in a name (as ps_setLc) -/
section
variable {X : Cx}
theorem ps_setDc {i : Nat} {y : Str} {py : Pos} {kx vx tg iter : Expr} {ifs : List Expr} {scope : Scope} {own : List (Str × Nat)} {pos spos : Pos} {wi : TI} {g : TG} {tt : TT} {tk tv : TE} (hc : X.calm = true) (hN : X.N.Nodup) (hy : X.N[i]? = some y) (hyl : X.env.scope.names.lookup y = some .local)
    (hsw : swapsWith (.DictComp kx vx [⟨tg, iter, ifs, 0⟩] scope pos) (some (.Name y py)) spos.line X.env = pure true) (hi : PI X tg iter wi) (ok : BlkOk X.N X.env.scope scope own)
    (hg : ∀ (s : Shared) (H : Hp) (C : Addr) (cl : List (Str × Addr)) (fp : List Addr), PG (X.blk s H scope (compEnvC scope cl C X.env) fp) tg g) (ht : ∀ (s : Shared) (H : Hp) (C : Addr) (cl : List (Str × Addr)) (fp : List Addr), PTs (X.blk s H scope (compEnvC scope cl C X.env) fp) ifs tt)
    (hk : ∀ (s : Shared) (H : Hp) (C : Addr) (cl : List (Str × Addr)) (fp : List Addr), PE (X.blk s H scope (compEnvC scope cl C X.env) fp) kx tk)
    (he : ∀ (s : Shared) (H : Hp) (C : Addr) (cl : List (Str × Addr)) (fp : List Addr), PE (X.blk s H scope (compEnvC scope cl C X.env) fp) vx tv) (hs : ∀ x, foldedSetIterable iter X.env x = pure x := by intro _; rfl) :
    PS X (.Assign [.Name y py] (.DictComp kx vx [⟨tg, iter, ifs, 0⟩] scope pos) spos) (tAsg (tDc wi g tt tk tv (own.map (·.2))) (gName i)) := by
  refine ⟨fun pins s σ H D I h => ?_⟩
  rw [exec_Assign_Name_used _ _ _ _ hsw]
  refine wpAny_bind (wpAny_standAt (wpAny_bind ?_))
  show wpAny _ X.A (do let _ ← comprehension (.DictComp kx vx [⟨tg, iter, ifs, 0⟩] scope pos) scope X.env (firstIterPos [⟨tg, iter, ifs, 0⟩] pos) newDict false (eval iter X.env) (some (assign (.Name y py) X.env))) _ _ s
  have h : tDc wi g tt tk tv (own.map (·.2)) σ H (fun x H1 => gName i x σ H1 D.nx) := h
  refine wpAny_bind (thn (dc_core (Qf := fun _ s' => SP X pins D .next s') hc hN I hi ok hg ht hk he hs h fun L C s' m H' I' q hn f => ?_) fun _ s' hq => wpAny_pure (wpAny_pure hq))
  show wpAny _ _ (assign (.Name y py) X.env (.ref L)) _ _ _
  refine wpAny_assign_Name (store_ok2 (v := V.ref L) I' hN hy (.inl hyl) rfl (fun s2 I2 ⟨a, sb, ha⟩ => ?_) (.inr hyl))
  obtain ⟨f0, f1, f2, f3, f4, f5⟩ := f
  have haC : C ≠ a := by
    rcases ha with z | z
    · rw [z]; exact f1
    · exact fun e => f4 y a z e.symm
  refine ⟨m, hn.sameBut sb haC, fun h3 sb3 => ?_⟩
  exact ⟨_, H', I2.turned (t' := s2.toks) (fun b o hb e => (sb3.2 b hb).trans e) f0 f1 f3 f4 f5, q⟩
end

open Classical in
noncomputable def compD (t : T) (vs : List Nat) (c : EB) (ek ev : EX) (ok : S → Prop) (env : Env) : List D → List (Key × D) → S → R (List (Key × D))
  | [], acc, s => if ok s then .ok acc s else .no
  | d :: ds, acc, s => if ok s then (match asgT t d (wipeE env vs) with
    | none => .no
    | some env1 => match c env1 s with
      | .ok true s1 => (match ek env1 s1 with
        | .ok k s2 => (match ev env1 s2 with
          | .ok y s3 => (match keyD k with
            | some k' => compD t vs c ek ev ok env ds (putD acc k' y) s3
            | none => .no)
          | _ => .no)
        | _ => .no)
      | .ok false s1 => compD t vs c ek ev ok env ds acc s1
      | _ => .no) else .no
noncomputable def eDc (it : EI) (t : T) (vs : List Nat) (c : EB) (ek ev : EX) : EX := fun env s => (it env s).bind fun w s1 => if w.items.length ≤ 16777216 then
  (match compD t vs c ek ev w.ok env w.items [] s1 with
  | .ok kvs s2 => .ok (.ref s2.length) (s2 ++ [.dct kvs])
  | _ => .no) else .no
theorem putD_length (kvs : List (Key × D)) (k : Key) (v : D) : (putD kvs k v).length ≤ kvs.length + 1 := by
  unfold putD
  split
  · rw [List.length_map]; omega
  · rw [List.length_append]; exact Nat.le_refl _
section
variable {X : Cx} {g : G} {W : XK}
theorem c_dc {it : EI} {t : T} {vs : List Nat} {c : EB} {ek ev : EX} {tt : TT} {σ : L2.St} {H : Hp} {Q : VK} (hv : ∀ i ∈ t.vars, i ∈ vs) (htt : ∀ σ H Q, semB g E0 c σ H Q → tt σ H Q) (h : sem g W (eDc it t vs c ek ev) σ H Q) :
    tDc (semI g W it) (gT g.K t) tt (sem g E0 ek) (sem g E0 ev) vs σ H Q := by
  obtain ⟨m, env, s, ag, q⟩ := h
  refine semI_k ag (R.post_bind q) fun w s1 J m1 H1 q1 l1 a1 hw => ?_
  by_cases hlen : w.items.length ≤ 16777216
  · rw [if_pos hlen] at q1
    intro D0 hD
    have n1 : ∀ (ys : List (Key × V)) (xs : List V), HO.dK ys ≠ .tup xs := fun _ _ z => by cases z
    have n2 : ∀ (ys : List (Key × V)) (ob : Obj) (v : HO), HO.dK ys ≠ .frz ob v := fun _ _ _ z => by cases z
    have n3 : ∀ (ys : List (Key × V)) (y : Addr), HO.dK ys ≠ .own y := fun _ _ z => by cases z
    have hD1 : D0 ∉ m1 := a1.hold.free hD
    refine ⟨fun i n H' => n = w.items.length - i ∧ i ≤ w.items.length ∧ ∃ m' s' acc accV, Le m1 (upd H1 D0 (.dK accV)) m' H' ∧ Hold g m' s' H' ∧ EntK g m' H' accV acc ∧ acc.length ≤ i ∧
      (match compD t vs c ek ev w.ok env (w.items.drop i) acc s' with
        | .ok ys s2 => PD g m1 H1 Q (.ref s2.length) (s2 ++ [.dct ys])
        | _ => False), ⟨w.items.length, by simp, Nat.zero_le _, m1, s1, [], [], Le.refl _ _, a1.hold.aside hD, .nil, Nat.zero_le _, ?_⟩, ?_⟩
    · rw [List.drop_zero]
      split at q1
      · rename_i ys s2 e1
        exact PD.le l1 q1
      · exact q1.elim
    · rintro i n H2 ⟨rfl, hi, m2, s2, acc, accV, l2, h2, r2, hacc, q2⟩
      have hD2 : D0 ∉ m2 := l2.nin hD1 upd_same
      have eD : H2 D0 = some (.dK accV) := l2.rest D0 _ hD1 upd_same
      have l2' : Le m1 H1 m2 H2 := (Le.aside a1.hold hD).trans l2
      have l02 : Le m H m2 H2 := l1.trans l2'
      by_cases hlt : i < w.items.length
      · rw [List.drop_eq_getElem_cons hlt] at q2
        unfold compD at q2
        by_cases hok : w.ok s2
        · rw [if_pos hok] at q2
          have hg := (hw m2 s2 H2 i l2' h2 hok).1 w.items[i] (List.getElem?_eq_getElem hlt)
          refine .inr ⟨hg.1, fun H' => i + 1 ≤ w.items.length ∧ ∃ m' s' acc accV, Le m1 (upd H1 D0 (.dK accV)) m' H' ∧ Hold g m' s' H' ∧ EntK g m' H' accV acc ∧ acc.length ≤ i + 1 ∧
            (match compD t vs c ek ev w.ok env (w.items.drop (i + 1)) acc s' with
              | .ok ys s2 => PD g m1 H1 Q (.ref s2.length) (s2 ++ [.dct ys])
              | _ => False), fun H' z => ⟨w.items.length - (i + 1), by omega, rfl, z⟩, fun x H3 hy => ?_⟩
          obtain ⟨l3, h3, r3⟩ := hg.2 x H3 hy
          have a3 : Ag g m2 σ H3 env s2 := (ag.go (l02.trans l3) h3)
          cases e1 : asgT t w.items[i] (wipeE env vs) with
          | none => rw [e1] at q2; exact q2.elim
          | some env3 =>
            rw [e1] at q2
            refine asgT_ok2 (vs0 := vs) (a3.wipe vs) r3 e1 hv fun σ4 a4 ew => ⟨ew.trans (wipe_idem σ vs), htt _ _ _ ?_⟩
            dsimp only at q2
            cases e2 : c env3 s2 with
            | no => rw [e2] at q2; exact q2.elim
            | ex cc x s5 => rw [e2] at q2; exact q2.elim
            | ok b s5 =>
              rw [e2] at q2
              refine ⟨m2, env3, s2, a4, ?_⟩
              rw [e2]
              intro m5 H5 l5 h5
              have l25 : Le m1 (upd H1 D0 (.dK accV)) m5 H5 := l2.trans (l3.trans l5)
              cases b with
              | false =>
                refine iteF ⟨hlt, m5, s5, acc, accV, l25, h5, r2.le (l3.trans l5), by omega, q2⟩
              | true =>
                refine iteT ?_
                dsimp only at q2
                cases e3 : ek env3 s5 with
                | no => rw [e3] at q2; exact q2.elim
                | ex cc x s6 => rw [e3] at q2; exact q2.elim
                | ok kd s6 =>
                  rw [e3] at q2
                  dsimp only at q2
                  refine ⟨m5, env3, s5, a4.go l5 h5, ?_⟩
                  rw [e3]
                  intro kv m6 H6 l6 h6 r6
                  refine ⟨m6, env3, s6, a4.go (l5.trans l6) h6, ?_⟩
                  cases e4 : ev env3 s6 with
                  | no => rw [e4] at q2; exact q2.elim
                  | ex cc x s6 => rw [e4] at q2; exact q2.elim
                  | ok y s7 =>
                    rw [e4] at q2
                    dsimp only at q2
                    intro yv m7 H7 l7 h7 r7
                    have l27 : Le m1 (upd H1 D0 (.dK accV)) m7 H7 := l25.trans (l6.trans l7)
                    have hD7 : D0 ∉ m7 := l27.nin hD1 upd_same
                    have eD7 : H7 D0 = some (.dK accV) := l27.rest D0 _ hD1 upd_same
                    have r2' := r2.le (l3.trans (l5.trans (l6.trans l7)))
                    cases hk : keyD kd with
                    | none => rw [hk] at q2; exact q2.elim
                    | some k' =>
                      rw [hk] at q2
                      dsimp only at q2
                      have := key_rep (r6.le l7) hk
                      subst this
                      have hl := putD_length acc k' y
                      refine ⟨accV, k', rfl, eD7, ?_, hlt, m7, s7, putD acc k' y, putK accV k' yv, l27.turn hD7, h7.turn hD7 eD7 (n1 _) (n2 _) (n3 _), (put_rep r2' r7).lr (Lr.turn eD7 (n1 _) (n2 _)), by omega, q2⟩
                      rw [ent_length r2', sizeLine_eq]
                      show acc.length < 16777216
                      omega
        · rw [if_neg hok] at q2; exact q2.elim
      · have e0 : i = w.items.length := by omega
        subst e0
        rw [List.drop_length] at q2
        unfold compD at q2
        by_cases hok : w.ok s2
        · rw [if_pos hok] at q2
          refine .inl ⟨(hw m2 s2 H2 _ l2' h2 hok).2 (Nat.le_refl _), ?_⟩
          dsimp only at q2
          have hj : upd H2 D0 (.dK accV) = H2 := upd_self eD
          have := q2 (.ref D0) (m2 ++ [D0]) (upd H2 D0 (.dK accV)) (Le.join hD l2 hD2) (h2.join hD2 eD (n1 _) (n2 _) (n3 _) ⟨accV, upd_same, r2.lr (Lr.join hD2 eD (n1 _) (n2 _))⟩) (.ref (by rw [← h2.len, List.getElem?_append_right (Nat.le_refl _), Nat.sub_self]; rfl))
          rw [hj] at this
          exact this
        · rw [if_neg hok] at q2; exact q2.elim
  · rw [if_neg hlen] at q1; exact q1.elim
theorem s_dc0 {ex : Expr} {it : EI} {t : T} {vs : List Nat} {ek ev : EX} (h : PE X ex (tDc (semI g W it) (gT g.K t) tYes (sem g E0 ek) (sem g E0 ev) vs)) (hv : ∀ i ∈ t.vars, i ∈ vs) : PE X ex (sem g W (eDc it t vs yes ek ev)) :=
  PE.of h fun σ H Q q => c_dc hv (fun σ H Q ⟨m, env, s, ag, q⟩ => q m H (Le.refl _ _) ag.hold) q
theorem c_setDc0 {st : Stmt} {i : Nat} {it : EI} {t : T} {vs : List Nat} {ek ev : EX} (h : PS X st (tAsg (tDc (semI g W it) (gT g.K t) tYes (sem g E0 ek) (sem g E0 ev) vs) (gName i))) (hv : ∀ i ∈ t.vars, i ∈ vs) : PS X st (semS g W (sSet i (eDc it t vs yes ek ev))) :=
  c_set (PS.of h fun B σ H q => c_dc hv (fun σ H Q ⟨m, env, s, ag, q⟩ => q m H (Le.refl _ _) ag.hold) q)

/-! ### {} -/
def eDn : EX := fun _ s => .ok (.ref s.length) (s ++ [.dct []])
theorem s_dn {ex : Expr} (h : PE X ex tDNewK) : PE X ex (sem g W eDn) := by
  refine PE.of h fun σ H Q ⟨m, env, s, ag, q⟩ => ?_
  intro p hp
  exact q (.ref p) (m ++ [p]) _ (Le.new ag.hold hp) (ag.hold.new hp ⟨[], upd_same, .nil⟩) (.ref (by rw [← ag.hold.len, List.getElem?_append_right (Nat.le_refl _), Nat.sub_self]; rfl))

/-! ### isinstance, with a built-in class -/
def tyN (d : D) (s : S) : Option String := match d with
  | .non => some "NoneType"
  | .bl _ => some "bool"
  | .int _ => some "int"
  | .str _ => some "str"
  | .tup _ => some "tuple"
  | .rol _ => some "list"
  | .ref p => match s[p]? with
    | some (.lst _) => some "list"
    | some (.dct _) => some "dict"
    | some (.dtt _) => some "dict"
    | _ => none
  | _ => none
theorem tyX_of {m : List Addr} {H : Hp} {s : S} {v : V} {d : D} {n : String} (hold : Hold g m s H) (r : Rep g m H v d) (h : tyN d s = some n) : TyX g.K H v (.type n) := by
  cases r with
  | non => cases h; exact .base .non
  | bl b => cases h; exact .base (.bl b)
  | int i => cases h; exact .base (.int i)
  | str x => cases h; exact .base (.str x)
  | ty y => cases h
  | glo z => cases h
  | tup z t =>
    cases h
    rcases z with ⟨z, _⟩ | ⟨o, its, n, e, c, _⟩
    · exact .base (.tup z)
    · exact .kTuple e c
  | rol z t =>
    cases h
    rcases z with ⟨⟨o, z⟩, _⟩ | ⟨o, its, n, e, c, _⟩
    · exact .base (.frz z)
    · exact .kList e c
  | @ref a p z =>
    have h : (match s[p]? with
      | some (.lst _) => some "list"
      | some (.dct _) => some "dict"
      | some (.dtt _) => some "dict"
      | _ => none) = some n := h
    split at h
    · rename_i e1; cases h; obtain ⟨ys, e2, t⟩ := hold.obj p a _ z e1; exact .base (.lst e2)
    · rename_i e1; cases h; obtain ⟨ys, e2, t⟩ := hold.obj p a _ z e1; exact .base (.dK e2)
    · rename_i e1; cases h; obtain ⟨ys, e2, t⟩ := hold.obj p a _ z e1; exact .base (.dT e2)
    · cases h
/-- the answers that are asked here -/
def isB (a b : String) : Option Bool :=
  if b = "int" then some (a == "int" || a == "bool") else if b = "bool" then some (a == "bool") else if b = "str" then some (a == "str") else if b = "tuple" then some (a == "tuple") else if b = "list" then some (a == "list") else none
def isiB : OPN := fun ds s => match ds with
  | [d, .ty c] => match tyN d s with
    | some n => (isB n c).map fun b => (.bl b, s)
    | none => none
  | _ => none
theorem tyN_mem {d : D} {s : S} {n : String} (h : tyN d s = some n) : n = "NoneType" ∨ n = "bool" ∨ n = "int" ∨ n = "str" ∨ n = "tuple" ∨ n = "list" ∨ n = "dict" := by
  unfold tyN at h
  split at h <;> first | (cases h; simp; done) | skip
  split at h <;> first | (cases h; simp; done) | skip
  all_goals cases h
theorem isB_ok {d : D} {s : S} {n c : String} {b : Bool} (K : PySem.W.Frag) (hn : tyN d s = some n) (h : isB n c = some b) : PySem.W.kitOne K (.type n) (.type c) = some b := by
  refine kit_ty ?_
  unfold isB at h
  rcases tyN_mem hn with rfl | rfl | rfl | rfl | rfl | rfl | rfl <;>
  · split at h
    · rename_i e; subst e; cases h; decide +kernel
    · split at h
      · rename_i e; subst e; cases h; decide +kernel
      · split at h
        · rename_i e; subst e; cases h; decide +kernel
        · split at h
          · rename_i e; subst e; cases h; decide +kernel
          · split at h
            · rename_i e; subst e; cases h; decide +kernel
            · cases h
theorem on_isi : ON g (rIsi g.K) isiB := by
  intro m H s vs ds x s' Q hold rv he q
  unfold isiB at he
  split at he
  · rename_i d c
    obtain ⟨v, w, rfl, r, r'⟩ := reps2 rv
    cases r'
    split at he
    · rename_i n hn
      cases hb : isB n c with
      | none => rw [hb] at he; cases he
      | some b =>
        rw [hb] at he; cases he
        exact ⟨v, .ty c, .type n, .type c, b, rfl, .ty c, tyX_of hold r hn, isB_ok g.K hn hb, PD.here hold (.bl _) q⟩
    · cases he
  · cases he
theorem s_ty {x : Str} {n : String} {pos : Pos} (hg : Gl X x) (hm : X.mg x = none) (hv : bootBuiltins x = some (.type n)) (hn : x ≠ "__name__" := by decide) (hd : (x == ("__debug__" : Str)) = false := by decide) : PE X (.Name x pos) (sem g W (cn (.ty n))) :=
  s_con (pe_bltn hg hm hv (v := .ty n) rfl hn hd) fun _ _ => .ty n

/-! ### list(range(..)), tuple(range(..)) -/
def eLRg1 (f : EX) : EX := fun env s => (f env s).bind fun d s1 => match d with
  | .int n => if 0 ≤ n ∧ n ≤ 16777216 then .ok (.ref s1.length) (s1 ++ [.lst (rng 0 n.toNat)]) else .no
  | _ => .no
def eTRg1 (f : EX) : EX := fun env s => (f env s).bind fun d s1 => match d with
  | .int n => if 0 ≤ n ∧ n ≤ 16777216 then .ok (.tup (rng 0 n.toNat)) s1 else .no
  | _ => .no
theorem reps_rng {m : List Addr} {H : Hp} {n : Int} : Reps g m H (rgV 0 n) (rng 0 n.toNat) := by
  unfold rgV rng
  rw [Int.sub_zero]
  generalize List.range n.toNat = l
  induction l with
  | nil => exact .nil
  | cons i l ih => exact .cons (.int _) ih
theorem s_lrg1 {ex : Expr} {f : EX} (h : PE X ex (tLstRg (tRg1 (sem g W f)))) : PE X ex (sem g W (eLRg1 f)) := by
  refine PE.of h fun σ H Q ⟨m, env, s, ag, q⟩ => ?_
  refine sem_k ag (R.post_bind q) fun d s1 v m1 H1 q1 l1 a1 r1 => ?_
  cases r1 <;> first | exact q1.elim | skip
  rename_i n
  dsimp only at q1
  by_cases c : 0 ≤ n ∧ n ≤ 16777216
  · rw [if_pos c] at q1
    exact ⟨n, rfl, RgOk.of_le (Int.le_refl 0) c.2 (by omega) c.1, fun p hp => new_lst a1.hold hp reps_rng (PD.le l1 q1)⟩
  · rw [if_neg c] at q1; exact q1.elim
theorem s_trg1 {ex : Expr} {f : EX} (h : PE X ex (tTupRg (tRg1 (sem g W f)))) : PE X ex (sem g W (eTRg1 f)) := by
  refine PE.of h fun σ H Q ⟨m, env, s, ag, q⟩ => ?_
  refine sem_k ag (R.post_bind q) fun d s1 v m1 H1 q1 l1 a1 r1 => ?_
  cases r1 <;> first | exact q1.elim | skip
  rename_i n
  dsimp only at q1
  by_cases c : 0 ≤ n ∧ n ≤ 16777216
  · rw [if_pos c] at q1
    exact ⟨n, rfl, RgOk.of_le (Int.le_refl 0) c.2 (by omega) c.1, fun p hp => new_tup a1.hold hp reps_rng (PD.le l1 q1)⟩
  · rw [if_neg c] at q1; exact q1.elim

/-! ### sorted(d), d a dict with fewer than 64 keys, all ints -/
def keyInts : List (Key × D) → Option (List Int)
  | [] => some []
  | (.inl i, _) :: r => (keyInts r).map (i :: ·)
  | _ => none
def sortDB : OPN := fun ds s => match ds with
  | [d] => match dctAt d s with
    | some kvs => match keyInts kvs with
      | some ns => if ns.length < 64 then some (.ref s.length, s ++ [.lst ((sortI ns).map D.int)]) else none
      | none => none
    | none => none
  | _ => none
theorem keyInts_rep {m : List Addr} {H : Hp} : ∀ {es : List (Key × V)} {kvs : List (Key × D)} {ns : List Int}, EntK g m H es kvs → keyInts kvs = some ns → es.map (·.1) = ns.map Sum.inl
  | _, _, _, .nil, h => by cases h; rfl
  | _, _, _, .cons (a := p) (b := q) (l₂ := kvs) r t, h => by
    obtain ⟨pk, pv⟩ := p
    obtain ⟨qk, qv⟩ := q
    cases qk with
    | inr y => cases h
    | inl i =>
      have h : (keyInts kvs).map (i :: ·) = some _ := h
      cases e : keyInts kvs with
      | none => rw [e] at h; cases h
      | some ns =>
        rw [e] at h; cases h
        rw [List.map_cons, List.map_cons, keyInts_rep t e]
        have : pk = Sum.inl i := r.1.symm
        rw [this]
theorem on_sortD : ON g (fun xs H Q => ∃ (a : Addr) (kvs : List (Key × V)) (ks : List Int), xs = [.ref a] ∧ Rd H a (.dK kvs) ∧ kvs.map (·.1) = ks.map Sum.inl ∧ ks.length < 64 ∧
    ∀ (ys : List Int) (p : Addr), ys.Perm ks → ys.Pairwise (· ≤ ·) → H p = none → Q (.ref p) (upd H p (.lst (ys.map V.int)))) sortDB := by
  intro m H s vs ds x s' Q hold rv he q
  unfold sortDB at he
  split at he
  · rename_i d
    obtain ⟨v, rfl, r⟩ := reps1 rv
    split at he
    · rename_i kvs h1
      obtain ⟨p, a, es, rfl, rfl, z, e2, t⟩ := dct_rep hold r h1
      split at he
      · rename_i ns h2
        by_cases c : ns.length < 64
        · rw [if_pos c] at he; cases he
          refine ⟨a, es, ns, rfl, .inl e2, keyInts_rep t h2, c, fun ys l h1 h2 hl => ?_⟩
          rw [sort_uniq h1 h2]
          exact new_lst hold hl (reps_ints _) q
        · rw [if_neg c] at he; cases he
      · cases he
    · cases he
  · cases he

/-! ### what stands in the written part: tuples, dicts with text keys -/
/-- a tuple of the module -/
theorem s_gt {x : Str} {a : Addr} {ds : List D} {pos : Pos} {o : Obj} {its : Array Value} {n : Nat} {xs : List V} (hg : Gl X x) (hm : X.mg x = some (.ref a)) (e : X.K.lookup a = some o) (hc : o.cls = .type "tuple") (hd : o.data = .seq its n) (hz : its.size ≤ sizeLine) (hv : Vals xs its.toList)
    (r : ∀ m H, Reps ⟨X.K, X.mg⟩ m H xs ds) (hdb : (x == ("__debug__" : Str)) = false := by decide) : PE X (.Name x pos) (sem ⟨X.K, X.mg⟩ W (cn (.tup ds))) :=
  s_con (pe_glob hg hm (v := .ref a) rfl hdb) fun m H => .tup (.inr ⟨o, its, n, e, hc, hd, hz, hv⟩) (r m H)
/-- an int of the module -/
theorem s_gi {x : Str} {i : Int} {t : Tok} {pos : Pos} (hg : Gl X x) (hm : X.mg x = some (.int i t)) (hdb : (x == ("__debug__" : Str)) = false := by decide) : PE X (.Name x pos) (sem g W (cn (.int i))) :=
  s_con (pe_glob hg hm (v := .int i) ⟨t, rfl⟩ hdb) fun m H => .int i
/-- an object of the module as a value -/
theorem s_go {x : Str} {a : Addr} {pos : Pos} (hg : Gl X x) (hm : X.mg x = some (.ref a)) (hdb : (x == ("__debug__" : Str)) = false := by decide) : PE X (.Name x pos) (sem ⟨X.K, X.mg⟩ W (cn (.glo x))) :=
  s_con (pe_glob hg hm (v := .ref a) rfl hdb) fun m H => .glo hm
/-- the dict x of the module: its entries -/
structure GD (K : PySem.W.Frag) (w : World) (mg : Str → Option Value) (x : Str) (kvs : List (Str × D)) : Prop where
  ex : ∃ (a : Addr) (es : Array DictEntry) (n : Nat), mg x = some (.ref a) ∧ KDict K w a es n ∧
    Paired (fun (e : DictEntry) (kv : Str × D) => (∃ t, e.key = .str kv.1 t) ∧ ∃ v, RelV v e.val ∧ ∀ m H, Rep ⟨K, mg⟩ m H v kv.2) es.toList kvs
def lookG (kvs : List (Str × D)) (z : Str) : Option D := (kvs.find? fun kv => decide (kv.1 = z)).map (·.2)
theorem gd_find {K : PySem.W.Frag} {mg : Str → Option Value} {z : Str} : ∀ {es : List DictEntry} {kvs : List (Str × D)}, Paired (fun (e : DictEntry) (kv : Str × D) => (∃ t, e.key = .str kv.1 t) ∧ ∃ v, RelV v e.val ∧ ∀ m H, Rep ⟨K, mg⟩ m H v kv.2) es kvs →
    (lookG kvs z = none ∧ es.find? (fun e => e.key.isStr z) = none) ∨ ∃ e v d, lookG kvs z = some d ∧ es.find? (fun e => e.key.isStr z) = some e ∧ RelV v e.val ∧ ∀ m H, Rep ⟨K, mg⟩ m H v d
  | _, _, .nil => .inl ⟨rfl, rfl⟩
  | _, _, .cons (a := e) (b := kv) (l₁ := es) (l₂ := kvs) r t => by
    obtain ⟨⟨tk, hk⟩, v, rv, rep⟩ := r
    have hs : e.key.isStr z = decide (kv.1 = z) := by
      rw [hk]
      show (kv.1 == z) = _
      exact Bool.beq_eq_decide_eq kv.1 z
    unfold lookG
    rw [List.find?_cons, List.find?_cons, hs]
    by_cases c : kv.1 = z
    · rw [decide_eq_true c]
      exact .inr ⟨e, v, kv.2, rfl, rfl, rv, rep⟩
    · rw [decide_eq_false c]
      exact gd_find t
theorem gd_norefs {K : PySem.W.Frag} {mg : Str → Option Value} : ∀ {es : List DictEntry} {kvs : List (Str × D)}, Paired (fun (e : DictEntry) (kv : Str × D) => (∃ t, e.key = .str kv.1 t) ∧ ∃ v, RelV v e.val ∧ ∀ m H, Rep ⟨K, mg⟩ m H v kv.2) es kvs → es.any (·.refKey) = false
  | _, _, .nil => rfl
  | _, _, .cons (a := e) r t => by
    obtain ⟨⟨tk, hk⟩, _⟩ := r
    rw [List.any_cons, gd_norefs t, Bool.or_false]
    unfold DictEntry.refKey
    rw [hk]
def ginD (x : Str) (kvs : List (Str × D)) (neg : Bool) : OP2 := fun d e s => match d, e with
  | .str z, .glo y => if y = x then some (.bl (if neg then !(lookG kvs z).isSome else (lookG kvs z).isSome), s) else none
  | _, _ => none
def gixD (x : Str) (kvs : List (Str × D)) : OP2 := fun d e s => match d, e with
  | .glo y, .str z => if y = x then (lookG kvs z).map fun v => (v, s) else none
  | _, _ => none
theorem gd_ns {K : PySem.W.Frag} {w : World} {mg : Str → Option Value} {x : Str} {kvs : List (Str × D)} (h : GD K w mg x kvs) (z : Str) : ∃ a es n, mg x = some (.ref a) ∧ KDict K w a es n ∧ ((lookG kvs z = none ∧ PySem.W.nsIn K a z = some none) ∨ ∃ u v d, lookG kvs z = some d ∧ PySem.W.nsIn K a z = some (some u) ∧ RelV v u ∧ ∀ m H, Rep ⟨K, mg⟩ m H v d) := by
  obtain ⟨a, es, n, hm, kd, p⟩ := h.ex
  refine ⟨a, es, n, hm, kd, ?_⟩
  have e : PySem.W.nsIn K a z = match es.toList.find? (fun e => e.key.isStr z) with
      | some e => some (some e.val)
      | none => if es.toList.any (·.refKey) then none else some none := by
    unfold PySem.W.nsIn
    rw [kd.at_]
    rfl
  rcases gd_find (z := z) p with ⟨h1, h2⟩ | ⟨en, v, d, h1, h2, h3, h4⟩
  · rw [h2, gd_norefs p] at e
    exact .inl ⟨h1, e⟩
  · rw [h2] at e
    exact .inr ⟨en.val, v, d, h1, e, h3, h4⟩
theorem s_gin {x : Str} {kvs : List (Str × D)} {a b : Expr} {pos : Pos} {f f' : EX} (h : GD X.K X.w X.mg x kvs) (ha : PE X a (sem ⟨X.K, X.mg⟩ W f)) (hb : PE X b (sem ⟨X.K, X.mg⟩ W f')) (hm : behindInMarks .In b = false := by rfl) :
    PE X (.Compare a [.In] [b] pos) (sem ⟨X.K, X.mg⟩ W (e2 (ginD x kvs false) f f')) := by
  obtain ⟨ad, es, n, hmg, kd, _⟩ := gd_ns h ""
  refine s_cmp (op_in_kd kd) ?_ ha hb hm
  intro m H s v w d e y s' Q hold rv rw1 he q
  unfold ginD at he
  split at he
  · rename_i z y'
    by_cases c : y' = x
    · rw [if_pos c] at he; cases he
      subst c
      cases rv
      cases rw1 with
      | @glo a' _ hm' =>
        obtain ⟨ad', es', n', hmg', kd', h2⟩ := gd_ns h z
        rw [hmg] at hmg'; cases hmg'
        have hm' : X.mg _ = some (.ref a') := hm'
        rw [hmg] at hm'; cases hm'
        rcases h2 with ⟨h3, h4⟩ | ⟨u, v, d, h3, h4, _⟩
        · exact ⟨z, none, rfl, rfl, h4, by rw [h3] at q; exact PD.here hold (.bl _) q⟩
        · exact ⟨z, some u, rfl, rfl, h4, by rw [h3] at q; exact PD.here hold (.bl _) q⟩
    · rw [if_neg c] at he; cases he
  · cases he
theorem ix_kd {d : Addr} {es : Array DictEntry} {n : Nat} (kd : KDict X.K X.w d es n) : IxR X (fun x y H Q => ∃ (z : Str) (u0 : Value) (v0 : V), x = .ref d ∧ y = .str z ∧ PySem.W.nsIn X.K d z = some (some u0) ∧ RelV v0 u0 ∧ Q v0 H) := by
  intro value slice pins s σ H x y v u Q I rx ry q hs
  have ty : s.TypeIs v "dict" := by
    obtain ⟨z, u0, v0, rfl, _⟩ := q
    cases rx
    exact kd_type kd I
  exact tail_any ty slot_dict_getitem.lookup (op_item_kd kd pins s σ H x y v u Q I rx ry q) hs
theorem s_gix {x : Str} {kvs : List (Str × D)} {a b : Expr} {pos : Pos} {f f' : EX} (h : GD X.K X.w X.mg x kvs) (ha : PE X a (sem ⟨X.K, X.mg⟩ W f)) (hb : PE X b (sem ⟨X.K, X.mg⟩ W f')) (hs : PlainIx b) :
    PE X (.Subscript a b pos) (sem ⟨X.K, X.mg⟩ W (e2 (gixD x kvs) f f')) := by
  obtain ⟨ad, es, n, hmg, kd, _⟩ := gd_ns h ""
  refine s_ix (ix_kd kd) ?_ ha hb hs
  intro m H s v w d e y s' Q hold rv rw1 he q
  unfold gixD at he
  split at he
  · rename_i y' z
    by_cases c : y' = x
    · rw [if_pos c] at he
      subst c
      cases rw1
      cases rv with
      | @glo a' _ hm' =>
        obtain ⟨ad', es', n', hmg', kd', h2⟩ := gd_ns h z
        rw [hmg] at hmg'; cases hmg'
        have hm' : X.mg _ = some (.ref a') := hm'
        rw [hmg] at hm'; cases hm'
        rcases h2 with ⟨h3, h4⟩ | ⟨u, v, d, h3, h4, h5, h6⟩
        · rw [h3] at he; cases he
        · rw [h3] at he; cases he
          exact ⟨z, u, v, rfl, rfl, h4, h5, PD.here hold (h6 m H) q⟩
    · rw [if_neg c] at he; cases he
  · cases he
end
end Mi

set_option Elab.async false
set_option linter.all false
set_option maxRecDepth 100000
namespace Mi
open PySem PySem.Spec PyProof.Rows L2

section
variable {X : Cx} {g : G} {W : XK}
def iSeqV (K : PySem.W.Frag) (tl : TE) : TI := fun σ H R => tl σ H fun x H1 => ∃ a, x = .ref a ∧ (((∃ xs, SqL K H1 a xs) ∧ R (Itl K a) H1) ∨ ((∃ xs, SqT K H1 a xs) ∧ R (Itt K a) H1))
theorem pi_seq {tg l : Expr} {tl : TE} (hl : PE X l tl) : PI X tg l (iSeqV X.K tl) := by
  refine ⟨fun pins s σ H R I h => ?_⟩
  refine thn (hl.run pins s σ H _ I h) fun v s1 ⟨x, H1, I1, r1, q1⟩ => ?_
  obtain ⟨a, e, q⟩ := q1
  subst e
  cases r1
  rcases q with ⟨⟨xs, hq⟩, q⟩ | ⟨⟨xs, hq⟩, q⟩
  · obtain ⟨its, rv, p, hz⟩ := I1.list hq
    refine wpAny_pyIter_list p.isList ?_
    refine ⟨s1.heap.objs.size, [s1.heap.objs.size], _, _, H1, rfl, I1.kept (t' := s1.toks) fun b o e => Heap.get?_push_of_some _ e, turn_list a _, ⟨_, Heap.get?_push_size _ rfl, rfl, rfl⟩, fun b hb => ?_, q⟩
    have e : b = s1.heap.objs.size := by simpa using hb
    subst e
    exact I1.fpOk (Nat.le_refl _) (I1.hok.fresh (Nat.le_refl _))
  · obtain ⟨its, rv, p, hz⟩ := I1.tuple hq
    refine wpAny_pyIter_tuple (show s1.heap.IsTuple a its.toArray from p) ?_
    refine ⟨s1.heap.objs.size, [s1.heap.objs.size], _, _, H1, rfl, I1.kept (t' := s1.toks) fun b o e => Heap.get?_push_of_some _ e, turn_tuple a _, ⟨_, Heap.get?_push_size _ rfl, rfl, rfl⟩, fun b hb => ?_, q⟩
    have e : b = s1.heap.objs.size := by simpa using hb
    subst e
    exact I1.fpOk (Nat.le_refl _) (I1.hok.fresh (Nat.le_refl _))
theorem i_seq {tg e : Expr} {f : EX} (h : PE X e (sem ⟨X.K, X.mg⟩ W f)) : PI X tg e (semI ⟨X.K, X.mg⟩ W (iSeq f)) := by
  refine PI.of (pi_seq h) fun σ H Q ⟨m, env, s, ag, q⟩ => ?_
  refine sem_k ag (R.post_bind q) fun d s1 v m1 H1 q1 l1 a1 r1 => ?_
  cases r1 with
  | tup z r => exact ⟨_, rfl, .inr ⟨⟨_, z.sq⟩, q1 _ m1 H1 l1 a1.hold (walks_tup z r)⟩⟩
  | rol z r => exact ⟨_, rfl, .inl ⟨⟨_, z.sq⟩, q1 _ m1 H1 l1 a1.hold (walks_rol z r)⟩⟩
  | @ref a p z =>
    dsimp only at q1
    split at q1
    · rename_i ds e1
      obtain ⟨xs, e2, _⟩ := a1.hold.obj p a _ z e1
      exact ⟨a, rfl, .inl ⟨⟨xs, .of e2⟩, q1 _ m1 H1 l1 a1.hold (walks_ref z)⟩⟩
    · exact q1.elim
  | _ => exact q1.elim
theorem sem_chain {r r' : R2} {o o' : OP2} {f f' f'' : EX} (ho : O2 g r o) (ho' : O2 g r' o') {σ : L2.St} {H : Hp} {Q : VK} (h : sem g W (eCh o o' f f' f'') σ H Q) : tChain r r' (sem g W f) (sem g W f') (sem g W f'') σ H Q := by
  obtain ⟨m, env, s, ag, q⟩ := h
  refine sem_k ag (R.post_bind q) fun d s1 v m1 H1 q1 l1 a1 r1 => ?_
  refine sem_k a1 (R.post_mono (R.post_bind q1) (fun _ _ z => z) fun _ _ _ z => WX.le l1 z) fun e s2 w m2 H2 q2 l2 a2 r2 => ?_
  obtain ⟨k, s3, e1, q3⟩ := R.post_of (R.post_bind q2)
  refine ho m2 H2 s2 v w d e k s3 _ a2.hold (r1.le l2) r2 e1 fun u m3 H3 l3 hold3 r3 => ?_
  have a3 := a2.go l3 hold3
  cases r3 <;> first | exact q3.elim | skip
  rename_i kb
  refine ⟨kb, rfl, ?_⟩
  cases kb with
  | false => exact iteF (q3 _ m3 H3 (l1.trans (l2.trans l3)) hold3 (.bl false))
  | true =>
    refine iteT ?_
    refine sem_k a3 (R.post_mono (R.post_bind q3) (fun _ _ z => z) fun _ _ _ z => WX.le (l1.trans (l2.trans l3)) z) fun c s4 x m4 H4 q4 l4 a4 r4 => ?_
    obtain ⟨k2, s5, e2, q5⟩ := R.post_of (R.post_bind q4)
    refine ho' m4 H4 s4 w x e c k2 s5 _ a4.hold (r2.le (l3.trans l4)) r4 e2 fun u m5 H5 l5 hold5 r5 => ?_
    cases k2 <;> first | exact q5.elim | skip
    cases r5
    exact q5 _ m5 H5 (l1.trans (l2.trans (l3.trans (l4.trans l5)))) hold5 (.bl _)
theorem s_chain {r r' : R2} {o o' : OP2} {a : Expr} {f f' f'' : EX} (h : PE X a (tChain r r' (sem g W f) (sem g W f') (sem g W f''))) (ho : O2 g r o) (ho' : O2 g r' o') : PE X a (sem g W (eCh o o' f f' f'')) :=
  PE.of h fun _ _ _ q => sem_chain ho ho' q
theorem t_chain {r r' : R2} {o o' : OP2} {a : Expr} {f f' f'' : EX} (h : PT X a (tTest (tChain r r' (sem g W f) (sem g W f') (sem g W f'')))) (ho : O2 g r o) (ho' : O2 g r' o') : PT X a (semB g W (tB1 (eCh o o' f f' f''))) := by
  refine PT.of h fun σ H Q ⟨m, env, s, ag, q⟩ => ?_
  refine sem_chain ho ho' (sem_k ag (R.post_bind q) fun d s1 v m1 H1 q1 l1 a1 r1 => ?_)
  cases r1 <;> first | exact q1.elim | skip
  exact ⟨_, rfl, q1 m1 H1 l1 a1.hold⟩
end

/-! ### a def as it stands -/
/-- the def x keeps: it does F, at level L -/
structure Keeps (P : Program) (w : World) (K : PySem.W.Frag) (mg : Str → Option Value) (base : Heap) (L : Nat) (x : Str) (ps : List Str) (F : FN) (f : Addr) (fd : FuncData) : Prop where
  ok : FnOk P w K mg base CX0 L f fd ps (spF ⟨K, mg⟩ ps.length F)
  at_ : mg x = some (.ref f)
  kp : PySem.W.keepIn K (.ref f) = true
  bd : Binds K fd ps []
structure DefAt (K : PySem.W.Frag) (mg : Str → Option Value) (x : Str) (st : Stmt) (ps : List Str) (f : Addr) (fd : FuncData) : Prop where
  fn : Fun K x x st f fd
  at_ : mg x = some (.ref f)
  bd : Binds K fd ps []
section
variable {P : Program} {w : World} {K : PySem.W.Frag} {mg : Str → Option Value} {base : Heap}
theorem keeps_of {x : Str} {st : Stmt} {f : Addr} {fd : FuncData} {N ps : List Str} {k : Nat} {b : ST} (h : DefAt K mg x st ps f fd) (sc : FnScope N ps (defScope st))
    (hb : ∀ (cdv : Value) (A : Around) (outer : List PySem.Env) (s : Shared) (H : Hp) (E : XK), Room k (A.deeper (envOfC x (defScope st) s.heap.objs.size f cdv)) →
      PSs (cxOf CX0 P w K mg base N x (defScope st) f cdv A outer s H E).nox (defBody st) (semS ⟨K, mg⟩ E0 b)) : Keeps P w K mg base (k + 1) x ps (fnB N.length ps.length b) f fd :=
  ⟨fn_ok h.fn sc hb, h.at_, h.fn.kp, h.bd⟩
variable {X : Cx} {W : XK}
theorem s_own {L L' n : Nat} {x : Str} {ps : List Str} {F : FN} {f : Addr} {fd : FuncData} {e : Expr} {es : List Expr} {fa : EA} {p pos : Pos} (h : Keeps X.prog X.w X.K X.mg X.base L x ps F f fd) (hl : L ≤ L') (hr : Room L' X.A) (hn : ps.length = n) (hg : Gl X x)
    (ha : PA X (e :: es) (semA ⟨X.K, X.mg⟩ E0 fa)) (hdb : (x == ("__debug__" : Str)) = false := by decide) (he : starEach (e :: es) X.env = (false, eval e X.env) :: starEach es X.env := by rfl) (hpl : (backTo pos (starEach es X.env)).any (·.1) = false := by rfl) :
    PE X (.Call (.Name x p) (e :: es) [] pos) (sem ⟨X.K, X.mg⟩ E0 (eCall n F fa)) := by
  subst hn
  exact s_call (pe_call (h.ok.mono hl) hr hg h.at_ h.kp h.bd .nil pass0 ha hdb he hpl)
end

/-! ### the law -/
/-- what a law's def is to promise -/
def spL (K : PySem.W.Frag) : Sp := fun vs H Q _ => ∃ (a : Addr) (ns : List Int) (o : Obj), vs = [.ref a] ∧ (H a = some (.frz o (.lst (ns.map V.int))) ∨ ((∀ b, H b = none ∨ ∃ o xs, H b = some (.frz o (.lst xs))) ∧ SqL K H a (ns.map V.int))) ∧ ns.length ≤ 63 ∧ ∀ H', Q (.bl true) H'
theorem law_sp {g : G} {F : FN} (h : ∀ ns : List Int, ns.length ≤ 63 → ∃ s, F [.rol (ns.map D.int)] [] = .ok (.bl true) s) {H : Hp} {a : Addr} {ns : List Int} (hl : ns.length ≤ 63) (ho : Only H) (hS : SqL g.K H a (ns.map V.int)) :
    spF g 1 F [.ref a] H (fun v _ => v = .bl true) fun _ _ _ => False := by
  obtain ⟨s, e⟩ := h ns hl
  have hr : RdL g [] H a (ns.map V.int) := by
    rcases hS with h | h
    · rcases h with h | ⟨o, h⟩
      · rcases ho a with z | ⟨o, xs, z⟩
        · rw [h] at z; cases z
        · rw [h] at z; cases z
      · exact .inl ⟨⟨o, h⟩, by simp⟩
    · exact .inr h
  refine ⟨[], [], [.rol (ns.map D.int)], rfl, ⟨rfl, List.nodup_nil, fun p a o h => by simp at h⟩, .cons (.rol hr (reps_ints ns)) .nil, ?_⟩
  rw [e]
  intro v m' H' l hold r
  cases r
  rfl
end Mi

set_option Elab.async false
set_option linter.all false
set_option maxRecDepth 100000
namespace Mi
open PySem PySem.Spec PyProof.Rows L2
section
variable {X : Cx} {g : G} {W : XK}
def eNeg (f : EX) : EX := fun env s => (f env s).bind fun d s1 => match d with
  | .int i => .ok (.int (-i)) s1
  | _ => .no
theorem s_neg {a : Expr} {f : EX} {pos : Pos} (h : PE X a (sem g W f)) : PE X (.UnaryOp .USub a pos) (sem g W (eNeg f)) := by
  refine PE.of (pe_un un_neg h) fun σ H Q ⟨m, env, s, ag, q⟩ => ?_
  refine sem_k ag (R.post_bind q) fun d s1 v m1 H1 q1 l1 a1 r1 => ?_
  cases r1 <;> first | exact q1.elim | skip
  exact ⟨_, rfl, q1 _ m1 H1 l1 a1.hold (.int _)⟩
theorem sw_trueD {kx vx : Expr} {gs : List Comprehension} {scope : Scope} {pos py : Pos} {y : Str} {l : Nat} {env : PySem.Env} (hk : env.scope.kind = .function) (hy : env.scope.names.lookup y = some .local) (hl : (py.line == pos.line) = true)
    (ha : (scope.names.any fun (n, k) => n == y && (k == .local || k == .cell)) = false) : swapsWith (.DictComp kx vx gs scope pos) (some (.Name y py)) l env = pure true := by
  have ky : env.kindOf y = some .local := hy
  have hb : env.blockKind = .function := by unfold Env.blockKind; rw [hk]; rfl
  unfold swapsWith
  simp only [hb, ky, ha, Expr.pos, hl]
  rfl
/-- a value that is a bool, as a test of a comparison -/
theorem t_gin {x : Str} {kvs : List (Str × D)} {a b : Expr} {pos : Pos} {f f' : EX} (h : GD X.K X.w X.mg x kvs) (ha : PE X a (sem ⟨X.K, X.mg⟩ W f)) (hb : PE X b (sem ⟨X.K, X.mg⟩ W f')) (hm : behindInMarks .In b = false := by rfl) :
    PT X (.Compare a [.In] [b] pos) (semB ⟨X.K, X.mg⟩ W (tB1 (e2 (ginD x kvs false) f f'))) := by
  obtain ⟨ad, es, n, hmg, kd, _⟩ := gd_ns h ""
  refine t_cmp (op_in_kd kd) ?_ ha hb hm
  intro m H s v w d e y s' Q hold rv rw1 he q
  unfold ginD at he
  split at he
  · rename_i z y'
    by_cases c : y' = x
    · rw [if_pos c] at he; cases he
      subst c
      cases rv
      cases rw1 with
      | @glo a' _ hm' =>
        obtain ⟨ad', es', n', hmg', kd', h2⟩ := gd_ns h z
        rw [hmg] at hmg'; cases hmg'
        have hm' : X.mg _ = some (.ref a') := hm'
        rw [hmg] at hm'; cases hm'
        rcases h2 with ⟨h3, h4⟩ | ⟨u, v, d, h3, h4, _⟩
        · exact ⟨z, none, rfl, rfl, h4, by rw [h3] at q; exact PD.here hold (.bl _) q⟩
        · exact ⟨z, some u, rfl, rfl, h4, by rw [h3] at q; exact PD.here hold (.bl _) q⟩
    · rw [if_neg c] at he; cases he
  · cases he
/-- the dict x of the module as a value -/
theorem s_gdn {x : Str} {kvs : List (Str × D)} {pos : Pos} (h : GD X.K X.w X.mg x kvs) (hg : Gl X x) (hdb : (x == ("__debug__" : Str)) = false := by decide) : PE X (.Name x pos) (sem ⟨X.K, X.mg⟩ W (cn (.glo x))) := by
  obtain ⟨a, es, n, hm, _⟩ := h.ex
  exact s_go hg hm hdb
end
end Mi

set_option Elab.async false
set_option linter.all false
set_option maxRecDepth 100000
namespace Mi
open PySem PySem.Spec PyProof.Rows L2
def spLaw (K : PySem.W.Frag) : Sp := fun vs H Q _ => ∃ (a : Addr) (ns : List Int), vs = [.ref a] ∧ ns.length ≤ 63 ∧ Only H ∧ SqL K H a (ns.map V.int) ∧ ∀ H', Q (.bl true) H'
theorem spLaw_sp {K : PySem.W.Frag} {mg : Str → Option Value} {F : FN} (h : ∀ ns : List Int, ns.length ≤ 63 → ∃ s, F [.rol (ns.map D.int)] [] = .ok (.bl true) s) {vs : List V} {H : Hp} {Q : VK} {E : XK} (q : spLaw K vs H Q E) : spF ⟨K, mg⟩ 1 F vs H Q E := by
  obtain ⟨a, ns, rfl, hl, ho, hS, q⟩ := q
  obtain ⟨s, e⟩ := h ns hl
  have hr : RdL ⟨K, mg⟩ [] H a (ns.map V.int) := by
    rcases hS with h | h
    · rcases h with h | ⟨o, h⟩
      · rcases ho a with z | ⟨o, xs, z⟩
        · rw [h] at z; cases z
        · rw [h] at z; cases z
      · exact .inl ⟨⟨o, h⟩, by simp⟩
    · exact .inr h
  refine ⟨[], [], [.rol (ns.map D.int)], rfl, ⟨rfl, List.nodup_nil, fun p a o h => by simp at h⟩, .cons (.rol hr (reps_ints ns)) .nil, ?_⟩
  rw [e]
  intro v m' H' l hold r
  cases r
  exact q H'
end Mi

set_option Elab.async false
set_option linter.all false
set_option maxRecDepth 100000
namespace Mi
open PySem PySem.Spec PyProof.Rows L2

/-! ### what a program does, by what is wanted of it -/
def WF {α : Type} (r : R α) (Q : α → S → Prop) : Prop := ∃ d s', r = .ok d s' ∧ Q d s'
def W (f : EX) (env : Env) (s : S) (Q : D → S → Prop) : Prop := WF (f env s) Q
def WB (f : EB) (env : Env) (s : S) (Q : Bool → S → Prop) : Prop := WF (f env s) Q
def WA (f : EA) (env : Env) (s : S) (Q : List D → S → Prop) : Prop := WF (f env s) Q
def WO (f : EO) (env : Env) (s : S) (Q : Option Int → S → Prop) : Prop := WF (f env s) Q
def WI (f : EI) (env : Env) (s : S) (Q : Wk → S → Prop) : Prop := WF (f env s) Q
def WP {α : Type} (o : Option α) (Q : α → Prop) : Prop := ∃ x, o = some x ∧ Q x
@[irreducible] def WS (f : ST) (env : Env) (s : S) (N : Env → S → Prop) (Rt : D → S → Prop) (B C : Env → S → Prop) : Prop := match f env s with
  | .nx e s => N e s
  | .rt d s => Rt d s
  | .bk e s => B e s
  | .ct e s => C e s
  | _ => False
theorem WF.mono {α : Type} {r : R α} {Q Q' : α → S → Prop} (h : WF r Q) (k : ∀ a s, Q a s → Q' a s) : WF r Q' := let ⟨d, s, e, q⟩ := h; ⟨d, s, e, k d s q⟩
theorem wf_ok {α : Type} {d : α} {s : S} {Q : α → S → Prop} : WF (R.ok d s) Q ↔ Q d s := ⟨fun ⟨_, _, e, q⟩ => by cases e; exact q, fun q => ⟨d, s, rfl, q⟩⟩
theorem wf_no {α : Type} {Q : α → S → Prop} : WF (R.no : R α) Q ↔ False := ⟨fun ⟨_, _, e, _⟩ => (by cases e), fun z => False.elim z⟩
theorem wf_ex {α : Type} {c : Str} {fs : XF} {s : S} {Q : α → S → Prop} : WF (R.ex c fs s : R α) Q ↔ False := ⟨fun ⟨_, _, e, _⟩ => (by cases e), fun z => False.elim z⟩
theorem wf_congr {α : Type} {r : R α} {Q Q' : α → S → Prop} (h : ∀ a s, Q a s ↔ Q' a s) : WF r Q ↔ WF r Q' := ⟨fun ⟨d, s, e, q⟩ => ⟨d, s, e, (h d s).mp q⟩, fun ⟨d, s, e, q⟩ => ⟨d, s, e, (h d s).mpr q⟩⟩
theorem wp_congr {α : Type} {r : Option α} {Q Q' : α → Prop} (h : ∀ a, Q a ↔ Q' a) : WP r Q ↔ WP r Q' := ⟨fun ⟨d, e, q⟩ => ⟨d, e, (h d).mp q⟩, fun ⟨d, e, q⟩ => ⟨d, e, (h d).mpr q⟩⟩
theorem wf_bind {α β : Type} {r : R α} {f : α → S → R β} {Q : β → S → Prop} : WF (r.bind f) Q ↔ WF r fun a s => WF (f a s) Q := by
  cases r with
  | no => exact ⟨fun ⟨_, _, e, _⟩ => (by cases e), fun ⟨_, _, e, _⟩ => by cases e⟩
  | ok a s => rw [wf_ok]; exact Iff.rfl
  | ex c fs s => exact ⟨fun ⟨_, _, e, _⟩ => (by cases e), fun ⟨_, _, e, _⟩ => by cases e⟩
theorem wf_of {α : Type} {o : Option (α × S)} {Q : α → S → Prop} : WF (R.of o) Q ↔ WP o fun p => Q p.1 p.2 := by
  cases o with
  | none => exact ⟨fun ⟨_, _, e, _⟩ => (by cases e), fun ⟨_, e, _⟩ => by cases e⟩
  | some p => exact ⟨fun ⟨_, _, e, q⟩ => by cases e; exact ⟨_, rfl, q⟩, fun ⟨_, e, q⟩ => by cases e; exact ⟨_, _, rfl, q⟩⟩
theorem wp_some {α : Type} {x : α} {Q : α → Prop} : WP (some x) Q ↔ Q x := ⟨fun ⟨_, e, q⟩ => by cases e; exact q, fun q => ⟨x, rfl, q⟩⟩
theorem wp_none {α : Type} {Q : α → Prop} : WP (none : Option α) Q ↔ False := ⟨fun ⟨_, e, _⟩ => (by cases e), fun z => False.elim z⟩
theorem wp_if {α : Type} {c : Prop} [Decidable c] {a : Option α} {Q : α → Prop} : WP (if c then a else none) Q ↔ c ∧ WP a Q := by
  by_cases h : c
  · rw [if_pos h]; exact ⟨fun q => ⟨h, q⟩, fun q => q.2⟩
  · rw [if_neg h, wp_none]; exact ⟨fun z => False.elim z, fun q => absurd q.1 h⟩
theorem wf_if {α : Type} {c : Prop} [Decidable c] {a : R α} {Q : α → S → Prop} : WF (if c then a else .no) Q ↔ c ∧ WF a Q := by
  by_cases h : c
  · rw [if_pos h]; exact ⟨fun q => ⟨h, q⟩, fun q => q.2⟩
  · rw [if_neg h, wf_no]; exact ⟨fun z => False.elim z, fun q => absurd q.1 h⟩
section
variable {f f' f'' : EX} {fa : EA} {fb fb' : EB} {env : Env} {s : S} {Q : D → S → Prop} {QB : Bool → S → Prop} {QA : List D → S → Prop} {QI : Wk → S → Prop} {QO : Option Int → S → Prop}
theorem w_vr {i : Nat} : W (vr i) env s Q ↔ WP (env[i]?) fun o => WP o fun d => Q d s := by
  unfold W vr
  cases h : env[i]? with
  | none => simp [wf_no, wp_none]
  | some o =>
    cases o with
    | none => simp [wf_no, wp_some, wp_none]
    | some d => simp [wf_ok, wp_some]
theorem w_cn {d : D} : W (cn d) env s Q ↔ Q d s := wf_ok
theorem w_e2 {o : OP2} : W (e2 o f f') env s Q ↔ W f env s fun d s1 => W f' env s1 fun e s2 => WP (o d e s2) fun p => Q p.1 p.2 := by
  unfold W e2
  rw [wf_bind]
  simp only [wf_bind, wf_of]
theorem w_tup : W (eTup fa) env s Q ↔ WA fa env s fun ds s1 => ds.length ≤ 16777216 ∧ Q (.tup ds) s1 := by
  unfold W eTup WA
  simp only [wf_bind, wf_if, wf_ok]
theorem w_lst : W (eLst fa) env s Q ↔ WA fa env s fun ds s1 => ds.length ≤ 16777216 ∧ Q (.ref s1.length) (s1 ++ [.lst ds]) := by
  unfold W eLst WA
  simp only [wf_bind, wf_if, wf_ok]
theorem w_aN : WA aN env s QA ↔ QA [] s := wf_ok
theorem w_aC : WA (aC f fa) env s QA ↔ W f env s fun d s1 => WA fa env s1 fun ds s2 => QA (d :: ds) s2 := by
  unfold W WA aC
  simp only [wf_bind, wf_ok]
theorem w_call {n : Nat} {F : FN} : W (eCall n F fa) env s Q ↔ WA fa env s fun ds s1 => ds.length = n ∧ WF (F ds s1) Q := by
  unfold W WA eCall
  simp only [wf_bind, wf_if]
theorem w_B {o : OPN} : W (eB o fa) env s Q ↔ WA fa env s fun ds s1 => WP (o ds s1) fun p => Q p.1 p.2 := by
  unfold W WA eB
  simp only [wf_bind, wf_of]
theorem w_M {T : String} {o : OPM} : W (eM T o f fa) env s Q ↔ W f env s fun d s1 => tyD T d s1 = true ∧ WA fa env s1 fun ds s2 => WP (o d ds s2) fun p => Q p.1 p.2 := by
  unfold W WA eM
  simp only [wf_bind, wf_of, wf_if]
theorem w_oN : WO oN env s QO ↔ QO none s := wf_ok
def asI (d : D) (Q : Int → Prop) : Prop := match d with
  | .int i => Q i
  | _ => False
def asBl (d : D) (Q : Bool → Prop) : Prop := match d with
  | .bl i => Q i
  | _ => False
theorem asI_int {i : Int} {Q : Int → Prop} : asI (.int i) Q ↔ Q i := Iff.rfl
theorem asBl_bl {i : Bool} {Q : Bool → Prop} : asBl (.bl i) Q ↔ Q i := Iff.rfl
theorem w_oS : WO (oS f) env s QO ↔ W f env s fun d s1 => asI d fun i => QO (some i) s1 := by
  unfold W WO oS
  rw [wf_bind]
  refine wf_congr fun d s1 => ?_
  cases d <;> simp [wf_ok, wf_no, asI]
theorem w_sl {l h : EO} : W (eSl f l h) env s Q ↔ W f env s fun d s1 => WO l env s1 fun lo s2 => WO h env s2 fun hi s3 => WP (slD d lo hi s3) fun p => Q p.1 p.2 := by
  unfold W WO eSl
  simp only [wf_bind, wf_of]
theorem w_B1 : WB (tB1 f) env s QB ↔ W f env s fun d s1 => asBl d fun b => QB b s1 := by
  unfold W WB tB1
  rw [wf_bind]
  refine wf_congr fun d s1 => ?_
  cases d <;> simp [asB, wf_ok, wf_no, asBl]
theorem w_Tl : WB (tTl f) env s QB ↔ W f env s fun d s1 => WP (truD d s1) fun b => QB b s1 := by
  unfold W WB tTl
  rw [wf_bind]
  refine wf_congr fun d s1 => ?_
  cases truD d s1 <;> simp [wf_ok, wf_no, wp_some, wp_none]
theorem w_An : WB (tAn fb fb') env s QB ↔ WB fb env s fun b s1 => if b = true then WB fb' env s1 QB else QB false s1 := by
  unfold WB tAn
  rw [wf_bind]
  refine wf_congr fun b s1 => ?_
  cases b <;> simp [wf_ok]
theorem w_Or : WB (tO fb fb') env s QB ↔ WB fb env s fun b s1 => if b = true then QB true s1 else WB fb' env s1 QB := by
  unfold WB tO
  rw [wf_bind]
  refine wf_congr fun b s1 => ?_
  cases b <;> simp [wf_ok]
theorem w_No : WB (tNo fb) env s QB ↔ WB fb env s fun b s1 => QB (!b) s1 := by
  unfold WB tNo
  simp only [wf_bind, wf_ok]
theorem w_eAn : W (eAn f f') env s Q ↔ W f env s fun d s1 => asBl d fun b => if b = true then W f' env s1 Q else Q (.bl false) s1 := by
  unfold W eAn
  rw [wf_bind]
  refine wf_congr fun d s1 => ?_
  cases d <;> first | simp [wf_no, asBl] | skip
  rename_i b
  cases b <;> simp [wf_ok, asBl]
theorem w_eO : W (eO f f') env s Q ↔ W f env s fun d s1 => asBl d fun b => if b = true then Q (.bl true) s1 else W f' env s1 Q := by
  unfold W eO
  rw [wf_bind]
  refine wf_congr fun d s1 => ?_
  cases d <;> first | simp [wf_no, asBl] | skip
  rename_i b
  cases b <;> simp [wf_ok, asBl]
theorem w_eNo : W (eNo f) env s Q ↔ W f env s fun d s1 => asBl d fun b => Q (.bl (!b)) s1 := by
  unfold W eNo
  rw [wf_bind]
  refine wf_congr fun d s1 => ?_
  cases d <;> simp [wf_ok, wf_no, asBl]
theorem w_eNeg : W (eNeg f) env s Q ↔ W f env s fun d s1 => asI d fun i => Q (.int (-i)) s1 := by
  unfold W eNeg
  rw [wf_bind]
  refine wf_congr fun d s1 => ?_
  cases d <;> simp [wf_ok, wf_no, asI]
theorem w_eIf : W (eIf fb f f') env s Q ↔ WB fb env s fun b s1 => if b = true then W f env s1 Q else W f' env s1 Q := by
  unfold W WB eIf
  rw [wf_bind]
  refine wf_congr fun b s1 => ?_
  cases b <;> simp
theorem w_ch {o o' : OP2} : W (eCh o o' f f' f'') env s Q ↔ W f env s fun d s1 => W f' env s1 fun e s2 => WP (o d e s2) fun p => asBl p.1 fun k => if k = true then W f'' env p.2 fun c s4 => WP (o' e c s4) fun p => asBl p.1 fun b => Q (.bl b) p.2 else Q (.bl false) p.2 := by
  unfold W eCh
  rw [wf_bind]
  refine wf_congr fun d s1 => ?_
  rw [wf_bind]
  refine wf_congr fun e s2 => ?_
  rw [wf_bind, wf_of]
  refine wp_congr fun p => ?_
  obtain ⟨k, s3⟩ := p
  cases k <;> first | simp [wf_no, asBl]; done | skip
  rename_i b
  cases b
  · simp [wf_ok, asBl]
  · dsimp only [asBl]
    rw [if_pos rfl, wf_bind]
    refine wf_congr fun c s4 => ?_
    rw [wf_bind, wf_of]
    refine wp_congr fun p => ?_
    obtain ⟨k, s5⟩ := p
    cases k <;> simp [wf_ok, wf_no, asBl]
theorem w_Dn : W eDn env s Q ↔ Q (.ref s.length) (s ++ [.dct []]) := wf_ok
theorem w_iSeq : WI (iSeq f) env s QI ↔ W f env s fun d s1 => match d with
    | .tup ds => QI ⟨ds, fun _ => True⟩ s1
    | .rol ds => QI ⟨ds, fun _ => True⟩ s1
    | .ref p => WP (listItems (.ref p) s1) fun ds => QI ⟨ds, fun s => s[p]? = some (.lst ds)⟩ s1
    | _ => False := by
  unfold W WI iSeq
  rw [wf_bind]
  refine wf_congr fun d s1 => ?_
  cases d with
  | tup ds => exact wf_ok
  | rol ds => exact wf_ok
  | ref p =>
    dsimp only [listItems]
    cases h : s1[p]? with
    | none => simp [wf_no, wp_none]
    | some o => cases o <;> simp [wf_ok, wf_no, wp_none, wp_some]
  | _ => simp [wf_no]
theorem w_iRg1 : WI (iRg1 f) env s QI ↔ W f env s fun d s1 => asI d fun j => (-4611686018427387904 ≤ j ∧ j < 4611686018427387904) ∧ QI ⟨rng 0 j.toNat, fun _ => True⟩ s1 := by
  unfold W WI iRg1
  rw [wf_bind]
  refine wf_congr fun d s1 => ?_
  cases d <;> first | simp [wf_no, asI]; done | skip
  simp only [wf_if, wf_ok, asI]
theorem w_lRg1 : W (eLRg1 f) env s Q ↔ W f env s fun d s1 => asI d fun n => (0 ≤ n ∧ n ≤ 16777216) ∧ Q (.ref s1.length) (s1 ++ [.lst (rng 0 n.toNat)]) := by
  unfold W eLRg1
  rw [wf_bind]
  refine wf_congr fun d s1 => ?_
  cases d <;> first | simp [wf_no, asI]; done | skip
  simp only [wf_if, wf_ok, asI]
theorem w_trg1 : W (eTRg1 f) env s Q ↔ W f env s fun d s1 => asI d fun n => (0 ≤ n ∧ n ≤ 16777216) ∧ Q (.tup (rng 0 n.toNat)) s1 := by
  unfold W eTRg1
  rw [wf_bind]
  refine wf_congr fun d s1 => ?_
  cases d <;> first | simp [wf_no, asI]; done | skip
  simp only [wf_if, wf_ok, asI]
end

/-! ### statements -/
section
variable {a b : ST} {f f' f'' : EX} {fa : EA} {c : EB} {env : Env} {s : S} {N : Env → S → Prop} {Rt : D → S → Prop} {B C : Env → S → Prop}
theorem ws_go {α : Type} {r : R α} {k : α → S → Fl} : (match r.go k with | .nx e s => N e s | .rt d s => Rt d s | .bk e s => B e s | .ct e s => C e s | _ => False) ↔ WF r fun x s => (match k x s with | .nx e s => N e s | .rt d s => Rt d s | .bk e s => B e s | .ct e s => C e s | _ => False) := by
  cases r with
  | no => simp [R.go, wf_no]
  | ok a s => simp [R.go, wf_ok]
  | ex c fs s => simp [R.go, wf_ex]
theorem ws_seq : WS (sSeq a b) env s N Rt B C ↔ WS a env s (fun e s => WS b e s N Rt B C) Rt B C := by
  unfold WS sSeq
  cases a env s <;> rfl
theorem ws_skip : WS sSkip env s N Rt B C ↔ N env s := by unfold WS; exact Iff.rfl
theorem ws_set {i : Nat} : WS (sSet i f) env s N Rt B C ↔ W f env s fun d s1 => N (env.set i (some d)) s1 := by
  unfold WS sSet
  exact ws_go
theorem ws_ex : WS (sEx f) env s N Rt B C ↔ W f env s fun _ s1 => N env s1 := by
  unfold WS sEx
  exact ws_go
theorem ws_ret : WS (sRet f) env s N Rt B C ↔ W f env s Rt := by
  unfold WS sRet
  exact ws_go
theorem ws_retN : WS sRetN env s N Rt B C ↔ Rt .non s := by unfold WS; exact Iff.rfl
theorem ws_bk : WS sBk env s N Rt B C ↔ B env s := by unfold WS; exact Iff.rfl
theorem ws_ct : WS sCt env s N Rt B C ↔ C env s := by unfold WS; exact Iff.rfl
theorem ws_if : WS (sIf c a b) env s N Rt B C ↔ WB c env s fun k s1 => if k = true then WS a env s1 N Rt B C else WS b env s1 N Rt B C := by
  unfold WS sIf WB
  rw [ws_go]
  refine wf_congr fun k s1 => ?_
  cases k <;> rfl
theorem ws_asg {t : T} : WS (sAsg t f) env s N Rt B C ↔ W f env s fun d s1 => WP (asgT t d env) fun e => N e s1 := by
  unfold WS sAsg W
  rw [ws_go]
  refine wf_congr fun d s1 => ?_
  cases asgT t d env <;> simp [wp_some, wp_none]
/-- a dict written at a key -/
def dputD (d k x : D) (s : S) : Option S := match d, dctAt d s, keyD k with
  | .ref p, some kvs, some k => if kvs.length < 16777216 then some (s.set p (.dct (putD kvs k x))) else none
  | _, _, _ => none
theorem dput_ok {d k x : D} {s3 : S} : (match (match d, dctAt d s3, keyD k with
      | .ref p, some kvs, some k => if kvs.length < 16777216 then Fl.nx env (s3.set p (.dct (putD kvs k x))) else .no
      | _, _, _ => .no) with | .nx e s => N e s | .rt d s => Rt d s | .bk e s => B e s | .ct e s => C e s | _ => False) ↔ WP (dputD d k x s3) fun s4 => N env s4 := by
  unfold dputD
  cases h2 : dctAt d s3 with
  | none => cases d <;> simp [wp_none]
  | some kvs =>
    cases h3 : keyD k with
    | none => cases d <;> simp [wp_none]
    | some k' =>
      cases d <;> first | simp [wp_none]; done | skip
      by_cases c : kvs.length < 16777216
      · simp [c, wp_some]
      · simp [c, wp_none]
theorem ws_dput : WS (sDPutD f f' f'') env s N Rt B C ↔ W f env s fun x s1 => W f' env s1 fun d s2 => W f'' env s2 fun k s3 => WP (dputD d k x s3) fun s4 => N env s4 := by
  unfold WS sDPutD W
  rw [ws_go]
  refine wf_congr fun x s1 => ?_
  rw [ws_go]
  refine wf_congr fun d s2 => ?_
  rw [ws_go]
  refine wf_congr fun k s3 => ?_
  exact dput_ok
theorem ws_daug {o : OP2} : WS (sDAugD o f' f'' f) env s N Rt B C ↔ W f' env s fun d s1 => W f'' env s1 fun k s2 => WP (dgetD d k s2) fun old => W f env old.2 fun x s3 => WP (o old.1 x s3) fun y => WP (dputD d k y.1 y.2) fun s4 => N env s4 := by
  unfold WS sDAugD W
  rw [ws_go]
  refine wf_congr fun d s1 => ?_
  rw [ws_go]
  refine wf_congr fun k s2 => ?_
  rw [ws_go, wf_of]
  refine wp_congr fun old => ?_
  rw [ws_go]
  refine wf_congr fun x s3 => ?_
  rw [ws_go, wf_of]
  refine wp_congr fun y => ?_
  exact dput_ok
theorem ws_lput : WS (sLPut f f' f'') env s N Rt B C ↔ W f env s fun x s1 => W f' env s1 fun d s2 => W f'' env s2 fun k s3 => WP (setLD d k x s3) fun s4 => N env s4 := by
  unfold WS sLPut W
  rw [ws_go]
  refine wf_congr fun x s1 => ?_
  rw [ws_go]
  refine wf_congr fun d s2 => ?_
  rw [ws_go]
  refine wf_congr fun k s3 => ?_
  cases setLD d k x s3 <;> simp [wp_some, wp_none]
theorem ws_aug {i : Nat} {o : OP2} : WS (sAug i o f) env s N Rt B C ↔ WP (env[i]?) fun v => WP v fun d => W f env s fun e s1 => WP (o d e s1) fun p => N (env.set i (some p.1)) p.2 := by
  unfold WS sAug W
  cases h : env[i]? with
  | none => simp [wp_none]
  | some v =>
    cases v with
    | none => simp [wp_some, wp_none]
    | some d =>
      simp only [wp_some, ws_go, wf_of]
/-- a def of the program, by its body -/
theorem wf_fn {tot n : Nat} {ds : List D} {Q : D → S → Prop} (h : ds.length = n) : WF (fnB tot n a ds s) Q ↔ WS a (ds.map some ++ List.replicate (tot - n) none) s (fun _ s' => Q .non s') Q (fun _ _ => False) fun _ _ => False := by
  unfold fnB WS
  rw [if_pos h]
  cases a (ds.map some ++ List.replicate (tot - n) none) s <;> simp [wf_ok, wf_no]
theorem WS.mono {N' : Env → S → Prop} {Rt' : D → S → Prop} {B' C' : Env → S → Prop} (h : WS a env s N Rt B C) (h1 : ∀ e s, N e s → N' e s) (h2 : ∀ e s, Rt e s → Rt' e s) (h3 : ∀ e s, B e s → B' e s) (h4 : ∀ e s, C e s → C' e s) : WS a env s N' Rt' B' C' := by
  unfold WS at h ⊢
  cases e : a env s <;> rw [e] at h <;> first | exact h1 _ _ h | exact h2 _ _ h | exact h3 _ _ h | exact h4 _ _ h | exact h
/-- a loop over items by an invariant on what was taken -/
theorem ws_for {t : T} {it : EI} (I : Nat → Env → S → Prop) (w : Wk) (h : WI it env s fun w' s1 => w' = w ∧ w.ok s1 ∧ I 0 env s1)
    (hs : ∀ i d env s, w.items[i]? = some d → I i env s → w.ok s → WP (asgT t d env) fun e1 => WS b e1 s (fun e s => w.ok s ∧ I (i + 1) e s) Rt N (fun e s => w.ok s ∧ I (i + 1) e s))
    (hd : ∀ env s, I w.items.length env s → w.ok s → N env s) : WS (sFor t it b) env s N Rt B C := by
  obtain ⟨w', s1, e1, rfl, hok, h0⟩ := h
  have key : ∀ (n i : Nat) (env : Env) (s : S), n = w'.items.length - i → i ≤ w'.items.length → I i env s → w'.ok s → (match forL t b w'.ok (w'.items.drop i) env s with | .nx e s => N e s | .rt d s => Rt d s | .bk e s => B e s | .ct e s => C e s | _ => False) := by
    intro n
    induction n with
    | zero =>
      intro i env s hn hi hI hok
      have : i = w'.items.length := by omega
      subst this
      rw [List.drop_length]
      unfold forL
      rw [if_pos hok]
      exact hd env s hI hok
    | succ n ih =>
      intro i env s hn hi hI hok
      have hlt : i < w'.items.length := by omega
      rw [List.drop_eq_getElem_cons hlt]
      unfold forL
      rw [if_pos hok]
      obtain ⟨env1, ea, hb⟩ := hs i w'.items[i] env s (List.getElem?_eq_getElem hlt) hI hok
      rw [ea]
      unfold WS at hb
      dsimp only
      cases e2 : b env1 s with
      | no => rw [e2] at hb; exact hb.elim
      | nx e2' s2 => rw [e2] at hb; exact ih (i + 1) e2' s2 (by omega) hlt hb.2 hb.1
      | ct e2' s2 => rw [e2] at hb; exact ih (i + 1) e2' s2 (by omega) hlt hb.2 hb.1
      | bk e2' s2 => rw [e2] at hb; exact hb
      | rt d s2 => rw [e2] at hb; exact hb
      | ex c fs s2 => rw [e2] at hb; exact hb.elim
  unfold WS sFor
  rw [e1]
  have := key w'.items.length 0 env s1 (by omega) (Nat.zero_le _) h0 hok
  rw [List.drop_zero] at this
  exact this
/-- a while by an invariant and a measure -/
theorem ws_while {n : Nat} (I : Nat → Env → S → Prop) (m0 : Nat) (hm : m0 < n) (h0 : I m0 env s)
    (hs : ∀ m env s, I m env s → WB c env s fun k s1 => if k = true then WS b env s1 (fun e s => ∃ m', m' < m ∧ I m' e s) Rt N (fun e s => ∃ m', m' < m ∧ I m' e s) else N env s1) : WS (whl c b n) env s N Rt B C := by
  have key : ∀ (n m : Nat) (env : Env) (s : S), m < n → I m env s → (match whl c b n env s with | .nx e s => N e s | .rt d s => Rt d s | .bk e s => B e s | .ct e s => C e s | _ => False) := by
    intro n
    induction n with
    | zero => intro m env s h; omega
    | succ n ih =>
      intro m env s h hI
      unfold whl
      rw [ws_go]
      refine WF.mono (hs m env s hI) fun k s1 q => ?_
      cases k with
      | false => simpa using q
      | true =>
        rw [if_pos rfl] at q ⊢
        unfold WS at q
        cases e2 : b env s1 with
        | no => rw [e2] at q; exact q.elim
        | nx e2' s2 => rw [e2] at q; obtain ⟨m', h', q⟩ := q; exact ih m' e2' s2 (by omega) q
        | ct e2' s2 => rw [e2] at q; obtain ⟨m', h', q⟩ := q; exact ih m' e2' s2 (by omega) q
        | bk e2' s2 => rw [e2] at q; exact q
        | rt d s2 => rw [e2] at q; exact q
        | ex c fs s2 => rw [e2] at q; exact q.elim
  unfold WS
  exact key n m0 env s hm h0
/-- a comprehension -/
theorem w_lc {t : T} {vs : List Nat} {it : EI} {e : EX} {Q : D → S → Prop} (I : Nat → List D → S → Prop) (w : Wk) (h : WI it env s fun w' s1 => w' = w ∧ w.ok s1 ∧ w.items.length ≤ 16777216 ∧ I 0 [] s1)
    (hs : ∀ i d ys s, w.items[i]? = some d → I i ys s → w.ok s → WP (asgT t d (wipeE env vs)) fun e1 => WB c e1 s fun k s1 => if k = true then W e e1 s1 fun y s2 => w.ok s2 ∧ I (i + 1) (ys ++ [y]) s2 else w.ok s1 ∧ I (i + 1) ys s1)
    (hd : ∀ ys s, I w.items.length ys s → w.ok s → Q (.ref s.length) (s ++ [O.lst ys])) : W (eLc it t vs c e) env s Q := by
  obtain ⟨w', s1, e1, rfl, hok, hlen, h0⟩ := h
  have key : ∀ (n i : Nat) (ys : List D) (s : S), n = w'.items.length - i → i ≤ w'.items.length → I i ys s → w'.ok s → ∃ zs s2, compL t vs c e w'.ok env (w'.items.drop i) s = .ok zs s2 ∧ I w'.items.length (ys ++ zs) s2 ∧ w'.ok s2 := by
    intro n
    induction n with
    | zero =>
      intro i ys s hn hi hI hok
      have : i = w'.items.length := by omega
      subst this
      rw [List.drop_length]
      unfold compL
      rw [if_pos hok]
      exact ⟨[], s, rfl, by rw [List.append_nil]; exact hI, hok⟩
    | succ n ih =>
      intro i ys s hn hi hI hok
      have hlt : i < w'.items.length := by omega
      rw [List.drop_eq_getElem_cons hlt]
      unfold compL
      rw [if_pos hok]
      obtain ⟨env1, ea, k, s3, ec, hb⟩ := hs i w'.items[i] ys s (List.getElem?_eq_getElem hlt) hI hok
      rw [ea]
      dsimp only
      rw [ec]
      cases k with
      | false =>
        rw [if_neg (by decide)] at hb
        exact ih (i + 1) ys s3 (by omega) hlt hb.2 hb.1
      | true =>
        rw [if_pos rfl] at hb
        obtain ⟨y, s4, ey, hok4, hI4⟩ := hb
        dsimp only
        rw [ey]
        obtain ⟨zs, s5, ez, hI5, hok5⟩ := ih (i + 1) (ys ++ [y]) s4 (by omega) hlt hI4 hok4
        dsimp only
        rw [ez]
        exact ⟨y :: zs, s5, rfl, by rw [List.append_assoc] at hI5; exact hI5, hok5⟩
  obtain ⟨zs, s2, ez, hI, hok2⟩ := key w'.items.length 0 [] s1 (by omega) (Nat.zero_le _) h0 hok
  rw [List.drop_zero] at ez
  unfold W eLc
  rw [e1]
  refine ⟨.ref s2.length, s2 ++ [O.lst zs], ?_, hd zs s2 hI hok2⟩
  show (if w'.items.length ≤ 16777216 then (match compL t vs c e w'.ok env w'.items s1 with | .ok ys s2 => R.ok (D.ref s2.length) (s2 ++ [O.lst ys]) | _ => .no) else .no) = _
  rw [if_pos hlen, ez]
/-- a dict comprehension -/
theorem w_dc {t : T} {vs : List Nat} {it : EI} {ek ev : EX} {Q : D → S → Prop} (I : Nat → List (Key × D) → S → Prop) (w : Wk) (h : WI it env s fun w' s1 => w' = w ∧ w.ok s1 ∧ w.items.length ≤ 16777216 ∧ I 0 [] s1)
    (hs : ∀ i d ys s, w.items[i]? = some d → I i ys s → w.ok s → WP (asgT t d (wipeE env vs)) fun e1 => WB c e1 s fun k s1 => if k = true then W ek e1 s1 fun x s2 => W ev e1 s2 fun y s3 => WP (keyD x) fun x' => w.ok s3 ∧ I (i + 1) (putD ys x' y) s3 else w.ok s1 ∧ I (i + 1) ys s1)
    (hd : ∀ ys s, I w.items.length ys s → w.ok s → Q (.ref s.length) (s ++ [.dct ys])) : W (eDc it t vs c ek ev) env s Q := by
  obtain ⟨w', s1, e1, rfl, hok, hlen, h0⟩ := h
  have key : ∀ (n i : Nat) (ys : List (Key × D)) (s : S), n = w'.items.length - i → i ≤ w'.items.length → I i ys s → w'.ok s → ∃ zs s2, compD t vs c ek ev w'.ok env (w'.items.drop i) ys s = .ok zs s2 ∧ I w'.items.length zs s2 ∧ w'.ok s2 := by
    intro n
    induction n with
    | zero =>
      intro i ys s hn hi hI hok
      have : i = w'.items.length := by omega
      subst this
      rw [List.drop_length]
      unfold compD
      rw [if_pos hok]
      exact ⟨ys, s, rfl, hI, hok⟩
    | succ n ih =>
      intro i ys s hn hi hI hok
      have hlt : i < w'.items.length := by omega
      rw [List.drop_eq_getElem_cons hlt]
      unfold compD
      rw [if_pos hok]
      obtain ⟨env1, ea, k, s3, ec, hb⟩ := hs i w'.items[i] ys s (List.getElem?_eq_getElem hlt) hI hok
      rw [ea]
      dsimp only
      rw [ec]
      cases k with
      | false =>
        rw [if_neg (by decide)] at hb
        exact ih (i + 1) ys s3 (by omega) hlt hb.2 hb.1
      | true =>
        rw [if_pos rfl] at hb
        obtain ⟨x, s4, ex, y, s5, ey, x', hx, hok4, hI4⟩ := hb
        dsimp only
        rw [ex]
        dsimp only
        rw [ey]
        dsimp only
        rw [hx]
        exact ih (i + 1) (putD ys x' y) s5 (by omega) hlt hI4 hok4
  obtain ⟨zs, s2, ez, hI, hok2⟩ := key w'.items.length 0 [] s1 (by omega) (Nat.zero_le _) h0 hok
  rw [List.drop_zero] at ez
  unfold W eDc
  rw [e1]
  refine ⟨.ref s2.length, s2 ++ [O.dct zs], ?_, hd zs s2 hI hok2⟩
  show (if w'.items.length ≤ 16777216 then (match compD t vs c ek ev w'.ok env w'.items [] s1 with | .ok ys s2 => R.ok (D.ref s2.length) (s2 ++ [O.dct ys]) | _ => .no) else .no) = _
  rw [if_pos hlen, ez]
end
end Mi

set_option Elab.async false
set_option linter.all false
set_option maxRecDepth 100000
namespace Mi
open PySem PySem.Spec PyProof.Rows L2

section
variable {b : ST} {f : EX} {c : EB} {e : EX} {env : Env} {s : S} {N : Env → S → Prop} {Rt : D → S → Prop} {B C : Env → S → Prop} {t : T} {Q : D → S → Prop} {vs : List Nat}
theorem rng_at {n i : Nat} {d : D} (h : (rng 0 n)[i]? = some d) : i < n ∧ d = .int (i : Int) := by
  obtain ⟨h1, h2⟩ := rng_get h
  exact ⟨h1, by rw [h2, Int.zero_add]⟩
theorem wi_rg {n : Nat} {P : Env → S → Prop} (h : W f env s fun d s1 => ∃ j : Int, d = .int j ∧ 0 ≤ j ∧ j < 4611686018427387904 ∧ j.toNat = n ∧ P env s1) : WI (iRg1 f) env s fun w' s1 => w' = ⟨rng 0 n, fun _ => True⟩ ∧ P env s1 := by
  rw [w_iRg1]
  obtain ⟨d, s1, e1, j, rfl, h1, h2, rfl, q⟩ := h
  exact ⟨.int j, s1, e1, ⟨by omega, h2⟩, rfl, q⟩
theorem ws_forR (I : Nat → Env → S → Prop) (n : Nat) (h : W f env s fun d s1 => ∃ j : Int, d = .int j ∧ 0 ≤ j ∧ j < 4611686018427387904 ∧ j.toNat = n ∧ I 0 env s1)
    (hs : ∀ (i : Nat) env s, i < n → I i env s → WP (asgT t (.int (i : Int)) env) fun e1 => WS b e1 s (I (i + 1)) Rt N (I (i + 1))) (hd : ∀ env s, I n env s → N env s) : WS (sFor t (iRg1 f) b) env s N Rt B C := by
  refine ws_for I ⟨rng 0 n, fun _ => True⟩ ?_ ?_ ?_
  · exact WF.mono (wi_rg (P := fun env s1 => I 0 env s1) h) fun w s1 q => ⟨q.1, True.intro, q.2⟩
  · intro i d env s hi hI _
    obtain ⟨h1, rfl⟩ := rng_at hi
    obtain ⟨e1, he, q⟩ := hs i env s h1 hI
    exact ⟨e1, he, q.mono (fun _ _ z => ⟨True.intro, z⟩) (fun _ _ z => z) (fun _ _ z => z) fun _ _ z => ⟨True.intro, z⟩⟩
  · intro env s hI _
    rw [rng_len] at hI
    exact hd env s hI
theorem ws_forT (I : Nat → Env → S → Prop) (ds : List D) (h : W f env s fun d s1 => (d = .tup ds ∨ d = .rol ds) ∧ I 0 env s1)
    (hs : ∀ (i : Nat) d env s, ds[i]? = some d → I i env s → WP (asgT t d env) fun e1 => WS b e1 s (I (i + 1)) Rt N (I (i + 1))) (hd : ∀ env s, I ds.length env s → N env s) : WS (sFor t (iSeq f) b) env s N Rt B C := by
  refine ws_for I ⟨ds, fun _ => True⟩ ?_ ?_ ?_
  · rw [w_iSeq]
    obtain ⟨d, s1, e1, h1, q⟩ := h
    rcases h1 with rfl | rfl <;> exact ⟨_, s1, e1, rfl, True.intro, q⟩
  · intro i d env s hi hI _
    obtain ⟨e1, he, q⟩ := hs i d env s hi hI
    exact ⟨e1, he, q.mono (fun _ _ z => ⟨True.intro, z⟩) (fun _ _ z => z) (fun _ _ z => z) fun _ _ z => ⟨True.intro, z⟩⟩
  · intro env s hI _
    exact hd env s hI
theorem ws_forL (I : Nat → Env → S → Prop) (p : Nat) (ds : List D) (h : W f env s fun d s1 => d = .ref p ∧ s1[p]? = some (.lst ds) ∧ I 0 env s1)
    (hs : ∀ (i : Nat) d env s, ds[i]? = some d → I i env s → s[p]? = some (.lst ds) → WP (asgT t d env) fun e1 => WS b e1 s (fun e s => s[p]? = some (.lst ds) ∧ I (i + 1) e s) Rt N (fun e s => s[p]? = some (.lst ds) ∧ I (i + 1) e s)) (hd : ∀ env s, I ds.length env s → s[p]? = some (.lst ds) → N env s) : WS (sFor t (iSeq f) b) env s N Rt B C := by
  refine ws_for I ⟨ds, fun s => s[p]? = some (.lst ds)⟩ ?_ ?_ ?_
  · rw [w_iSeq]
    obtain ⟨d, s1, e1, rfl, hp, q⟩ := h
    refine ⟨.ref p, s1, e1, ds, ?_, rfl, hp, q⟩
    simp only [listItems, hp]
  · intro i d env s hi hI hp
    exact hs i d env s hi hI hp
  · intro env s hI hp
    exact hd env s hI hp
/-- comprehensions over ranges, tuples, lists -/
theorem w_lcR (I : Nat → List D → S → Prop) (n : Nat) (h : W f env s fun d s1 => ∃ j : Int, d = .int j ∧ 0 ≤ j ∧ j ≤ 16777216 ∧ j.toNat = n ∧ I 0 [] s1)
    (hs : ∀ (i : Nat) ys s, i < n → I i ys s → WP (asgT t (.int (i : Int)) (wipeE env vs)) fun e1 => WB c e1 s fun k s1 => if k = true then W e e1 s1 fun y s2 => I (i + 1) (ys ++ [y]) s2 else I (i + 1) ys s1)
    (hd : ∀ ys s, I n ys s → Q (.ref s.length) (s ++ [O.lst ys])) : W (eLc (iRg1 f) t vs c e) env s Q := by
  refine w_lc I ⟨rng 0 n, fun _ => True⟩ ?_ ?_ ?_
  · obtain ⟨d, s1, e1, j, rfl, h1, h2, h3, q⟩ := h
    refine WF.mono (wi_rg (n := n) (P := fun _ s1 => I 0 [] s1) ⟨.int j, s1, e1, j, rfl, h1, by omega, h3, q⟩) fun w s1 q => ⟨q.1, True.intro, ?_, q.2⟩
    dsimp only
    rw [rng_len]; omega
  · intro i d ys s hi hI _
    obtain ⟨h1, rfl⟩ := rng_at hi
    obtain ⟨e1, he, k, s1, ek, q⟩ := hs i ys s h1 hI
    refine ⟨e1, he, k, s1, ek, ?_⟩
    cases k with
    | true => rw [if_pos rfl] at q ⊢; exact WF.mono q fun _ _ z => ⟨True.intro, z⟩
    | false => rw [if_neg (by decide)] at q ⊢; exact ⟨True.intro, q⟩
  · intro ys s hI _
    rw [rng_len] at hI
    exact hd ys s hI
theorem w_lcT (I : Nat → List D → S → Prop) (ds : List D) (h : W f env s fun d s1 => (d = .tup ds ∨ d = .rol ds) ∧ ds.length ≤ 16777216 ∧ I 0 [] s1)
    (hs : ∀ (i : Nat) d ys s, ds[i]? = some d → I i ys s → WP (asgT t d (wipeE env vs)) fun e1 => WB c e1 s fun k s1 => if k = true then W e e1 s1 fun y s2 => I (i + 1) (ys ++ [y]) s2 else I (i + 1) ys s1)
    (hd : ∀ ys s, I ds.length ys s → Q (.ref s.length) (s ++ [O.lst ys])) : W (eLc (iSeq f) t vs c e) env s Q := by
  refine w_lc I ⟨ds, fun _ => True⟩ ?_ ?_ ?_
  · rw [w_iSeq]
    obtain ⟨d, s1, e1, h1, hl, q⟩ := h
    rcases h1 with rfl | rfl <;> exact ⟨_, s1, e1, rfl, True.intro, hl, q⟩
  · intro i d ys s hi hI _
    obtain ⟨e1, he, k, s1, ek, q⟩ := hs i d ys s hi hI
    refine ⟨e1, he, k, s1, ek, ?_⟩
    cases k with
    | true => rw [if_pos rfl] at q ⊢; exact WF.mono q fun _ _ z => ⟨True.intro, z⟩
    | false => rw [if_neg (by decide)] at q ⊢; exact ⟨True.intro, q⟩
  · intro ys s hI _
    exact hd ys s hI
theorem w_lcL (I : Nat → List D → S → Prop) (p : Nat) (ds : List D) (h : W f env s fun d s1 => d = .ref p ∧ s1[p]? = some (.lst ds) ∧ ds.length ≤ 16777216 ∧ I 0 [] s1)
    (hs : ∀ (i : Nat) d ys s, ds[i]? = some d → I i ys s → s[p]? = some (.lst ds) → WP (asgT t d (wipeE env vs)) fun e1 => WB c e1 s fun k s1 => if k = true then W e e1 s1 fun y s2 => s2[p]? = some (.lst ds) ∧ I (i + 1) (ys ++ [y]) s2 else s1[p]? = some (.lst ds) ∧ I (i + 1) ys s1)
    (hd : ∀ ys s, I ds.length ys s → s[p]? = some (.lst ds) → Q (.ref s.length) (s ++ [O.lst ys])) : W (eLc (iSeq f) t vs c e) env s Q := by
  refine w_lc I ⟨ds, fun s => s[p]? = some (.lst ds)⟩ ?_ ?_ ?_
  · rw [w_iSeq]
    obtain ⟨d, s1, e1, rfl, hp, hl, q⟩ := h
    refine ⟨.ref p, s1, e1, ds, ?_, rfl, hp, hl, q⟩
    simp only [listItems, hp]
  · intro i d ys s hi hI hp
    exact hs i d ys s hi hI hp
  · intro ys s hI hp
    exact hd ys s hI hp
theorem w_yes {QB : Bool → S → Prop} : WB yes env s QB ↔ QB true s := wf_ok
end

/-! ### small facts that the walk uses -/
theorem opI_int {C : Int → Int → Bool} {k : Int → Int → D} {i j : Int} {s : S} : opI C k (.int i) (.int j) s = if C i j = true then some (k i j, s) else none := rfl
theorem addD_int {i j : Int} {s : S} : addD (.int i) (.int j) s = some (.int (i + j), s) := rfl
theorem addD_str {i j : Str} {s : S} : addD (.str i) (.str j) s = if i.length + j.length ≤ 16777216 then some (.str (i ++ j), s) else none := rfl
theorem addD_tup {i j : List D} {s : S} : addD (.tup i) (.tup j) s = if i.length + j.length ≤ 16777216 then some (.tup (i ++ j), s) else none := rfl
theorem mulD_int {i j : Int} {s : S} : mulD (.int i) (.int j) s = if (-(2 ^ 64) < i ∧ i < 2 ^ 64) ∨ (-(2 ^ 64) < j ∧ j < 2 ^ 64) then some (.int (i * j), s) else none := rfl
theorem intB_int {i : Int} {s : S} : intB [.int i] s = some (.int i, s) := rfl
theorem intB_bl {i : Bool} {s : S} : intB [.bl i] s = some (.int (if i then 1 else 0), s) := rfl
theorem absB_int {i : Int} {s : S} : absB [.int i] s = some (.int (if i < 0 then -i else i), s) := rfl
theorem strB_int {i : Int} {s : S} : strB [.int i] s = if i.natAbs.log2 < 1920 then some (.str (toString i), s) else none := rfl
theorem lenB_rol {ds : List D} {s : S} : lenB [.rol ds] s = some (.int (ds.length : Int), s) := rfl
theorem lenB_tup {ds : List D} {s : S} : lenB [.tup ds] s = some (.int (ds.length : Int), s) := rfl
theorem lenB_ref {p : Nat} {ds : List D} {s : S} (h : s[p]? = some (.lst ds)) : lenB [.ref p] s = some (.int (ds.length : Int), s) := by simp only [lenB, h]
theorem lenB_dct {p : Nat} {kvs : List (Key × D)} {s : S} (h : s[p]? = some (.dct kvs)) : lenB [.ref p] s = some (.int (kvs.length : Int), s) := by simp only [lenB, h]
theorem tupB_ref {p : Nat} {ds : List D} {s : S} (h : s[p]? = some (.lst ds)) : tupB [.ref p] s = some (.tup ds, s) := by simp only [tupB, itemsD, h, Option.map_some]
theorem tupB_tup {ds : List D} {s : S} : tupB [.tup ds] s = some (.tup ds, s) := rfl
theorem lstB_ref {p : Nat} {ds : List D} {s : S} (h : s[p]? = some (.lst ds)) : lstB [.ref p] s = some (.ref s.length, s ++ [.lst ds]) := by simp only [lstB, itemsD, h, Option.map_some]
theorem lstB_tup {ds : List D} {s : S} : lstB [.tup ds] s = some (.ref s.length, s ++ [.lst ds]) := rfl
theorem ixD_rol {ds : List D} {i : Int} {s : S} : ixD (.rol ds) (.int i) s = (atI ds i).map fun x => (x, s) := by
  show (match atI ds i with | some x => some (x, s) | none => none) = _
  cases atI ds i <;> rfl
theorem ixD_tup {ds : List D} {i : Int} {s : S} : ixD (.tup ds) (.int i) s = (atI ds i).map fun x => (x, s) := by
  show (match atI ds i with | some x => some (x, s) | none => none) = _
  cases atI ds i <;> rfl
theorem ixD_ref {p : Nat} {ds : List D} {i : Int} {s : S} (h : s[p]? = some (.lst ds)) : ixD (.ref p) (.int i) s = (atI ds i).map fun x => (x, s) := by
  have e : itemsD (.ref p) s = some ds := by simp only [itemsD, h]
  show (match itemsD (.ref p) s with | some ds => (match atI ds i with | some x => some (x, s) | none => none) | none => none) = _
  rw [e]
  show (match atI ds i with | some x => some (x, s) | none => none) = _
  cases atI ds i <;> rfl
theorem atI_nat' {ds : List D} {i : Nat} {d : D} (h : ds[i]? = some d) : atI ds (i : Int) = some d := atI_nat h
theorem atI0 {a : D} {ds : List D} : atI (a :: ds) 0 = some a := atI_nat (j := 0) rfl
theorem atI1 {a b : D} {ds : List D} : atI (a :: b :: ds) 1 = some b := atI_nat (j := 1) rfl
theorem atI2 {a b c : D} {ds : List D} : atI (a :: b :: c :: ds) 2 = some c := atI_nat (j := 2) rfl
theorem atI3 {a b c d : D} {ds : List D} : atI (a :: b :: c :: d :: ds) 3 = some d := atI_nat (j := 3) rfl
theorem atI4 {a b c d e : D} {ds : List D} : atI (a :: b :: c :: d :: e :: ds) 4 = some e := atI_nat (j := 4) rfl
theorem asgT_n {i : Nat} {d : D} {env : Env} : asgT (.n i) d env = some (env.set i (some d)) := rfl
theorem app_ref {p : Nat} {ds : List D} {x : D} {s : S} (h : s[p]? = some (.lst ds)) : appM (.ref p) [x] s = if ds.length < 16777216 then some (.non, s.set p (.lst (ds ++ [x]))) else none := by simp only [appM, h]
theorem ty_ref {p : Nat} {ds : List D} {s : S} (h : s[p]? = some (.lst ds)) : tyD "list" (.ref p) s = true := by simp only [tyD, h]; rfl
theorem ext_ref {p q : Nat} {xs ys : List D} {s : S} (h : s[p]? = some (.lst xs)) (h' : s[q]? = some (.lst ys)) : extM (.ref p) [.ref q] s = if xs.length + ys.length ≤ 16777216 then some (.non, s.set p (.lst (xs ++ ys))) else none := by simp only [extM, h, h']
theorem bl_t {c : Prop} [Decidable c] : (decide c = true) ↔ c := decide_eq_true_iff
theorem top_get {s : S} {o : O} : (s ++ [o])[s.length]? = some o := by rw [List.getElem?_append_right (Nat.le_refl _), Nat.sub_self]; rfl
theorem top_set {s : S} {o o' : O} : (s ++ [o]).set s.length o' = s ++ [o'] := by
  rw [List.set_append_right _ _ (Nat.le_refl _), Nat.sub_self]; rfl
theorem old_get {s t : S} {p : Nat} {o : O} (h : s[p]? = some o) : (s ++ t)[p]? = some o := by
  rw [List.getElem?_append_left (List.getElem?_eq_some_iff.mp h).1]; exact h
theorem tyQ {s : S} {a : List D} : (tyD "list" (.ref s.length) (s ++ [.lst a]) = true) ↔ True := ⟨fun _ => True.intro, fun _ => ty_ref top_get⟩
theorem appQ {s : S} {a : List D} {x : D} : appM (.ref s.length) [x] (s ++ [.lst a]) = if a.length < 16777216 then some (.non, s ++ [.lst (a ++ [x])]) else none := by rw [app_ref top_get, top_set]
theorem slQ {s : S} {a : List D} {lo hi : Option Int} : slD (.ref s.length) lo hi (s ++ [O.lst a]) = some (.ref (s ++ [O.lst a]).length, (s ++ [O.lst a]) ++ [O.lst (Mi.cutD a lo hi)]) := by simp only [slD, top_get]
theorem slD_tup {a : List D} {lo hi : Option Int} {s : S} : slD (.tup a) lo hi s = some (.tup (Mi.cutD a lo hi), s) := rfl
theorem wp_map {α β : Type} {o : Option α} {f : α → β} {Q : β → Prop} : WP (o.map f) Q ↔ WP o fun x => Q (f x) := by
  cases o with
  | none => simp [wp_none]
  | some x => simp [wp_some]
end Mi

set_option Elab.async false
set_option linter.all false
set_option maxRecDepth 100000
namespace Mi
open PySem PySem.Spec PyProof.Rows L2

/-- a loop's run over items -/
@[irreducible] def FS (t : T) (b : ST) (ok : S → Prop) (ds : List D) (env : Env) (s : S) (N : Env → S → Prop) (Rt : D → S → Prop) (B C : Env → S → Prop) : Prop :=
  match forL t b ok ds env s with
  | .nx e s => N e s
  | .rt d s => Rt d s
  | .bk e s => B e s
  | .ct e s => C e s
  | _ => False
@[irreducible] def CS (t : T) (vs : List Nat) (c : EB) (e : EX) (ok : S → Prop) (env : Env) (ds : List D) (s : S) (Q : D → S → Prop) : Prop :=
  ds.length ≤ 16777216 ∧ WF (compL t vs c e ok env ds s) fun ys s2 => Q (.ref s2.length) (s2 ++ [O.lst ys])
@[irreducible] def DS (t : T) (vs : List Nat) (c : EB) (ek ev : EX) (ok : S → Prop) (env : Env) (ds : List D) (s : S) (Q : D → S → Prop) : Prop :=
  ds.length ≤ 16777216 ∧ WF (compD t vs c ek ev ok env ds [] s) fun ys s2 => Q (.ref s2.length) (s2 ++ [O.dct ys])
/-- what must stay so of the store while d is walked -/
def okD : D → List D → S → Prop
  | .ref p, ds, s => s[p]? = some (.lst ds)
  | _, _, _ => True
def okT : S → Prop := fun _ => True
section
variable {b : ST} {f : EX} {c : EB} {e ek ev : EX} {env : Env} {s : S} {N : Env → S → Prop} {Rt : D → S → Prop} {B C : Env → S → Prop} {t : T} {Q : D → S → Prop} {vs : List Nat}
theorem wi_seq {QI : Wk → S → Prop} : WI (iSeq f) env s QI ↔ W f env s fun d s1 => WP (itemsD d s1) fun ds => QI ⟨ds, okD d ds⟩ s1 := by
  rw [w_iSeq]
  unfold W
  refine wf_congr fun d s1 => ?_
  cases d with
  | tup ds => exact (wp_some (x := ds) (Q := fun zs => QI ⟨zs, okD (.tup ds) zs⟩ s1)).symm
  | rol ds => exact (wp_some (x := ds) (Q := fun zs => QI ⟨zs, okD (.rol ds) zs⟩ s1)).symm
  | ref p =>
    show WP (listItems (.ref p) s1) _ ↔ WP (listItems (.ref p) s1) _
    exact Iff.rfl
  | _ => exact (wp_none (α := List D)).symm
theorem wi_rng {QI : Wk → S → Prop} : WI (iRg1 f) env s QI ↔ W f env s fun d s1 => asI d fun j => (-4611686018427387904 ≤ j ∧ j < 4611686018427387904) ∧ QI ⟨rng 0 j.toNat, okT⟩ s1 := w_iRg1
theorem ws_for_wi {it : EI} : WS (sFor t it b) env s N Rt B C ↔ WI it env s fun w s1 => FS t b w.ok w.items env s1 N Rt B C := by
  unfold WS sFor WI FS
  exact ws_go
theorem ws_forS : WS (sFor t (iSeq f) b) env s N Rt B C ↔ W f env s fun d s1 => WP (itemsD d s1) fun ds => FS t b (okD d ds) ds env s1 N Rt B C := by
  rw [ws_for_wi, wi_seq]
theorem ws_forG : WS (sFor t (iRg1 f) b) env s N Rt B C ↔ W f env s fun d s1 => asI d fun j => (-4611686018427387904 ≤ j ∧ j < 4611686018427387904) ∧ FS t b okT (rng 0 j.toNat) env s1 N Rt B C := by
  rw [ws_for_wi, wi_rng]
theorem w_lc_wi {it : EI} : W (eLc it t vs c e) env s Q ↔ WI it env s fun w s1 => CS t vs c e w.ok env w.items s1 Q := by
  unfold W eLc WI CS
  rw [wf_bind]
  refine wf_congr fun w s1 => ?_
  rw [wf_if]
  refine and_congr Iff.rfl ?_
  cases compL t vs c e w.ok env w.items s1 <;> simp [wf_ok, wf_no, wf_ex]
theorem w_lcS : W (eLc (iSeq f) t vs c e) env s Q ↔ W f env s fun d s1 => WP (itemsD d s1) fun ds => CS t vs c e (okD d ds) env ds s1 Q := by
  rw [w_lc_wi, wi_seq]
theorem w_lcG : W (eLc (iRg1 f) t vs c e) env s Q ↔ W f env s fun d s1 => asI d fun j => (-4611686018427387904 ≤ j ∧ j < 4611686018427387904) ∧ CS t vs c e okT env (rng 0 j.toNat) s1 Q := by
  rw [w_lc_wi, wi_rng]
theorem w_dc_wi {it : EI} : W (eDc it t vs c ek ev) env s Q ↔ WI it env s fun w s1 => DS t vs c ek ev w.ok env w.items s1 Q := by
  unfold W eDc WI DS
  rw [wf_bind]
  refine wf_congr fun w s1 => ?_
  rw [wf_if]
  refine and_congr Iff.rfl ?_
  cases compD t vs c ek ev w.ok env w.items [] s1 <;> simp [wf_ok, wf_no, wf_ex]
theorem w_dcS : W (eDc (iSeq f) t vs c ek ev) env s Q ↔ W f env s fun d s1 => WP (itemsD d s1) fun ds => DS t vs c ek ev (okD d ds) env ds s1 Q := by
  rw [w_dc_wi, wi_seq]
theorem w_dcG : W (eDc (iRg1 f) t vs c ek ev) env s Q ↔ W f env s fun d s1 => asI d fun j => (-4611686018427387904 ≤ j ∧ j < 4611686018427387904) ∧ DS t vs c ek ev okT env (rng 0 j.toNat) s1 Q := by
  rw [w_dc_wi, wi_rng]
/-- by an invariant on what was taken -/
theorem fs_inv {ok : S → Prop} {ds : List D} (I : Nat → Env → S → Prop) (hok : ok s) (h0 : I 0 env s)
    (hs : ∀ i d env s, ds[i]? = some d → I i env s → ok s → WP (asgT t d env) fun e1 => WS b e1 s (fun e s => ok s ∧ I (i + 1) e s) Rt N (fun e s => ok s ∧ I (i + 1) e s))
    (hd : ∀ env s, I ds.length env s → ok s → N env s) : FS t b ok ds env s N Rt B C := by
  have key := ws_for (b := b) (t := t) (it := fun _ s => R.ok (⟨ds, ok⟩ : Wk) s) (env := env) (s := s) (N := N) (Rt := Rt) (B := B) (C := C) I ⟨ds, ok⟩ ⟨_, _, rfl, rfl, hok, h0⟩ hs hd
  rw [ws_for_wi] at key
  obtain ⟨w, s1, e, q⟩ := key
  cases e
  exact q
theorem fs_rng {n : Nat} (I : Nat → Env → S → Prop) (h0 : I 0 env s)
    (hs : ∀ (i : Nat) env s, i < n → I i env s → WP (asgT t (.int (i : Int)) env) fun e1 => WS b e1 s (I (i + 1)) Rt N (I (i + 1)))
    (hd : ∀ env s, I n env s → N env s) : FS t b okT (rng 0 n) env s N Rt B C := by
  refine fs_inv I True.intro h0 ?_ ?_
  · intro i d env s hi hI _
    obtain ⟨h1, rfl⟩ := rng_at hi
    obtain ⟨e1, he, q⟩ := hs i env s h1 hI
    exact ⟨e1, he, q.mono (fun _ _ z => ⟨True.intro, z⟩) (fun _ _ z => z) (fun _ _ z => z) fun _ _ z => ⟨True.intro, z⟩⟩
  · intro env s hI _
    rw [rng_len] at hI
    exact hd env s hI
theorem fs_tup {ds : List D} (I : Nat → Env → S → Prop) (h0 : I 0 env s)
    (hs : ∀ i d env s, ds[i]? = some d → I i env s → WP (asgT t d env) fun e1 => WS b e1 s (I (i + 1)) Rt N (I (i + 1)))
    (hd : ∀ env s, I ds.length env s → N env s) : FS t b (okD (.tup ds) ds) ds env s N Rt B C := by
  refine fs_inv I True.intro h0 ?_ ?_
  · intro i d env s hi hI _
    obtain ⟨e1, he, q⟩ := hs i d env s hi hI
    exact ⟨e1, he, q.mono (fun _ _ z => ⟨True.intro, z⟩) (fun _ _ z => z) (fun _ _ z => z) fun _ _ z => ⟨True.intro, z⟩⟩
  · intro env s hI _
    exact hd env s hI
theorem cs_inv {ok : S → Prop} {ds : List D} (I : Nat → List D → S → Prop) (hok : ok s) (hl : ds.length ≤ 16777216) (h0 : I 0 [] s)
    (hs : ∀ i d ys s, ds[i]? = some d → I i ys s → ok s → WP (asgT t d (wipeE env vs)) fun e1 => WB c e1 s fun k s1 => if k = true then W e e1 s1 fun y s2 => ok s2 ∧ I (i + 1) (ys ++ [y]) s2 else ok s1 ∧ I (i + 1) ys s1)
    (hd : ∀ ys s, I ds.length ys s → ok s → Q (.ref s.length) (s ++ [O.lst ys])) : CS t vs c e ok env ds s Q := by
  have key := w_lc (c := c) (t := t) (vs := vs) (e := e) (it := fun _ s => R.ok (⟨ds, ok⟩ : Wk) s) (env := env) (s := s) (Q := Q) I ⟨ds, ok⟩ ⟨_, _, rfl, rfl, hok, hl, h0⟩ hs hd
  rw [w_lc_wi] at key
  obtain ⟨w, s1, e, q⟩ := key
  cases e
  exact q
theorem cs_rng {n : Nat} (I : Nat → List D → S → Prop) (hl : n ≤ 16777216) (h0 : I 0 [] s)
    (hs : ∀ (i : Nat) ys s, i < n → I i ys s → WP (asgT t (.int (i : Int)) (wipeE env vs)) fun e1 => WB c e1 s fun k s1 => if k = true then W e e1 s1 fun y s2 => I (i + 1) (ys ++ [y]) s2 else I (i + 1) ys s1)
    (hd : ∀ ys s, I n ys s → Q (.ref s.length) (s ++ [O.lst ys])) : CS t vs c e okT env (rng 0 n) s Q := by
  refine cs_inv I True.intro (by rw [rng_len]; exact hl) h0 ?_ ?_
  · intro i d ys s hi hI _
    obtain ⟨h1, rfl⟩ := rng_at hi
    obtain ⟨e1, he, k, s1, ek, q⟩ := hs i ys s h1 hI
    refine ⟨e1, he, k, s1, ek, ?_⟩
    cases k with
    | true => rw [if_pos rfl] at q ⊢; exact WF.mono q fun _ _ z => ⟨True.intro, z⟩
    | false => rw [if_neg (by decide)] at q ⊢; exact ⟨True.intro, q⟩
  · intro ys s hI _
    rw [rng_len] at hI
    exact hd ys s hI
theorem cs_tup {ds : List D} (I : Nat → List D → S → Prop) (hl : ds.length ≤ 16777216) (h0 : I 0 [] s)
    (hs : ∀ i d ys s, ds[i]? = some d → I i ys s → WP (asgT t d (wipeE env vs)) fun e1 => WB c e1 s fun k s1 => if k = true then W e e1 s1 fun y s2 => I (i + 1) (ys ++ [y]) s2 else I (i + 1) ys s1)
    (hd : ∀ ys s, I ds.length ys s → Q (.ref s.length) (s ++ [O.lst ys])) : CS t vs c e (okD (.tup ds) ds) env ds s Q := by
  refine cs_inv I True.intro hl h0 ?_ ?_
  · intro i d ys s hi hI _
    obtain ⟨e1, he, k, s1, ek, q⟩ := hs i d ys s hi hI
    refine ⟨e1, he, k, s1, ek, ?_⟩
    cases k with
    | true => rw [if_pos rfl] at q ⊢; exact WF.mono q fun _ _ z => ⟨True.intro, z⟩
    | false => rw [if_neg (by decide)] at q ⊢; exact ⟨True.intro, q⟩
  · intro ys s hI _
    exact hd ys s hI
theorem ds_inv {ok : S → Prop} {ds : List D} (I : Nat → List (Key × D) → S → Prop) (hok : ok s) (hl : ds.length ≤ 16777216) (h0 : I 0 [] s)
    (hs : ∀ i d ys s, ds[i]? = some d → I i ys s → ok s → WP (asgT t d (wipeE env vs)) fun e1 => WB c e1 s fun k s1 => if k = true then W ek e1 s1 fun x s2 => W ev e1 s2 fun y s3 => WP (keyD x) fun x' => ok s3 ∧ I (i + 1) (putD ys x' y) s3 else ok s1 ∧ I (i + 1) ys s1)
    (hd : ∀ ys s, I ds.length ys s → ok s → Q (.ref s.length) (s ++ [O.dct ys])) : DS t vs c ek ev ok env ds s Q := by
  have key := w_dc (c := c) (t := t) (vs := vs) (ek := ek) (ev := ev) (it := fun _ s => R.ok (⟨ds, ok⟩ : Wk) s) (env := env) (s := s) (Q := Q) I ⟨ds, ok⟩ ⟨_, _, rfl, rfl, hok, hl, h0⟩ hs hd
  rw [w_dc_wi] at key
  obtain ⟨w, s1, e, q⟩ := key
  cases e
  exact q
end
theorem items_tup {ds : List D} {s : S} : itemsD (.tup ds) s = some ds := rfl
theorem items_rol {ds : List D} {s : S} : itemsD (.rol ds) s = some ds := rfl
theorem items_ref {p : Nat} {ds : List D} {s : S} (h : s[p]? = some (.lst ds)) : itemsD (.ref p) s = some ds := by simp only [itemsD, h]
end Mi

set_option Elab.async false
set_option linter.all false
set_option maxRecDepth 100000
namespace Mi
open PySem PySem.Spec PyProof.Rows L2
theorem ofStr_eq (a b : String) : (Str.ofString a = Str.ofString b) = (a = b) := by
  refine propext ⟨fun h => ?_, fun h => by rw [h]⟩
  rw [Str.ofString_eq_toList, Str.ofString_eq_toList] at h
  have h1 : (a.toList.map Char.toNat) = (b.toList.map Char.toNat) := by
    have := congrArg (fun s : Str => s.cps.toList) h
    simpa using this
  have inj : ∀ (x y : List Char), x.map Char.toNat = y.map Char.toNat → x = y := by
    intro x
    induction x with
    | nil => intro y h; cases y <;> simp_all
    | cons c x ih =>
      intro y h
      cases y with
      | nil => simp at h
      | cons d y =>
        rw [List.map_cons, List.map_cons] at h
        injection h with h1 h2
        rw [ih y h2]
        have : c = d := by
          apply Char.ext
          apply UInt32.toNat_inj.mp
          exact h1
        rw [this]
  exact String.toList_inj.mp (inj _ _ h1)
theorem eqD_str {a b : Str} {s : S} : eqD (.str a) (.str b) s = some (.bl (decide (a = b)), s) := rfl
theorem eqD_int {a b : Int} {s : S} : eqD (.int a) (.int b) s = some (.bl (decide (a = b)), s) := rfl
theorem neD_int {a b : Int} {s : S} : neD (.int a) (.int b) s = some (.bl (!decide (a = b)), s) := rfl
theorem eqD_bl {a b : Bool} {s : S} : eqD (.bl a) (.bl b) s = some (.bl (decide (a = b)), s) := rfl
theorem neD_bl {a b : Bool} {s : S} : neD (.bl a) (.bl b) s = some (.bl (!decide (a = b)), s) := rfl
theorem in_tup {neg : Bool} {d : D} {ds : List D} {s : S} : inD neg d (.tup ds) s = if (flatD d && ds.all flatD) = true then some (.bl (if neg then !(ds.any fun y => eqF y d) else ds.any fun y => eqF y d), s) else none := rfl
theorem in_ref {neg : Bool} {d : D} {p : Nat} {ds : List D} {s : S} (h : s[p]? = some (.lst ds)) : inD neg d (.ref p) s = if (flatD d && ds.all flatD) = true then some (.bl (if neg then !(ds.any fun y => eqF y d) else ds.any fun y => eqF y d), s) else none := by
  simp only [inD, itemsD, h]
theorem flatD_str {a : Str} : flatD (.str a) = true := rfl
theorem flatD_int {a : Int} : flatD (.int a) = true := rfl
theorem eqF_str {a b : Str} : eqF (.str a) (.str b) = decide (a = b) := Bool.beq_eq_decide_eq a b
theorem eqF_int {a b : Int} : eqF (.int a) (.int b) = decide (a = b) := Bool.beq_eq_decide_eq a b
theorem flat_ints (L : List Int) : (L.map D.int).all flatD = true := by
  rw [List.all_map]; exact List.all_eq_true.mpr fun _ _ => rfl
theorem any_ints (L : List Int) (a : Int) : ((L.map D.int).any fun y => eqF y (.int a)) = decide (a ∈ L) := by
  induction L with
  | nil => rfl
  | cons x L ih =>
    rw [List.map_cons, List.any_cons, ih, eqF_int]
    by_cases h : x = a
    · subst h; simp
    · have : ¬ a = x := fun z => h z.symm
      simp [h, this]
theorem in_ints {neg : Bool} {p : Nat} {L : List Int} {a : Int} {s : S} (h : s[p]? = some (.lst (L.map D.int))) : inD neg (.int a) (.ref p) s = some (.bl (if neg then !decide (a ∈ L) else decide (a ∈ L)), s) := by
  rw [in_ref h, flat_ints, any_ints]; rfl

/-- all that stood stands -/
def Gr (s s' : S) : Prop := s.length ≤ s'.length ∧ ∀ p, p < s.length → s'[p]? = s[p]?
theorem Gr.refl (s : S) : Gr s s := ⟨Nat.le_refl _, fun _ _ => rfl⟩
theorem Gr.trans {s s1 s2 : S} (a : Gr s s1) (b : Gr s1 s2) : Gr s s2 := ⟨Nat.le_trans a.1 b.1, fun p h => (b.2 p (Nat.lt_of_lt_of_le h a.1)).trans (a.2 p h)⟩
theorem Gr.app (s t : S) : Gr s (s ++ t) := ⟨by rw [List.length_append]; omega, fun p h => List.getElem?_append_left h⟩
theorem Gr.get {s s' : S} (a : Gr s s') {p : Nat} {o : O} (h : s[p]? = some o) : s'[p]? = some o := by rw [a.2 p (List.getElem?_eq_some_iff.mp h).1]; exact h
theorem Gr.set {s s' : S} (a : Gr s s') {p : Nat} {o : O} (h : s.length ≤ p) : Gr s (s'.set p o) :=
  ⟨by rw [List.length_set]; exact a.1, fun q hq => by rw [List.getElem?_set_ne (by omega)]; exact a.2 q hq⟩
end Mi

set_option Elab.async false
set_option linter.all false
set_option maxRecDepth 100000
namespace Mi
open PySem PySem.Spec PyProof.Rows L2
theorem WP.mono {α : Type} {o : Option α} {Q Q' : α → Prop} (h : WP o Q) (k : ∀ a, Q a → Q' a) : WP o Q' := let ⟨x, e, q⟩ := h; ⟨x, e, k x q⟩
section
variable {b : ST} {f : EX} {c : EB} {e ek ev : EX} {env : Env} {s : S} {N : Env → S → Prop} {Rt : D → S → Prop} {B C : Env → S → Prop} {t : T} {Q : D → S → Prop} {vs : List Nat} {ok : S → Prop} {α β : Type}
/-- a for as a fold -/
theorem fs_fold {xs : List α} (en : α → D) (g : β → α → β) (a0 : β) (I : β → Env → S → Prop) (hok : ok s) (h0 : I a0 env s)
    (hs : ∀ a x env s, x ∈ xs → I a env s → ok s → WP (asgT t (en x) env) fun e1 => WS b e1 s (fun e s => ok s ∧ I (g a x) e s) Rt N (fun e s => ok s ∧ I (g a x) e s))
    (hd : ∀ env s, I (xs.foldl g a0) env s → ok s → N env s) : FS t b ok (xs.map en) env s N Rt B C := by
  refine fs_inv (fun i env s => I ((xs.take i).foldl g a0) env s) hok h0 ?_ ?_
  · intro i d env s hi hI hk
    rw [List.getElem?_map] at hi
    cases hx : xs[i]? with
    | none => rw [hx] at hi; cases hi
    | some x =>
      rw [hx] at hi; cases hi
      have e : (xs.take (i + 1)).foldl g a0 = g ((xs.take i).foldl g a0) x := by
        rw [List.take_add_one, hx, Option.toList_some, List.foldl_append]; rfl
      rw [e]
      exact hs _ x env s (List.mem_of_getElem? hx) hI hk
  · intro env s hI hk
    rw [List.length_map, List.take_length] at hI
    exact hd env s hI hk
/-- a comprehension as a filterMap -/
theorem cs_map {xs : List α} (en : α → D) (g : α → Option D) (J : S → Prop) (hok : ok s) (hl : xs.length ≤ 16777216) (h0 : J s)
    (hs : ∀ x s, x ∈ xs → J s → ok s → WP (asgT t (en x) (wipeE env vs)) fun e1 => WB c e1 s fun k s1 => if k = true then W e e1 s1 fun y s2 => ok s2 ∧ J s2 ∧ g x = some y else ok s1 ∧ J s1 ∧ g x = none)
    (hd : ∀ s, J s → ok s → Q (.ref s.length) (s ++ [O.lst (xs.filterMap g)])) : CS t vs c e ok env (xs.map en) s Q := by
  refine cs_inv (fun i ys s => J s ∧ ys = (xs.take i).filterMap g) hok (by rw [List.length_map]; exact hl) ⟨h0, rfl⟩ ?_ ?_
  · rintro i d ys s hi ⟨hJ, rfl⟩ hk
    rw [List.getElem?_map] at hi
    cases hx : xs[i]? with
    | none => rw [hx] at hi; cases hi
    | some x =>
      rw [hx] at hi; cases hi
      refine WP.mono (hs x s (List.mem_of_getElem? hx) hJ hk) fun e1 h => ?_
      refine WF.mono h fun k s1 h => ?_
      have e : (xs.take (i + 1)).filterMap g = (xs.take i).filterMap g ++ (g x).toList := by
        rw [List.take_add_one, hx, Option.toList_some, List.filterMap_append]
        cases hg : g x <;> simp [hg]
      rw [e]
      cases k with
      | true =>
        rw [if_pos rfl] at h ⊢
        refine WF.mono h fun y s2 h => ⟨h.1, h.2.1, by rw [h.2.2]; rfl⟩
      | false =>
        rw [if_neg (by decide)] at h ⊢
        exact ⟨h.1, h.2.1, by rw [h.2.2, Option.toList_none, List.append_nil]⟩
  · rintro ys s ⟨hJ, rfl⟩ hk
    rw [List.length_map, List.take_length]
    exact hd s hJ hk
end
theorem okD_tup {ds : List D} {s : S} : okD (.tup ds) ds s := True.intro
theorem okD_rol {ds : List D} {s : S} : okD (.rol ds) ds s := True.intro
theorem okD_ref {p : Nat} {ds : List D} {s : S} : okD (.ref p) ds s ↔ s[p]? = some (.lst ds) := Iff.rfl
/-- the numbers below n as a list of D -/
theorem rng_map (n : Nat) : rng 0 n = (List.range n).map fun (i : Nat) => D.int (i : Int) := by
  unfold rng
  exact List.map_congr_left fun i _ => by rw [Int.zero_add]
/-- distinct small numbers are few -/
theorem nodup_le : ∀ (n : Nat) (L : List Int), L.Nodup → (∀ x ∈ L, 0 ≤ x ∧ x < n) → L.length ≤ n
  | 0, [], _, _ => Nat.le_refl _
  | 0, x :: _, _, h => by have := h x List.mem_cons_self; omega
  | n + 1, L, hn, h => by
    by_cases c : (n : Int) ∈ L
    · have h1 := nodup_le n (L.erase n) (hn.erase _) fun x hx => by
        have h2 := (hn.mem_erase_iff).mp hx
        have := h x h2.2
        have := h2.1
        omega
      rw [List.length_erase_of_mem c] at h1
      omega
    · have h1 := nodup_le n L hn fun x hx => by
        have := h x hx
        have : x ≠ n := fun z => c (z ▸ hx)
        omega
      omega
end Mi

set_option Elab.async false
set_option linter.all false
set_option maxRecDepth 100000
namespace Mi
open PySem PySem.Spec PyProof.Rows L2
/-! ### comparing sequences of data -/
theorem mapM_map {α β γ : Type} (f : β → Option γ) (en : α → β) (pd : α → γ) (h : ∀ a, f (en a) = some (pd a)) : ∀ xs : List α, (xs.map en).mapM f = some (xs.map pd)
  | [] => rfl
  | x :: xs => by rw [List.map_cons, List.mapM_cons, h, mapM_map f en pd h xs]; rfl
theorem mapM_on {α β γ : Type} (f : β → Option γ) (en : α → β) (pd : α → γ) : ∀ xs : List α, (∀ a ∈ xs, f (en a) = some (pd a)) → (xs.map en).mapM f = some (xs.map pd)
  | [], _ => rfl
  | x :: xs, h => by rw [List.map_cons, List.mapM_cons, h x List.mem_cons_self, mapM_on f en pd xs fun a ha => h a (List.mem_cons_of_mem _ ha)]; rfl
def shAll (k : Nat) (ps : List PyData) : Prop := ∀ p ∈ ps, p.canLay0 = true ∧ p.depth ≤ k
theorem canAll {k : Nat} : ∀ {ps : List PyData}, shAll k ps → PyData.canLayAll0 ps = true
  | [], _ => rfl
  | p :: ps, h => by
    show (PyData.canLay0 p && PyData.canLayAll0 ps) = true
    rw [(h p List.mem_cons_self).1, canAll fun x hx => h x (List.mem_cons_of_mem _ hx)]; rfl
theorem depAll {k : Nat} : ∀ {ps : List PyData}, shAll k ps → PyData.depthAll ps ≤ k
  | [], _ => Nat.zero_le _
  | p :: ps, h => Nat.max_le.mpr ⟨(h p List.mem_cons_self).2, depAll fun x hx => h x (List.mem_cons_of_mem _ hx)⟩
theorem sh_list {k : Nat} {ps : List PyData} (h : shAll k ps) (hk : k < 64) : SeqAt.shaped (.list ps) = true := by
  unfold SeqAt.shaped
  rw [show PyData.canLay0 (.list ps) = PyData.canLayAll0 ps from rfl, canAll h, Bool.true_and]
  refine decide_eq_true ?_
  show PyData.depthAll ps + 1 ≤ 64
  have := depAll h
  omega
theorem sh_tup {k : Nat} {ps : List PyData} (h : shAll k ps) (hk : k < 64) : SeqAt.shaped (.tuple ps) = true := sh_list h hk
theorem eqB_lst {p q k : Nat} {s : S} {as bs : List D} {pa pb : List PyData} (h : s[p]? = some (.lst as)) (h' : s[q]? = some (.lst bs)) (e : as.mapM (toP 59 s) = some pa) (e' : bs.mapM (toP 59 s) = some pb) (sa : shAll k pa) (sb : shAll k pb) (hk : k < 64) : eqB (.ref p) (.ref q) s = some (PyData.eqvAll pa pb) := by
  have h1 : toP 60 s (.ref p) = some (.list pa) := by
    show (match s[p]? with | some (.lst ds) => (ds.mapM (toP 59 s)).map PyData.list | _ => none) = _
    rw [h]; dsimp only; rw [e]; rfl
  have h2 : toP 60 s (.ref q) = some (.list pb) := by
    show (match s[q]? with | some (.lst ds) => (ds.mapM (toP 59 s)).map PyData.list | _ => none) = _
    rw [h']; dsimp only; rw [e']; rfl
  unfold eqB
  dsimp only [eqS]
  rw [h1, h2]
  dsimp only
  rw [sh_list sa hk, sh_list sb hk]
  rfl
theorem eqB_tup {k : Nat} {s : S} {as bs : List D} {pa pb : List PyData} (e : as.mapM (toP 59 s) = some pa) (e' : bs.mapM (toP 59 s) = some pb) (sa : shAll k pa) (sb : shAll k pb) (hk : k < 64) : eqB (.tup as) (.tup bs) s = some (PyData.eqvAll pa pb) := by
  have h1 : toP 60 s (.tup as) = some (.tuple pa) := by
    show (as.mapM (toP 59 s)).map PyData.tuple = _
    rw [e]; rfl
  have h2 : toP 60 s (.tup bs) = some (.tuple pb) := by
    show (bs.mapM (toP 59 s)).map PyData.tuple = _
    rw [e']; rfl
  unfold eqB
  dsimp only [eqS]
  rw [h1, h2]
  dsimp only
  rw [sh_tup sa hk, sh_tup sb hk]
  rfl
theorem eqv_nil (ps : List PyData) : PyData.eqvAll ps [] = ps.isEmpty := by cases ps <;> rfl
theorem eqv_ints : ∀ as bs : List Int, PyData.eqvAll (as.map .int) (bs.map .int) = decide (as = bs)
  | [], [] => rfl
  | [], _ :: _ => rfl
  | _ :: _, [] => rfl
  | a :: as, b :: bs => by
    show ((a == b) && PyData.eqvAll (as.map .int) (bs.map .int)) = _
    rw [eqv_ints as bs]
    by_cases h : a = b
    · subst h
      simp
    · simp [h]
theorem sh_ints (as : List Int) : shAll 0 (as.map PyData.int) := fun p h => by
  obtain ⟨a, _, rfl⟩ := List.mem_map.mp h
  exact ⟨rfl, Nat.le_refl _⟩
theorem toP_ints {s : S} (as : List Int) : (as.map D.int).mapM (toP 59 s) = some (as.map PyData.int) := mapM_map (toP 59 s) D.int PyData.int (fun _ => rfl) as
theorem eqB_ints {p q : Nat} {s : S} {as bs : List Int} (h : s[p]? = some (.lst (as.map D.int))) (h' : s[q]? = some (.lst (bs.map D.int))) : eqB (.ref p) (.ref q) s = some (decide (as = bs)) := by
  rw [eqB_lst h h' (toP_ints as) (toP_ints bs) (sh_ints as) (sh_ints bs) (by omega), eqv_ints]
theorem eqB_tints {s : S} {as bs : List Int} : eqB (.tup (as.map D.int)) (.tup (bs.map D.int)) s = some (decide (as = bs)) := by
  rw [eqB_tup (toP_ints as) (toP_ints bs) (sh_ints as) (sh_ints bs) (by omega), eqv_ints]
/-! ### displays of dicts, under wp -/
def WPs (trs : List (EX × EX)) (env : Env) (s : S) (Q : List (D × D) → S → Prop) : Prop := WF (evPs trs env s) Q
section
variable {env : Env} {s : S} {Q : D → S → Prop} {QP : List (D × D) → S → Prop} {trs : List (EX × EX)} {fk fv : EX}
theorem w_pN : WPs [] env s QP ↔ QP [] s := wf_ok
theorem w_pC : WPs ((fk, fv) :: trs) env s QP ↔ W fk env s fun k s1 => W fv env s1 fun v s2 => WPs trs env s2 fun ps s3 => QP ((k, v) :: ps) s3 := by
  show WF ((fk env s).bind fun k s1 => (fv env s1).bind fun v s2 => (evPs trs env s2).bind fun ps s3 => .ok ((k, v) :: ps) s3) QP ↔ WF (fk env s) fun k s1 => WF (fv env s1) fun v s2 => WF (evPs trs env s2) fun ps s3 => QP ((k, v) :: ps) s3
  rw [wf_bind]
  refine wf_congr fun k s1 => ?_
  rw [wf_bind]
  refine wf_congr fun v s2 => ?_
  rw [wf_bind]
  exact wf_congr fun ps s3 => wf_ok
theorem w_Dct : W (eDct trs) env s Q ↔ WPs trs env s fun ps s1 => WP (keyed ps) fun kvs => kvs.length ≤ 15 ∧ Q (.ref s1.length) (s1 ++ [.dct (mergeD [] kvs)]) := by
  unfold W eDct WPs
  rw [wf_bind]
  refine wf_congr fun ps s1 => ?_
  cases keyed ps with
  | none => exact ⟨fun ⟨_, _, e, _⟩ => (by cases e), fun ⟨_, e, _⟩ => (by cases e)⟩
  | some kvs =>
    rw [wp_some]
    dsimp only
    by_cases c : kvs.length ≤ 15
    · rw [if_pos c, wf_ok]; exact ⟨fun h => ⟨c, h⟩, And.right⟩
    · rw [if_neg c]; exact ⟨fun ⟨_, _, e, _⟩ => (by cases e), fun h => absurd h.1 c⟩
end
theorem add_refs {p q : Nat} {xs ys : List D} {s : S} (h : s[p]? = some (.lst xs)) (h' : s[q]? = some (.lst ys)) : addD (.ref p) (.ref q) s = if xs.length + ys.length ≤ 16777216 then some (.ref s.length, s ++ [.lst (xs ++ ys)]) else none := by simp only [addD, h, h']
end Mi

set_option Elab.async false
set_option linter.all false
set_option maxRecDepth 100000
set_option maxHeartbeats 4000000
namespace Mi
open PySem PySem.Spec PyProof.Rows L2
/-! ### tuple(d) of a written dict -/
section
variable {prog : Program} {w : World} {A : Around} {E : Value → Shared → Prop} {s : Shared} {T : String} {r d : Addr} {n : Nat} {P : Nat → Value → Prop} {OK : Heap → Prop}
theorem collect_kdl {Q : List Value → Shared → Prop} (K : PySem.W.KdlSrc prog w T r d n P OK) (hh : A.handled = none) (hok : OK s.heap) (hn : n ≤ sizeLine)
    (hQ : ∀ (h' : Heap) (tk : Nat) (acc : Array Value), (∀ b o, s.heap.get? b = some o → h'.get? b = some o) → ItemsOf P acc n → Q acc.toList { s with heap := h', toks := tk }) :
    wpAny (model prog w) A (collect (.ref r)) Q E s := by
  unfold collect
  refine wpAny_bind (wpAny_runValue (codeAny_builtin PySem.F.entry_proto_collect ?_))
  rw [Around.under_plainId PySem.F.plain_proto_collect _]
  show wpAny _ A.in1 (newList [] >>= fun l => again (.builtin "list.__iadd__" ⟨[l, .ref r], []⟩)) _ _ s
  refine wpAny_bind (wpAny_newObj_type ?_)
  refine wpAny_pure ⟨plainId_quiet PySem.F.plain_list_iadd _, codeAny_builtin PySem.F.entry_list_iadd ?_⟩
  rw [Around.under_plainId PySem.F.plain_list_iadd _]
  show wpAny _ A.in1 (Builtin.List.listExtendWith (.ref s.heap.objs.size) (.ref r) (.ref s.heap.objs.size)) _ _ _
  have hS : (s.heap.push { cls := .type "list", data := .seq ([] : List Value).toArray }).get? s.heap.objs.size = some { cls := .type "list", data := .seq #[] 0 } := Heap.get?_push_size _ rfl
  have hlt := K.there _ hok
  have hok' : OK (s.heap.push { cls := .type "list", data := .seq ([] : List Value).toArray }) := K.keep _ _ hok fun b _ o e => Heap.get?_push_of_some _ e
  refine wpAny_mono (PySem.W.kdl_extend (A := A) (R := fun rr s' => rr = .ok (.ret (.ref s.heap.objs.size)) ∧ ∃ (h' : Heap) (tk : Nat) (acc : Array Value) (c' : Nat), s' = { s with heap := h', toks := tk } ∧
      (∀ b o, s.heap.get? b = some o → h'.get? b = some o) ∧ h'.get? s.heap.objs.size = some { cls := .type "list", dict := none, data := .seq acc c', slots := #[] } ∧ ItemsOf P acc n)
    (s := { s with heap := s.heap.push { cls := .type "list", data := .seq ([] : List Value).toArray } }) K hh hok' s.heap.objs.size (Nat.ne_of_gt hlt.1) (Nat.ne_of_gt hlt.2) (.ref s.heap.objs.size) 0 hS
    (fun h' tk acc c' hk e hi => ⟨rfl, h', tk, acc, c', rfl, fun b o q => hk b o (Nat.ne_of_lt (Heap.lt_size q)) (Heap.get?_push_of_some _ q), e, hi⟩) hn) (fun fin s' h => ?_) (fun e s' h => ?_)
  · cases fin with
    | done f =>
      obtain ⟨e0, h', tk, acc, c', rfl, hk, hS', hi⟩ := h
      cases e0
      show wpAny _ A (load s.heap.objs.size >>= _) _ _ _
      exact wpAny_bind (wpAny_load hS' (wpAny_pure (hQ h' tk acc hk hi)))
    | again c' =>
      refine ⟨h.1, codeAny_mono h.2 fun rr s'' hr' => ?_⟩
      obtain ⟨e0, h', tk, acc, c', rfl, hk, hS', hi⟩ := hr'
      cases e0
      show wpAny _ A (load s.heap.objs.size >>= _) _ _ _
      exact wpAny_bind (wpAny_load hS' (wpAny_pure (hQ h' tk acc hk hi)))
  · exact absurd h.1 (by simp)
end
section
variable {prog : Program} {w : World} {A : Around} {E : Value → Shared → Prop} {s : Shared} {d : Addr} {n : Nat} {o : Obj} {es : Array DictEntry}
theorem code_tuple_new_dict {Q₁ : Value → Shared → Prop} (hh : A.handled = none) (lo : (d == sysModules) = false) (hx : o.ExactDict) (hd : o.data = .dict es n) (ho : s.heap.get? d = some o) (hz : es.size ≤ sizeLine)
    (h : ∀ (h' : Heap) (tk : Nat) (acc : Array Value), (∀ b o, s.heap.get? b = some o → h'.get? b = some o) → ItemsOf (fun i v => ∃ en : DictEntry, es[i]? = some en ∧ v = en.key) acc es.size →
      Q₁ (.ref h'.objs.size) { s with heap := h'.push { cls := .type "tuple", data := .seq acc }, toks := tk }) :
    codeAny (model prog w) A (.call (.builtin "tuple.__new__") ⟨[.type "tuple", .ref d], []⟩) (wants Q₁ E) s := by
  refine codeAny_of_tree ?_
  show wpAny _ A.in1 (do checkBuiltinCall "tuple.__new__" ⟨[.type "tuple", .ref d], []⟩; again (.builtin "tuple.__new__" ⟨[.type "tuple", .ref d], []⟩)) _ _ s
  refine wpAny_bind (wpAny_of_eq (PySem.F.newCall_tuple_1 _) (wpAny_pure ⟨plainId_quiet PySem.F.plain_tuple_new _, codeAny_builtin PySem.F.entry_tuple_new ?_⟩))
  rw [Around.under_plainId PySem.F.plain_tuple_new _]
  have hsub := sub_tuple_self
  have hinit := init_tuple_lookup
  have hmh := madeHere_tuple
  have hTI : s.TypeIs (.ref d) "dict" := ⟨_, ho, hx.1⟩
  have hh1 : A.in1.handled = none := hh
  wp_walk using wpAny_typeOf hTI, collect_kdl (A := A.in1) (kdl_raw lo hx hd) hh1 ho hz
  intro h' tk acc hk hacc
  show wpAny _ _ (Builtin.Tuple.tupleExact acc.toList.toArray >>= fun v => ret v) _ _ _
  unfold Builtin.Tuple.tupleExact
  refine wpAny_bind (wpAny_newObj_type ?_ (by show acc.toList.toArray.size ≤ sizeLine; simp only [Array.toArray_toList]; rw [hacc.1]; exact hz))
  refine wpAny_pure ?_
  have e : acc.toList.toArray = acc := by simp
  rw [e]
  exact h h' tk acc hk hacc
end
section
variable {prog : Program} {w : World} {A : Around} {E : Value → Shared → Prop} {s : Shared} {d : Addr} {n : Nat} {o : Obj} {es : Array DictEntry}
theorem call_tuple_dict {Q : Value → Shared → Prop} (hh : A.handled = none) (lo : (d == sysModules) = false) (hx : o.ExactDict) (hd : o.data = .dict es n) (ho : s.heap.get? d = some o) (hz : es.size ≤ sizeLine)
    (hQ : ∀ (h' : Heap) (tk : Nat) (acc : Array Value), (∀ b o, s.heap.get? b = some o → h'.get? b = some o) → ItemsOf (fun i v => ∃ en : DictEntry, es[i]? = some en ∧ v = en.key) acc es.size →
      Q (.ref h'.objs.size) { s with heap := h'.push { cls := .type "tuple", data := .seq acc }, toks := tk }) :
    wpAny (model prog w) A (call (.type "tuple") [.ref d]) Q E s := by
  refine callType_codes (Q₁ := fun obj s₁ => s₁.TypeIs obj "tuple" ∧ Q obj s₁) PySem.F.called_tuple (PySem.F.typeCall_tuple_1 _) PySem.F.entry_object_init
    (code_tuple_new_dict (A := A.in1) hh lo hx hd ho hz fun h' tk acc hk hacc => ⟨⟨_, Heap.get?_push_size _ rfl, rfl⟩, hQ h' tk acc hk hacc⟩) fun obj s₁ h₁ => ?_
  exact ⟨h₁.1, PySem.F.args_object_init_2 obj _, object_init_meets PySem.F.called_tuple.init.lookup PySem.F.called_tuple.made (by decide) prog w A.in1 _ s₁ ⟨h₁.1, rfl, h₁.2⟩⟩
end
section
variable {X : Cx} {W : XK}
theorem paired_len {α β : Type} {P : α → β → Prop} : ∀ {xs : List α} {ys : List β}, Paired P xs ys → xs.length = ys.length
  | _, _, .nil => rfl
  | _, _, .cons _ t => by rw [List.length_cons, List.length_cons, paired_len t]
theorem paired_get {α β : Type} {P : α → β → Prop} : ∀ {xs : List α} {ys : List β}, Paired P xs ys → ∀ {i : Nat} {x : α}, xs[i]? = some x → ∃ y, ys[i]? = some y ∧ P x y
  | _, _, .cons p _, 0, _, h => by cases h; exact ⟨_, rfl, p⟩
  | _, _, .cons _ t, i + 1, x, h => paired_get t (i := i) h
theorem call_tupG {x : Str} {kvs : List (Str × D)} (hc : X.calm = true) (h : GD X.K X.w X.mg x kvs) (hz : kvs.length ≤ 1000) :
    CallR X (.type "tuple") (fun xs H Q => ∃ a, X.mg x = some (.ref a) ∧ xs = [.ref a] ∧ ∀ q, H q = none → Q (.ref q) (upd H q (.tup (kvs.map fun kv => V.str kv.1)))) := by
  intro pins s σ H xs us Q I r hq
  obtain ⟨a, hm, e, q⟩ := hq
  subst e
  obtain ⟨u, eu, rx⟩ := vals1 r
  subst eu
  obtain rfl : u = Value.ref a := rx
  obtain ⟨a', es, n, hm', kd, p⟩ := h.ex
  rw [hm] at hm'; cases hm'
  have hl := paired_len p
  rw [Array.length_toList] at hl
  have hsz : es.size ≤ sizeLine := by rw [hl, sizeLine_eq]; omega
  refine call_tuple_dict (I.ok.hd hc) kd.low ⟨rfl, rfl, rfl⟩ rfl (I.kIn _ _ kd.at_) hsz fun h' tk acc hk hacc => ?_
  have I1 : Inv X pins σ H { s with heap := h', toks := tk } := I.kept hk
  have hval : Vals (kvs.map fun kv => V.str kv.1) acc.toList := by
    refine vals_of_at (by rw [List.length_map, Array.length_toList]; exact (hacc.1.trans hl).symm) fun j v u h1 h2 => ?_
    obtain ⟨en, e1, e2⟩ := hacc.2 j u (by rw [← Array.getElem?_toList]; exact h2)
    obtain ⟨kv, e3, ⟨t, e4⟩, _⟩ := paired_get p (i := j) (x := en) (by rw [Array.getElem?_toList]; exact e1)
    rw [List.getElem?_map, e3] at h1
    cases h1
    rw [e2, e4]
    exact ⟨t, rfl⟩
  have I2 : Inv X pins σ (upd H h'.objs.size (.tup (kvs.map fun kv => V.str kv.1))) { s with heap := h'.push { cls := .type "tuple", data := .seq acc }, toks := tk } :=
    I1.laid (t' := tk) (fun b o e => Heap.get?_push_of_some _ e) (Nat.le_refl _) (show ObjOk X.prog X.w _ _ _ (.tup (kvs.map fun kv => V.str kv.1)) from ⟨by rw [List.length_map, sizeLine_eq]; omega, acc.toList, hval, by rw [Array.toArray_toList]; exact IsTup.new _ _⟩)
  exact ⟨.ref h'.objs.size, _, I2, rfl, q _ (I1.hok.fresh (Nat.le_refl _))⟩
def tupGB (x : Str) (kvs : List (Str × D)) : OPN := fun ds s => match ds with
  | [.glo y] => if y = x then some (.tup (kvs.map fun kv => D.str kv.1), s) else none
  | _ => none
theorem reps_strs {g : G} {m : List Addr} {H : Hp} : ∀ (kvs : List (Str × D)), Reps g m H (kvs.map fun kv => V.str kv.1) (kvs.map fun kv => D.str kv.1)
  | [] => .nil
  | kv :: kvs => .cons (.str kv.1) (reps_strs kvs)
theorem on_tupG {g : G} {x : Str} {kvs : List (Str × D)} : ON g (fun xs H Q => ∃ a, g.mg x = some (.ref a) ∧ xs = [.ref a] ∧ ∀ q, H q = none → Q (.ref q) (upd H q (.tup (kvs.map fun kv => V.str kv.1)))) (tupGB x kvs) := by
  intro m H s vs ds y s' Q hold rv he q
  unfold tupGB at he
  split at he
  · rename_i z
    by_cases c : z = x
    · rw [if_pos c] at he; cases he
      subst c
      obtain ⟨v, rfl, r⟩ := reps1 rv
      cases r with
      | @glo a _ hm => exact ⟨a, hm, rfl, fun p hp => new_tup hold hp (reps_strs kvs) q⟩
    · rw [if_neg c] at he; cases he
  · cases he
end
/-! ### a datum of the module -/
/-- what stands at x in the module is d -/
structure GV (K : PySem.W.Frag) (mg : Str → Option Value) (x : Str) (d : D) : Prop where
  ex : ∃ (v : V) (u : Value), mg x = some u ∧ RelV v u ∧ ∀ m H, Rep ⟨K, mg⟩ m H v d
section
variable {X : Cx} {W : XK}
theorem s_gv {x : Str} {d : D} {pos : Pos} (h : GV X.K X.mg x d) (hg : Gl X x) (hdb : (x == ("__debug__" : Str)) = false := by decide) : PE X (.Name x pos) (sem ⟨X.K, X.mg⟩ W (cn d)) := by
  obtain ⟨v, u, hm, r, q⟩ := h.ex
  exact s_con (pe_glob hg hm r hdb) q
theorem gv_int {K : PySem.W.Frag} {mg : Str → Option Value} {x : Str} {i : Int} {t : Tok} (h : mg x = some (.int i t)) : GV K mg x (.int i) := ⟨⟨.int i, _, h, ⟨t, rfl⟩, fun _ _ => .int i⟩⟩
theorem gv_tup {K : PySem.W.Frag} {mg : Str → Option Value} {x : Str} {a : Addr} {its : Array Value} {n : Nat} {xs : List V} {ds : List D} (h : mg x = some (.ref a)) (e : K.lookup a = some ⟨.type "tuple", none, .seq its n, #[]⟩) (hz : its.size ≤ sizeLine) (hv : Vals xs its.toList) (r : ∀ m H, Reps ⟨K, mg⟩ m H xs ds) : GV K mg x (.tup ds) :=
  ⟨⟨.ref a, _, h, rfl, fun m H => .tup (.inr ⟨_, its, n, e, rfl, rfl, hz, hv⟩) (r m H)⟩⟩
end
/-! ### recursion -/
def noF : FN := fun _ _ => .no
theorem keeps_no {P : Program} {w : World} {K : PySem.W.Frag} {mg : Str → Option Value} {base : Heap} {x : Str} {st : Stmt} {f : Addr} {fd : FuncData} {ps : List Str} {L : Nat} (h : DefAt K mg x st ps f fd) : Keeps P w K mg base L x ps noF f fd := by
  have no : ∀ {vs H Q E}, ¬ spF ⟨K, mg⟩ ps.length noF vs H Q E := by
    intro vs H Q E z
    obtain ⟨m, s, ds, _, _, _, h⟩ := z
    exact h
  exact ⟨⟨fun _ _ _ _ z => absurd z no, fun _ _ _ _ _ _ _ _ _ _ _ _ _ z => absurd z no⟩, h.at_, h.fn.kp, h.bd⟩
/-! ### displays of dicts, for the printed derivations -/
section
variable {X : Cx} {g : G} {W : XK}
def PPm (X : Cx) (g : G) (W : XK) (pos : Pos) (keys : List (Option Expr)) (values : List Expr) (trs : List (EX × EX)) : Prop := PPs X pos keys values (trs.map fun p => (sem g W p.1, sem g W p.2))
theorem ppm_nil {pos : Pos} : PPm X g W pos [] [] [] := pps_nil
theorem ppm_cons {pos : Pos} {k v : Expr} {ks : List (Option Expr)} {vs : List Expr} {fk fv : EX} {trs : List (EX × EX)} (hk : PE X k (sem g W fk)) (hv : PE X v (sem g W fv)) (hr : PPm X g W pos ks vs trs) : PPm X g W pos (some k :: ks) (v :: vs) ((fk, fv) :: trs) := pps_cons hk hv hr
theorem s_dctm {pos : Pos} {keys : List (Option Expr)} {values : List Expr} {trs : List (EX × EX)} (h : PPm X g W pos keys values trs) (hall : keys.all (·.isSome) = true) (hl : keys.length = values.length) (h0 : keys ≠ [])
    (h15 : keys.length ≤ 15) : PE X (.Dict keys values pos) (sem g W (eDct trs)) := s_dct h hall hl h0 h15
end
end Mi

set_option Elab.async false
set_option linter.all false
set_option maxRecDepth 100000
namespace Mi
open PySem PySem.Spec PyProof.Rows L2
/-! ### more facts for walking -/
theorem in_top {neg : Bool} {d : D} {ds : List D} {s : S} : inD neg d (.ref s.length) (s ++ [O.lst ds]) = if (flatD d && ds.all flatD) = true then some (.bl (if neg then !(ds.any fun y => eqF y d) else ds.any fun y => eqF y d), s ++ [O.lst ds]) else none := in_ref top_get
theorem ixD_top {ds : List D} {i : Int} {s : S} : ixD (.ref s.length) (.int i) (s ++ [O.lst ds]) = (atI ds i).map fun x => (x, s ++ [O.lst ds]) := ixD_ref top_get
theorem tupB_top {ds : List D} {s : S} : tupB [.ref s.length] (s ++ [O.lst ds]) = some (.tup ds, s ++ [O.lst ds]) := tupB_ref top_get
theorem items_top {ds : List D} {s : S} : itemsD (.ref s.length) (s ++ [O.lst ds]) = some ds := items_ref top_get
theorem lenB_top {ds : List D} {s : S} : lenB [.ref s.length] (s ++ [O.lst ds]) = some (.int (ds.length : Int), s ++ [O.lst ds]) := lenB_ref top_get
theorem tru_bl {b : Bool} {s : S} : truD (.bl b) s = some b := rfl
theorem asgT_2 {i j : Nat} {a b : D} {env : Env} : asgT (.t [i, j]) (.tup [a, b]) env = some ((env.set i (some a)).set j (some b)) := rfl
theorem asgT_3 {i j k : Nat} {a b c : D} {env : Env} : asgT (.t [i, j, k]) (.tup [a, b, c]) env = some (((env.set i (some a)).set j (some b)).set k (some c)) := rfl
theorem blsD_map : ∀ bs : List Bool, blsD (bs.map D.bl) = some bs
  | [] => rfl
  | b :: bs => by show (blsD (bs.map D.bl)).map (b :: ·) = _; rw [blsD_map bs]; rfl
theorem intsD_map : ∀ L : List Int, intsD (L.map D.int) = some L
  | [] => rfl
  | b :: L => by show (intsD (L.map D.int)).map (b :: ·) = _; rw [intsD_map L]; rfl
theorem any_ref {q : Nat} {bs : List Bool} {s : S} (h : s[q]? = some (.lst (bs.map D.bl))) : Mi.anyB [.ref q] s = some (.bl (bs.any id), s) := by
  simp only [Mi.anyB, oneL, listItems, h, Option.bind_some, blsD_map, Option.map_some]
theorem all_ref {q : Nat} {bs : List Bool} {s : S} (h : s[q]? = some (.lst (bs.map D.bl))) : Mi.allB [.ref q] s = some (.bl (bs.all id), s) := by
  simp only [Mi.allB, oneL, listItems, h, Option.bind_some, blsD_map, Option.map_some]
theorem sum_ref {q : Nat} {L : List Int} {s : S} (h : s[q]? = some (.lst (L.map D.int))) : Mi.sumB [.ref q] s = some (.int L.sum, s) := by
  simp only [Mi.sumB, oneL, listItems, h, Option.bind_some, intsD_map, Option.map_some]
theorem sort_ref {q : Nat} {L : List Int} {s : S} (h : s[q]? = some (.lst (L.map D.int))) : sortB [.ref q] s = some (.ref s.length, s ++ [.lst ((sortI L).map D.int)]) := by
  simp only [sortB, oneL, listItems, h, Option.bind_some, intsD_map, Option.map_some]
theorem ws_cut {a b : ST} {env : Env} {s : S} {N I : Env → S → Prop} {Rt : D → S → Prop} {B C : Env → S → Prop} (h1 : WS a env s I Rt B C) (h2 : ∀ e s, I e s → WS b e s N Rt B C) : WS (sSeq a b) env s N Rt B C := ws_seq.mpr (WS.mono h1 h2 (fun _ _ h => h) (fun _ _ h => h) (fun _ _ h => h))
theorem neD_ints {p q : Nat} {s : S} {as bs : List Int} (h : s[p]? = some (.lst (as.map D.int))) (h' : s[q]? = some (.lst (bs.map D.int))) : neD (.ref p) (.ref q) s = some (.bl (!decide (as = bs)), s) := by
  unfold neD; rw [eqB_ints h h']
/-- each item gives a truth: the list of truths -/
theorem fm_all {α : Type} (f : α → Bool) (xs : List α) : (xs.filterMap fun x => some (D.bl (f x))) = (xs.map f).map D.bl := by
  rw [List.map_map]
  induction xs with
  | nil => rfl
  | cons x xs ih => rw [List.filterMap_cons, List.map_cons, ih]; rfl
theorem fm_map {α : Type} (f : α → D) (xs : List α) : (xs.filterMap fun x => some (f x)) = xs.map f := by
  induction xs with
  | nil => rfl
  | cons x xs ih => rw [List.filterMap_cons, List.map_cons, ih]
theorem fm_if {α : Type} (P : α → Bool) (en : α → D) (R : List α) : (R.filterMap fun x => if P x = true then some (en x) else none) = (R.filter P).map en := by
  induction R with
  | nil => rfl
  | cons x R ih =>
    by_cases c : P x = true
    · rw [List.filterMap_cons, if_pos c, List.filter_cons_of_pos c, List.map_cons, ih]
    · rw [List.filterMap_cons, if_neg c, List.filter_cons_of_neg c, ih]
theorem gtD_int {i j : Int} {s : S} : gtD (.int i) (.int j) s = some (.bl (decide (j < i)), s) := rfl
theorem addI_int {i j : Int} {s : S} : addI (.int i) (.int j) s = some (.int (i + j), s) := rfl
section
variable {b : ST} {c : EB} {e : EX} {env : Env} {s : S} {N : Env → S → Prop} {Rt : D → S → Prop} {B C : Env → S → Prop} {t : T} {Q : D → S → Prop} {vs : List Nat} {ok : S → Prop} {β : Type}
theorem cs_mapD {xs : List D} (g : D → Option D) (J : S → Prop) (hok : ok s) (hl : xs.length ≤ 16777216) (h0 : J s)
    (hs : ∀ x s, x ∈ xs → J s → ok s → WP (asgT t x (wipeE env vs)) fun e1 => WB c e1 s fun k s1 => if k = true then W e e1 s1 fun y s2 => ok s2 ∧ J s2 ∧ g x = some y else ok s1 ∧ J s1 ∧ g x = none)
    (hd : ∀ s, J s → ok s → Q (.ref s.length) (s ++ [O.lst (xs.filterMap g)])) : CS t vs c e ok env xs s Q := by
  have := cs_map (c := c) (e := e) (t := t) (vs := vs) (env := env) (Q := Q) (xs := xs) id g J hok hl h0 hs hd
  rwa [List.map_id] at this
theorem fs_foldD {xs : List D} (g : β → D → β) (a0 : β) (I : β → Env → S → Prop) (hok : ok s) (h0 : I a0 env s)
    (hs : ∀ a x env s, x ∈ xs → I a env s → ok s → WP (asgT t x env) fun e1 => WS b e1 s (fun e s => ok s ∧ I (g a x) e s) Rt N (fun e s => ok s ∧ I (g a x) e s))
    (hd : ∀ env s, I (xs.foldl g a0) env s → ok s → N env s) : FS t b ok xs env s N Rt B C := by
  have := fs_fold (b := b) (t := t) (env := env) (N := N) (Rt := Rt) (B := B) (C := C) (xs := xs) id g a0 I hok h0 hs hd
  rwa [List.map_id] at this
end
theorem cutD_init {xs : List D} : cutD xs none (some (-1)) = xs.dropLast := by
  unfold cutD HT.sIx
  simp only [List.drop_zero]
  rw [List.dropLast_eq_take]
  congr 1
  simp
  omega
theorem cutD_take {xs : List D} {n : Nat} : cutD xs none (some (n : Int)) = xs.take n := by
  unfold cutD
  rw [HT.sIx_nat, HT.sIx_none, List.drop_zero, Nat.sub_zero]
  by_cases h : n ≤ xs.length
  · rw [Nat.min_eq_left h]
  · rw [Nat.min_eq_right (by omega), List.take_of_length_le (Nat.le_refl _), List.take_of_length_le (by omega)]
theorem cutD_drop {xs : List D} {n : Nat} : cutD xs (some (n : Int)) none = xs.drop n := by
  unfold cutD
  rw [HT.sIx_nat, HT.sIx_none]
  by_cases h : n ≤ xs.length
  · rw [Nat.min_eq_left h, List.take_of_length_le (by rw [List.length_drop]; exact Nat.le_refl _)]
  · rw [Nat.min_eq_right (by omega), List.drop_of_length_le (Nat.le_refl _), List.drop_of_length_le (by omega), List.take_nil]
theorem atI_last {xs : List D} {l : D} (h : xs.getLast? = some l) : atI xs (-1) = some l := by
  unfold atI ixN
  rw [List.getLast?_eq_getElem?] at h
  have hp : 0 < xs.length := by
    cases xs with
    | nil => cases h
    | cons x xs => simp
  rw [if_neg (by omega), if_pos (by omega)]
  show xs[(-1 + (xs.length : Int)).toNat]? = some l
  rw [show (-1 + (xs.length : Int)).toNat = xs.length - 1 by omega]
  exact h
end Mi

set_option Elab.async false
set_option linter.all false
set_option maxRecDepth 100000
set_option maxHeartbeats 4000000
namespace Mi
open PySem PySem.Spec PyProof.Rows L2
/-! ### objects of own classes -/
def ClsF (K : PySem.W.Frag) (mg : Str → Option Value) (C : Str) : Prop := ∀ c, mg C = some (.ref c) → Cls K c
def NoA (K : PySem.W.Frag) (mg : Str → Option Value) (C f : Str) : Prop := ∀ c, mg C = some (.ref c) → NoAttr K c f
def MethF (K : PySem.W.Frag) (mg : Str → Option Value) (C m : Str) (f : Addr) : Prop := ∀ c, mg C = some (.ref c) → Meth K c m f
def fldD (C f : Str) (d : D) (s : S) : Option D := match d with
  | .ref p => match s[p]? with
    | some (.ins C' fs) => if C' = C then fs.lookup f else none
    | _ => none
  | _ => none
def insAt (C : Str) (d : D) (s : S) : Option (Nat × List (Str × D)) := match d with
  | .ref p => match s[p]? with
    | some (.ins C' fs) => if C' = C then some (p, fs) else none
    | _ => none
  | _ => none
def eFld (C f : Str) (x : EX) : EX := fun env s => (x env s).bind fun d s1 => R.of ((fldD C f d s1).map fun v => (v, s1))
def putFD (f : Str) (v : D) : List (Str × D) → List (Str × D)
  | [] => [(f, v)]
  | (g, x) :: r => if g = f then (g, v) :: r else (g, x) :: putFD f v r
/-- x.f = v -/
def sFldD (C f : Str) (v x : EX) : ST := fun env s => (v env s).go fun d s1 => (x env s1).go fun o s2 => match insAt C o s2 with
  | some (p, fs) => if fs.length < 1000 then .nx env (s2.set p (.ins C (putFD f d fs))) else .no
  | none => .no
section
variable {g : G} {m : List Addr} {H : Hp} {s : S} {v : V} {d : D} {C f : Str}
theorem entF_lookup : ∀ {es : List (Str × V)} {fs : List (Str × D)}, EntF g m H es fs → (fs.lookup f = none ∧ es.lookup f = none) ∨ ∃ v d, fs.lookup f = some d ∧ es.lookup f = some v ∧ Rep g m H v d
  | _, _, .nil => .inl ⟨rfl, rfl⟩
  | (k, v) :: es, (k', d) :: fs, .cons r t => by
    obtain ⟨r1, r2⟩ := r
    have r1 : k' = k := r1
    subst r1
    show (List.lookup f ((k', d) :: fs) = none ∧ _) ∨ _
    rw [List.lookup_cons, List.lookup_cons]
    cases hk : f == k' with
    | true => exact .inr ⟨v, d, rfl, rfl, r2⟩
    | false => exact entF_lookup t
theorem ent_putF {w : V} {x : D} (r0 : Rep g m H w x) : ∀ {es : List (Str × V)} {fs : List (Str × D)}, EntF g m H es fs → EntF g m H (putF f w es) (putFD f x fs)
  | _, _, .nil => .cons ⟨rfl, r0⟩ .nil
  | (k, v) :: es, (k', d) :: fs, .cons r t => by
    obtain ⟨r1, r2⟩ := r
    have r1 : k' = k := r1
    subst r1
    unfold putF putFD
    by_cases c : k' = f
    · rw [if_pos c, if_pos c]; exact .cons ⟨rfl, r0⟩ t
    · rw [if_neg c, if_neg c]; exact .cons ⟨rfl, r2⟩ (ent_putF r0 t)
theorem ins_rep {p : Nat} {fs : List (Str × D)} (hold : Hold g m s H) (r : Rep g m H v d) (h : insAt C d s = some (p, fs)) : ∃ a c dx es, v = .ref a ∧ d = .ref p ∧ m[p]? = some a ∧ g.mg C = some (.ref c) ∧ H a = some (.ins c dx es) ∧ H dx = some (.own a) ∧ EntF g m H es fs := by
  unfold insAt at h
  split at h
  · cases r with
    | @ref a q z =>
      split at h
      · rename_i C' fs' e
        by_cases c : C' = C
        · rw [if_pos c] at h
          cases h
          subst c
          obtain ⟨c, dx, es, h1, h2, h3, h4⟩ := hold.obj _ a _ z e
          exact ⟨a, c, dx, es, rfl, rfl, z, h1, h2, h3, h4⟩
        · rw [if_neg c] at h; cases h
      · cases h
  · cases h
theorem fld_ins {x : D} (h : fldD C f d s = some x) : ∃ p fs, insAt C d s = some (p, fs) ∧ fs.lookup f = some x := by
  unfold fldD at h
  unfold insAt
  split at h
  · rename_i q
    split at h
    · rename_i C' fs' e
      by_cases c : C' = C
      · rw [if_pos c] at h
        exact ⟨q, fs', by simp only [e, c, if_true], h⟩
      · rw [if_neg c] at h; cases h
    · cases h
  · cases h
end
section
variable {X : Cx} {W : XK} {C f : Str} {x v : EX}
theorem s_fld {e : Expr} {pos : Pos} (hc : ClsF X.K X.mg C) (hn : NoA X.K X.mg C f) (ha : PE X e (sem ⟨X.K, X.mg⟩ W x)) (hb : attributeBase e f X.env (eval e X.env) = eval e X.env := by rfl) : PE X (.Attribute e f pos) (sem ⟨X.K, X.mg⟩ W (eFld C f x)) := by
  refine PE.of (pe_fld ha hb) fun σ H Q ⟨m, env, s, ag, q⟩ => ?_
  refine sem_k ag (R.post_bind q) fun d s1 v m1 H1 q1 l1 a1 r1 => ?_
  obtain ⟨y, s2, e1, q2⟩ := R.post_of q1
  cases hf : fldD C f d s1 with
  | none => rw [hf] at e1; cases e1
  | some z =>
    rw [hf] at e1
    cases e1
    obtain ⟨p, fs, h1, h2⟩ := fld_ins hf
    obtain ⟨a, c, dx, es, rfl, rfl, z1, h3, h4, h5, h6⟩ := ins_rep a1.hold r1 h1
    rcases entF_lookup (f := f) h6 with ⟨n1, _⟩ | ⟨w, d', h7, h8, h9⟩
    · rw [n1] at h2; cases h2
    · rw [h7] at h2; cases h2
      exact ⟨a, c, dx, es, w, rfl, h4, hc c h3, hn c h3, h8, PD.le l1 q2 w m1 H1 (Le.refl _ _) a1.hold h9⟩
theorem c_fld {o e : Expr} {pos pos' : Pos} (hc : ClsF X.K X.mg C) (hn : NoA X.K X.mg C f) (ho : PE X o (sem ⟨X.K, X.mg⟩ W x)) (he : PE X e (sem ⟨X.K, X.mg⟩ W v)) (hs : swapsWith e (some (.Attribute o f pos')) pos.line X.env = pure false) : PS X (.Assign [.Attribute o f pos'] e pos) (semS ⟨X.K, X.mg⟩ W (sFldD C f v x)) := by
  refine PS.of (ps_fld ho he hs) fun B σ H ⟨m, env, s, a, q⟩ => ?_
  refine sem_k a (R.go_post q) fun d s1 w m1 H1 q1 l1 a1 r1 => ?_
  refine sem_k a1 (R.go_post (Fl.post_le l1 q1)) fun y s2 u m2 H2 q2 l2 a2 r2 => ?_
  cases h : insAt C y s2 with
  | none => rw [h] at q2; exact q2.elim
  | some pf =>
    obtain ⟨p, fs⟩ := pf
    rw [h] at q2
    dsimp only at q2
    by_cases c : fs.length < 1000
    · rw [if_pos c] at q2
      obtain ⟨a', c', dx, es, rfl, rfl, z1, h3, h4, h5, h6⟩ := ins_rep a2.hold r2 h
      have hlen : es.length = fs.length := Paired.length h6
      have hw : Hold ⟨X.K, X.mg⟩ m2 (s2.set p (.ins C (putFD f d fs))) (upd H2 a' (.ins c' dx (putF f w es))) :=
        a2.hold.write z1 ⟨c', dx, putF f w es, h3, upd_same, (by
          rw [upd_ne (fun z => by rw [z] at h5; rw [h4] at h5; cases h5)]; exact h5), (ent_putF (r1.le l2) h6).le (Le.write a2.hold z1)⟩
      refine ⟨a', c', dx, es, rfl, h4, hc c' h3, hn c' h3, by rw [hlen]; exact c, ?_⟩
      exact q2 σ m2 _ (l2.trans (Le.write a2.hold z1)) (a2.go (Le.write a2.hold z1) hw)
    · rw [if_neg c] at q2; exact q2.elim
end
/-! ### calls of methods and classes -/
/-- x.m(args): the method of class C does F -/
def eMth (C m : Str) (n : Nat) (F : FN) (x : EX) (fa : EA) : EX := fun env s => (x env s).bind fun d s1 => match insAt C d s1 with
  | some (_, fs) => if fs.lookup m = none then (fa env s1).bind fun ds s2 => if ds.length + 1 = n then F (d :: ds) s2 else .no else .no
  | none => .no
/-- C(args): a new object, for which __init__ does F -/
def eNew (C : Str) (n : Nat) (F : FN) (fa : EA) : EX := fun env s => (fa env s).bind fun ds s1 => if ds.length + 1 = n then (F (.ref s1.length :: ds) (s1 ++ [.ins C []])).bind fun r s2 => match r with
  | .non => .ok (.ref s1.length) s2
  | _ => .no else .no
/-- the method m of class C does F, at level L -/
structure KeepsM (P : Program) (w : World) (K : PySem.W.Frag) (mg : Str → Option Value) (base : Heap) (L : Nat) (C m : Str) (ps : List Str) (F : FN) (f : Addr) (fd : FuncData) : Prop where
  ok : FnOk P w K mg base CX0 L f fd ps (spF ⟨K, mg⟩ ps.length F)
  mt : MethF K mg C m f
  bd : Binds K fd ps []
structure MethAt (K : PySem.W.Frag) (mg : Str → Option Value) (C m qual : Str) (st : Stmt) (ps : List Str) (f : Addr) (fd : FuncData) : Prop where
  fn : Fun K m qual st f fd
  mt : MethF K mg C m f
  bd : Binds K fd ps []
section
variable {P : Program} {w : World} {K : PySem.W.Frag} {mg : Str → Option Value} {base : Heap}
theorem keepsM_of {C m qual : Str} {st : Stmt} {f : Addr} {fd : FuncData} {N ps : List Str} {k : Nat} {b : ST} (h : MethAt K mg C m qual st ps f fd) (sc : FnScope N ps (defScope st))
    (hb : ∀ (cdv : Value) (A : Around) (outer : List PySem.Env) (s : Shared) (H : Hp) (E : XK), Room k (A.deeper (envOfC qual (defScope st) s.heap.objs.size f cdv)) →
      PSs (cxOf CX0 P w K mg base N qual (defScope st) f cdv A outer s H E).nox (defBody st) (semS ⟨K, mg⟩ E0 b)) : KeepsM P w K mg base (k + 1) C m ps (fnB N.length ps.length b) f fd :=
  ⟨fn_ok h.fn sc hb, h.mt, h.bd⟩
end
section
variable {X : Cx} {L L' n : Nat} {C m : Str} {ps : List Str} {F : FN} {f : Addr} {fd : FuncData} {o e : Expr} {es : List Expr} {x : EX} {fa : EA} {p pos apos : Pos}
theorem sem_mth {σ : L2.St} {H : Hp} {Q : VK} (hn : ps.length = n) (c : Addr) (hm : X.mg C = some (.ref c)) (h : sem ⟨X.K, X.mg⟩ E0 (eMth C m n F x fa) σ H Q) :
    tMeth c m (spF ⟨X.K, X.mg⟩ ps.length F) [] E0 (sem ⟨X.K, X.mg⟩ E0 x) (semA ⟨X.K, X.mg⟩ E0 fa) σ H Q := by
  obtain ⟨m0, env, s, ag, q⟩ := h
  refine sem_k ag (R.post_bind q) fun d s1 v m1 H1 q1 l1 a1 r1 => ?_
  cases hi : insAt C d s1 with
  | none => rw [hi] at q1; exact q1.elim
  | some pf =>
    obtain ⟨p, fs⟩ := pf
    rw [hi] at q1
    dsimp only at q1
    by_cases hl : fs.lookup m = none
    · rw [if_pos hl] at q1
      obtain ⟨a, c', dx, es, rfl, rfl, z1, h3, h4, h5, h6⟩ := ins_rep a1.hold r1 hi
      have h3 : X.mg C = some (.ref c') := h3
      rw [hm] at h3; cases h3
      refine ⟨a, dx, es, rfl, h4, ?_, ?_⟩
      · rcases entF_lookup (f := m) h6 with ⟨_, n2⟩ | ⟨w, d', h7, _⟩
        · exact n2
        · rw [h7] at hl; cases hl
      refine semA_k a1 (R.post_mono (R.post_bind q1) (fun _ _ z => z) fun _ _ _ z => z.le l1) fun ds s2 vs m2 H2 q2 l2 a2 r2 => ?_
      by_cases cn : ds.length + 1 = n
      · rw [if_pos cn] at q2
        rw [List.append_nil]
        exact ⟨m2, s2, .ref p :: ds, by rw [List.length_cons, cn, hn], a2.hold, .cons (r1.le l2) r2, R.post_mono q2 (fun _ _ z => PD.le (l1.trans l2) z) fun _ _ _ z => WX.le (l1.trans l2) z⟩
      · rw [if_neg cn] at q2; exact q2.elim
    · rw [if_neg hl] at q1; exact q1.elim
theorem s_mth {pl : Sem Bool} {c : Addr} (h : KeepsM X.prog X.w X.K X.mg X.base L C m ps F f fd) (hcm : X.mg C = some (.ref c)) (hc : ClsF X.K X.mg C) (hl : L ≤ L') (hr : Room L' X.A) (hn : ps.length = n)
    (ho : PE X o (sem ⟨X.K, X.mg⟩ E0 x)) (ha : PA X (e :: es) (semA ⟨X.K, X.mg⟩ E0 fa))
    (hst : starEach (e :: es) X.env = (false, eval e X.env) :: starEach es X.env := by rfl) (hpl : (backTo pos (starEach es X.env)).any (·.1) = false := by rfl)
    (ht : eval (.Call (.Attribute o m apos) (e :: es) [] pos) X.env = (do
      let ov ← eval o X.env
      standAt apos.atName
      let (f, first) ← holding [ov] (getMethod ov m pl)
      callWith pos f first (backTo pos (starEach (e :: es) X.env)) (backToKw pos (keywordEach [] X.env))) := by rfl) :
    PE X (.Call (.Attribute o m apos) (e :: es) [] pos) (sem ⟨X.K, X.mg⟩ E0 (eMth C m n F x fa)) :=
  PE.of (pe_meth (pl := pl) ho (hc c hcm) (h.mt c hcm) (h.ok.mono hl) hr h.bd .nil pass0 ha hst hpl ht) fun _ _ _ q => sem_mth hn c hcm q
theorem s_mth0 {pl : Sem Bool} {c : Addr} (h : KeepsM X.prog X.w X.K X.mg X.base L C m ps F f fd) (hcm : X.mg C = some (.ref c)) (hc : ClsF X.K X.mg C) (hl : L ≤ L') (hr : Room L' X.A) (hn : ps.length = n)
    (ho : PE X o (sem ⟨X.K, X.mg⟩ E0 x))
    (ht : eval (.Call (.Attribute o m apos) [] [] pos) X.env = (do
      let ov ← eval o X.env
      standAt apos.atName
      let (f, first) ← holding [ov] (getMethod ov m pl)
      callWith pos f first (backTo pos (starEach [] X.env)) (backToKw pos (keywordEach [] X.env))) := by rfl) :
    PE X (.Call (.Attribute o m apos) [] [] pos) (sem ⟨X.K, X.mg⟩ E0 (eMth C m n F x aN)) := by
  refine PE.of (pe_meth0 (pl := pl) ho (hc c hcm) (h.mt c hcm) (h.ok.mono hl) hr h.bd .nil pass0 ht) fun σ H Q q => ?_
  obtain ⟨m0, env, s, ag, q⟩ := q
  refine sem_k ag (R.post_bind q) fun d s1 v m1 H1 q1 l1 a1 r1 => ?_
  cases hi : insAt C d s1 with
  | none => rw [hi] at q1; exact q1.elim
  | some pf =>
    obtain ⟨p, fs⟩ := pf
    rw [hi] at q1
    dsimp only at q1
    by_cases hl : fs.lookup m = none
    · rw [if_pos hl] at q1
      obtain ⟨a, c', dx, es, rfl, rfl, z1, h3, h4, h5, h6⟩ := ins_rep a1.hold r1 hi
      have h3 : X.mg C = some (.ref c') := h3
      rw [hcm] at h3; cases h3
      refine ⟨a, dx, es, rfl, h4, ?_, ?_⟩
      · rcases entF_lookup (f := m) h6 with ⟨_, n2⟩ | ⟨w, d', h7, _⟩
        · exact n2
        · rw [h7] at hl; cases hl
      · have q2 : (if ([] : List D).length + 1 = n then F (.ref p :: []) s1 else .no).post _ _ := q1
        by_cases cn : ([] : List D).length + 1 = n
        · rw [if_pos cn] at q2
          exact ⟨m1, s1, [.ref p], by rw [hn, ← cn]; rfl, a1.hold, .cons r1 .nil, R.post_mono q2 (fun _ _ z => PD.le l1 z) fun _ _ _ z => WX.le l1 z⟩
        · rw [if_neg cn] at q2; exact q2.elim
    · rw [if_neg hl] at q1; exact q1.elim
theorem s_new {c : Addr} {pn : Pos} {cn : Str} (h : KeepsM X.prog X.w X.K X.mg X.base L C "__init__" ps F f fd) (hcm : X.mg C = some (.ref c)) (hmk : Mk X.K c f) (hl : L + 1 ≤ L') (hr : Room L' X.A) (hn : ps.length = n) (hg : Gl X C)
    (ha : PA X (e :: es) (semA ⟨X.K, X.mg⟩ E0 fa)) (hdb : (C == ("__debug__" : Str)) = false := by decide) (he : starEach (e :: es) X.env = (false, eval e X.env) :: starEach es X.env := by rfl) (hpl : (backTo pos (starEach es X.env)).any (·.1) = false := by rfl) :
    PE X (.Call (.Name C pn) (e :: es) [] pos) (sem ⟨X.K, X.mg⟩ E0 (eNew C n F fa)) := by
  refine PE.of (pe_make hmk h.ok (hr.mono hl) hg hcm h.bd .nil pass0 ha hdb he hpl) fun σ H Q ⟨m0, env, s, ag, q⟩ => ?_
  refine semA_k ag (R.post_bind q) fun ds s1 vs m1 H1 q1 l1 a1 r1 => ?_
  by_cases cn : ds.length + 1 = n
  · rw [if_pos cn] at q1
    intro x dx hx hdx hne
    have l2 : Le m1 H1 m1 (upd H1 dx (.own x)) := Le.aside a1.hold hdx
    have hold2 : Hold ⟨X.K, X.mg⟩ m1 s1 (upd H1 dx (.own x)) := a1.hold.aside hdx
    have hx2 : upd H1 dx (.own x) x = none := by rw [upd_ne (fun z => hne z.symm)]; exact hx
    have l3 : Le m1 (upd H1 dx (.own x)) (m1 ++ [x]) (upd (upd H1 dx (.own x)) x (.ins c dx [])) := Le.new hold2 hx2
    have hold3 : Hold ⟨X.K, X.mg⟩ (m1 ++ [x]) (s1 ++ [.ins C []]) (upd (upd H1 dx (.own x)) x (.ins c dx [])) :=
      hold2.new hx2 ⟨c, dx, [], hcm, upd_same, by rw [upd_ne hne]; exact upd_same, .nil⟩
    have hxr : Rep ⟨X.K, X.mg⟩ (m1 ++ [x]) (upd (upd H1 dx (.own x)) x (.ins c dx [])) (.ref x) (.ref s1.length) := .ref (by
      rw [← a1.hold.len, List.getElem?_append_right (Nat.le_refl _), Nat.sub_self]; rfl)
    rw [List.append_nil]
    refine ⟨m1 ++ [x], s1 ++ [.ins C []], .ref s1.length :: ds, by rw [List.length_cons, cn, hn], hold3, .cons hxr (r1.le (l2.trans l3)), ?_⟩
    refine R.post_mono (R.post_bind q1) (fun r s2 z => ?_) fun _ _ _ z => WX.le (l1.trans (l2.trans l3)) z
    intro v m' H' l4 hold4 r4
    cases r with
    | non =>
      cases r4
      refine ⟨rfl, ?_⟩
      cases hxr with
      | ref hxr => exact z (.ref x) m' H' (l1.trans (l2.trans (l3.trans l4))) hold4 (.ref (l4.get hxr))
    | _ => exact z.elim
  · rw [if_neg cn] at q1; exact q1.elim
end
/-- x.f op= v, of ints -/
def sFldAug (o : OP2) (C f : Str) (x v : EX) : ST := fun env s => (x env s).go fun d s1 => (R.of ((fldD C f d s1).map fun y => (y, s1))).go fun old s1 => (v env s1).go fun y s2 => (R.of (o old y s2)).go fun z s3 => match insAt C d s3 with
  | some (p, fs) => if fs.length < 1000 then .nx env (s3.set p (.ins C (putFD f z fs))) else .no
  | none => .no
end Mi

set_option Elab.async false
set_option linter.all false
set_option maxRecDepth 100000
set_option maxHeartbeats 4000000
namespace Mi
open PySem PySem.Spec PyProof.Rows L2
/-! ### d.get(k, z) -/
def eDGet2 (f f' f'' : EX) : EX := fun env s => (f env s).bind fun d s1 => match dctAt d s1 with
  | none => .no
  | some _ => (f' env s1).bind fun k s2 => (f'' env s2).bind fun z s3 => match dctAt d s3, keyD k with
    | some kvs, some k' => .ok ((valD kvs k').getD z) s3
    | _, _ => .no
section
variable {X : Cx} {g : G} {W : XK} {f f' f'' : EX} {o e e2 : Expr} {apos cpos : Pos}
theorem s_dget2 (hu : X.A.units + 1 < cLine) (ho : PE X o (sem g W f)) (he : PE X e (sem g W f')) (hf : PE X e2 (sem g W f'')) (m : M2 X o "get" apos e e2 cpos) : PE X (.Call (.Attribute o "get" apos) [e, e2] [] cpos) (sem g W (eDGet2 f f' f'')) := by
  refine PE.of (pe_dget2 hu ho he hf m) fun σ H Q ⟨m0, env, s, ag, q⟩ => ?_
  refine sem_k ag (R.post_bind q) fun d s1 v m1 H1 q1 l1 a1 r1 => ?_
  cases hd : dctAt d s1 with
  | none => rw [hd] at q1; exact q1.elim
  | some kvs0 =>
    rw [hd] at q1
    dsimp only at q1
    obtain ⟨p, a, es, rfl, rfl, z, e2', t⟩ := dct_rep a1.hold r1 hd
    refine ⟨a, rfl, .inl ⟨es, .inl e2'⟩, ?_⟩
    refine sem_k a1 (R.post_mono (R.post_bind q1) (fun _ _ z => z) fun _ _ _ z => z.le l1) fun k s2 w m2 H2 q2 l2 a2 r2 => ?_
    refine sem_k a2 (R.post_mono (R.post_bind q2) (fun _ _ z => z) fun _ _ _ z => z.le (l1.trans l2)) fun y s3 u m3 H3 q3 l3 a3 r3 => ?_
    cases hd3 : dctAt (.ref p) s3 with
    | none => rw [hd3] at q3; exact q3.elim
    | some kvs =>
      rw [hd3] at q3
      cases hk : keyD k with
      | none => rw [hk] at q3; exact q3.elim
      | some k' =>
        rw [hk] at q3
        have q3 : PD g m0 H Q ((valD kvs k').getD y) s3 := q3
        obtain ⟨p', a', es', e0, e1, z', e2'', t'⟩ := dct_rep a3.hold ((r1.le l2).le l3) hd3
        cases e1
        have hkey := key_rep r2 hk
        subst hkey
        rcases val_rep (k := k') t' with ⟨e3, e4⟩ | ⟨u', d', e3, e4, r⟩
        · refine ⟨none, by rw [← e4]; exact DGet.k e2'', ?_⟩
          rw [e3] at q3
          exact q3 u m3 H3 (l1.trans (l2.trans l3)) a3.hold r3
        · refine ⟨some u', by rw [← e4]; exact DGet.k e2'', ?_⟩
          rw [e3] at q3
          exact q3 u' m3 H3 (l1.trans (l2.trans l3)) a3.hold r
end
section
variable {f f' f'' : EX}
theorem w_DGet2 {env : Env} {s : S} {Q : D → S → Prop} : W (eDGet2 f f' f'') env s Q ↔ W f env s fun d s1 => WP (dctAt d s1) fun _ => W f' env s1 fun k s2 => W f'' env s2 fun z s3 => WP (dctAt d s3) fun kvs => WP (keyD k) fun k' => Q ((valD kvs k').getD z) s3 := by
  unfold W eDGet2
  rw [wf_bind]
  refine wf_congr fun d s1 => ?_
  cases dctAt d s1 with
  | none => exact ⟨fun ⟨_, _, e, _⟩ => (by cases e), fun ⟨_, e, _⟩ => (by cases e)⟩
  | some kv =>
    rw [wp_some]
    dsimp only
    rw [wf_bind]
    refine wf_congr fun k s2 => ?_
    rw [wf_bind]
    refine wf_congr fun z s3 => ?_
    cases dctAt d s3 with
    | none => exact ⟨fun ⟨_, _, e, _⟩ => (by cases e), fun ⟨_, e, _⟩ => (by cases e)⟩
    | some kvs =>
      rw [wp_some]
      cases keyD k with
      | none => exact ⟨fun ⟨_, _, e, _⟩ => (by cases e), fun ⟨_, e, _⟩ => (by cases e)⟩
      | some k' => rw [wp_some]; exact wf_ok
end
/-! ### list.index, list.count, list.remove -/
theorem int_inj {a b : List Int} (h : a.map V.int = b.map V.int) : a = b := by
  induction a generalizing b with
  | nil => cases b with
    | nil => rfl
    | cons => cases h
  | cons x a ih => cases b with
    | nil => cases h
    | cons y b =>
      rw [List.map_cons, List.map_cons] at h
      injection h with h1 h2
      cases h1
      rw [ih h2]
def idxM : OPM := fun d ds s => match d, ds with
  | .ref p, [y] => match s[p]? with
    | some (.lst xs) => if (flatD y && xs.all flatD) = true then (match xs.findIdx? (fun z => eqF z y) with
      | some j => some (.int (j : Int), s)
      | none => none) else none
    | _ => none
  | _, _ => none
def cntM : OPM := fun d ds s => match d, ds with
  | .ref p, [.int k] => match s[p]? with
    | some (.lst xs) => (intsD xs).map fun ns => (.int (ns.count k : Nat), s)
    | _ => none
  | _, _ => none
section
variable {g : G}
theorem rep_lst' {m : List Addr} {H : Hp} {s : S} {v : V} {p : Nat} {ds : List D} (hold : Hold g m s H) (r : Rep g m H v (.ref p)) (e : s[p]? = some (.lst ds)) : ∃ a xs, v = .ref a ∧ m[p]? = some a ∧ H a = some (.lst xs) ∧ Reps g m H xs ds := by
  obtain ⟨a, ys, h1, h2, h3, h4⟩ := rep_lst hold r e
  exact ⟨a, ys, h1, h2, h3, h4⟩
theorem om_idx : OM g (rIndex g.K) idxM := by
  intro m H s v vs d ds x s' Q hold r rs he q
  unfold idxM at he
  split at he
  · rename_i p y
    split at he
    · rename_i xs e1
      by_cases c : (flatD y && xs.all flatD) = true
      · rw [if_pos c] at he
        cases hf : xs.findIdx? (fun z => eqF z y) with
        | none => rw [hf] at he; cases he
        | some j =>
          rw [hf] at he; cases he
          rw [Bool.and_eq_true] at c
          obtain ⟨a, ys, rfl, z, e2, t⟩ := rep_lst' hold r e1
          obtain ⟨w, rfl, rw1⟩ := reps1 rs
          obtain ⟨hj, h1, h2⟩ := List.findIdx?_eq_some_iff_getElem.mp hf
          obtain ⟨z0, hz0, rz0⟩ := Reps.get t (List.getElem?_eq_getElem hj)
          have fl : ∀ d ∈ xs, flatD d = true := List.all_eq_true.mp c.2
          refine ⟨a, ys, w, j, z0, rfl, rfl, .of e2, flat_rep rw1 c.1, flats_rep t c.2, hz0, ?_, ?_, PD.here hold (.int _) q⟩
          · rw [eqF_rep rz0 rw1 (fl _ (List.getElem_mem hj)) c.1]; exact h1
          · intro k z' hk hz'
            obtain ⟨d', hd', rd'⟩ := Reps.get' t hz'
            have hkl := (List.getElem?_eq_some_iff.mp hd')
            obtain ⟨hkl, hkd⟩ := hkl
            rw [eqF_rep rd' rw1 (fl _ (List.mem_of_getElem? hd')) c.1]
            have := h2 k hk
            rw [hkd] at this
            simpa using this
      · rw [if_neg c] at he; cases he
    · cases he
  · cases he
theorem om_cnt : OM g (rCntI g.K) cntM := by
  intro m H s v vs d ds x s' Q hold r rs he q
  unfold cntM at he
  split at he
  · rename_i p k
    split at he
    · rename_i xs e1
      cases hi : intsD xs with
      | none => rw [hi] at he; cases he
      | some ns =>
        rw [hi] at he; cases he
        obtain ⟨a, ys, rfl, z, e2, t⟩ := rep_lst' hold r e1
        obtain ⟨w, rfl, rw1⟩ := reps1 rs
        have hw := rep_int rw1
        subst hw
        have hy := ints_rep t hi
        subst hy
        exact ⟨a, ns, k, rfl, rfl, .of e2, PD.here hold (.int _) q⟩
    · cases he
  · cases he
end
/-! ### xs[i] op= e -/
theorem get_list {X : Cx} : PGet X (rIxL X.K) := by
  intro pins s σ H x y v u Q I rx ry h
  obtain ⟨p, xs, i, z, rfl, rfl, hq, he, q⟩ := h
  cases rx
  obtain ⟨t, rfl⟩ := ry
  obtain ⟨its, r, pl, hz⟩ := I.list hq
  obtain ⟨j, h1, h2, h3, h4, h5⟩ := atI_get he
  obtain ⟨w, ew, rw'⟩ := r.get h2
  have hl := r.length
  have hn := line63
  have fin : EP X pins σ Q w s := ⟨z, H, I, rw', q⟩
  by_cases h0 : 0 ≤ i
  · have hj : i.toNat = j := by
      rw [seqIndex_of h0 h5] at h1
      exact Option.some.inj h1
    exact wpAny_getItem_list pl.isList h0 (by omega) (by rw [hj]; simpa using ew) fin
  · have hj : (i + (its.toArray.size : Int)).toNat = j := by
      rw [seqIndex_neg (by omega) h4] at h1
      rw [List.size_toArray, ← hl]
      exact Option.some.inj h1
    exact wpAny_getItem_list_neg pl.isList (by omega) (by rw [List.size_toArray] <;> omega) (by omega) (by rw [hj]; simpa using ew) fin
/-- xs[i], of a list of the store -/
def ixLD : OP2 := fun d k s => match d, k with
  | .ref p, .int i => match s[p]? with
    | some (.lst xs) => (atI xs i).map fun x => (x, s)
    | _ => none
  | _, _ => none
/-- xs[i] op= e: the list, the index, the value -/
def sLAug (o : OP2) (f' f'' f : EX) : ST := fun env s => (f' env s).go fun d s1 => (f'' env s1).go fun k s2 => (R.of (ixLD d k s2)).go fun old s2 => (f env s2).go fun x s3 => (R.of (o old x s3)).go fun y s4 => match setLD d k y s4 with
  | some s5 => .nx env s5
  | none => .no
section
variable {X : Cx} {g : G} {W : XK} {f f' f'' : EX} {st : Stmt}
theorem c_laug {r : R2} {o : OP2} (h : PS X st (tAugS (sem g W f') (sem g W f'') (sem g W f) (rIxL g.K) r rSetL)) (ho : O2 g r o) : PS X st (semS g W (sLAug o f' f'' f)) := by
  refine PS.of h fun B σ H ⟨m, env, s, a, q⟩ => ?_
  refine sem_k a (R.go_post q) fun d s1 w m1 H1 q1 l1 a1 r1 => ?_
  refine sem_k a1 (R.go_post (Fl.post_le l1 q1)) fun k s2 u m2 H2 q2 l2 a2 r2 => ?_
  obtain ⟨old, s2', e0, q2⟩ := R.post_of (R.go_post q2)
  unfold ixLD at e0
  split at e0
  · rename_i p i _
    split at e0
    · rename_i xs e1
      cases hx : atI xs i with
      | none => rw [hx] at e0; cases e0
      | some od =>
        rw [hx] at e0; cases e0
        obtain ⟨b, ys, rfl, z, e2, t⟩ := rep_lst' a2.hold (r1.le l2) e1
        obtain ⟨ov, e3, r3⟩ := atI_rep t hx
        have hi := rep_int r2
        subst hi
        refine ⟨b, ys, i, ov, rfl, rfl, .of e2, e3, ?_⟩
        refine sem_k a2 (R.go_post (Fl.post_le l2 q2)) fun x s3 xv m3 H3 q3 l3 a3 r3' => ?_
        obtain ⟨y, s4, e5, q4⟩ := R.post_of (R.go_post q3)
        refine ho m3 H3 s3 ov xv _ x y s4 _ a3.hold (r3.le l3) r3' e5 fun yv m4 H4 l4 hold4 r4 => ?_
        split at q4
        · rename_i s5 e6
          exact setL_ok hold4 (((r1.le l2).le l3).le l4) ((r2.le l3).le l4) r4 e6 fun H' l' h' => q4 σ m4 H' (l3.trans (l4.trans l')) (a3.go (l4.trans l') h')
        · exact q4.elim
    · cases e0
  · cases e0
end
section
variable {f f' f'' : EX} {env : Env} {s : S} {N : Env → S → Prop} {Rt : D → S → Prop} {B C : Env → S → Prop}
theorem ws_laug {o : OP2} : WS (sLAug o f' f'' f) env s N Rt B C ↔ W f' env s fun d s1 => W f'' env s1 fun k s2 => WP (ixLD d k s2) fun old => W f env old.2 fun x s3 => WP (o old.1 x s3) fun y => WP (setLD d k y.1 y.2) fun s4 => N env s4 := by
  unfold WS sLAug W
  rw [ws_go]
  refine wf_congr fun d s1 => ?_
  rw [ws_go]
  refine wf_congr fun k s2 => ?_
  rw [ws_go, wf_of]
  refine wp_congr fun old => ?_
  rw [ws_go]
  refine wf_congr fun x s3 => ?_
  rw [ws_go, wf_of]
  refine wp_congr fun y => ?_
  cases setLD d k y.1 y.2 <;> simp [wp_some, wp_none]
end
/-! ### a def in a local name, called -/
def eCallV (i n : Nat) (Fs : List (Str × FN)) (fa : EA) : EX := fun env s => match env[i]? with
  | some (some (.glo x)) => (match Fs.lookup x with
    | some F => (fa env s).bind fun ds s1 => if ds.length = n then F ds s1 else .no
    | none => .no)
  | _ => .no
section
variable {X : Cx} {i n L' : Nat} {Fs : List (Str × FN)} {z : Str} {e : Expr} {es : List Expr} {fa : EA} {p pos : Pos}
theorem s_callV (hF : ∀ x F, Fs.lookup x = some F → ∃ L ps f fd, L ≤ L' ∧ ps.length = n ∧ Keeps X.prog X.w X.K X.mg X.base L x ps F f fd) (hr : Room L' X.A) (hN : X.N[i]? = some z) (hv : Vis X.env.scope z)
    (ha : PA X (e :: es) (semA ⟨X.K, X.mg⟩ E0 fa)) (hd : (z == ("__debug__" : Str)) = false := by decide) (hcd : (z == ("__classdict__" : Str)) = false := by decide)
    (he : starEach (e :: es) X.env = (false, eval e X.env) :: starEach es X.env := by rfl) (hpl : (backTo pos (starEach es X.env)).any (·.1) = false := by rfl) :
    PE X (.Call (.Name z p) (e :: es) [] pos) (sem ⟨X.K, X.mg⟩ E0 (eCallV i n Fs fa)) := by
  refine ⟨fun pins s σ H Q I h => ?_⟩
  obtain ⟨m, env, s0, ag, q⟩ := h
  unfold eCallV at q
  split at q
  · rename_i x hx
    split at q
    · rename_i F hFx
      obtain ⟨L, ps, f, fd, hl, hn, K⟩ := hF x F hFx
      obtain ⟨v, hσ, rv⟩ := ag.val i _ hx
      cases rv with
      | @glo a _ hm =>
        have hm : X.mg x = some (.ref a) := hm
        rw [K.at_] at hm; cases hm
        have c : C8.CalAt X.prog X.w X.K X.mg X.base L f (spF ⟨X.K, X.mg⟩ ps.length F) := ⟨⟨fd, ps, K.ok, K.kp, K.bd⟩⟩
        refine (C8.pe_cv c c hr hl hl hN hv ha hd hcd he hpl).run pins s σ H Q I (.inl ⟨hσ, ?_⟩)
        refine semA_k ag (R.post_bind q) fun ds s1 vs m1 H1 q1 l1 a1 r1 => ?_
        by_cases cn : ds.length = n
        · rw [if_pos cn] at q1
          exact ⟨m1, s1, ds, cn.trans hn.symm, a1.hold, r1, R.post_mono q1 (fun _ _ z => PD.le l1 z) fun _ _ _ z => WX.le l1 z⟩
        · rw [if_neg cn] at q1; exact q1.elim
    · exact q.elim
  · exact q.elim
end
section
variable {i n : Nat} {Fs : List (Str × FN)} {fa : EA} {env : Env} {s : S} {Q : D → S → Prop}
theorem w_callV : W (eCallV i n Fs fa) env s Q ↔ WP (env[i]?) fun o => WP o fun d => ∃ x, d = .glo x ∧ WP (Fs.lookup x) fun F => WA fa env s fun ds s1 => ds.length = n ∧ WF (F ds s1) Q := by
  have no : ∀ {α : Type} {P : α → S → Prop}, ¬ WF (.no : R α) P := fun ⟨_, _, e, _⟩ => by cases e
  have nn : ∀ {α : Type} {P : α → Prop}, ¬ WP (none : Option α) P := fun ⟨_, e, _⟩ => by cases e
  unfold W eCallV
  cases he : env[i]? with
  | none => exact ⟨fun h => absurd h no, fun h => absurd h nn⟩
  | some o =>
    rw [wp_some]
    cases o with
    | none => exact ⟨fun h => absurd h no, fun h => absurd h nn⟩
    | some d =>
      rw [wp_some]
      cases d with
      | glo x =>
        dsimp only
        cases hF : Fs.lookup x with
        | none => exact ⟨fun h => absurd h no, fun ⟨y, e, h⟩ => by cases e; rw [hF] at h; exact absurd h nn⟩
        | some F =>
          dsimp only
          rw [wf_bind]
          have k : (WF (fa env s) fun ds s1 => WF (if ds.length = n then F ds s1 else .no) Q) ↔ WA fa env s fun ds s1 => ds.length = n ∧ WF (F ds s1) Q := by
            refine wf_congr fun ds s1 => ?_
            by_cases c : ds.length = n
            · rw [if_pos c]; exact ⟨fun h => ⟨c, h⟩, And.right⟩
            · rw [if_neg c]; exact ⟨fun h => absurd h no, fun h => absurd h.1 c⟩
          rw [k]
          exact ⟨fun h => ⟨x, rfl, by rw [hF, wp_some]; exact h⟩, fun ⟨y, e, h⟩ => by cases e; rw [hF, wp_some] at h; exact h⟩
      | _ => exact ⟨fun h => absurd h no, fun ⟨y, e, _⟩ => by cases e⟩
end
section
variable {P : Program} {w : World} {K : PySem.W.Frag} {mg : Str → Option Value} {base : Heap} {L' n : Nat}
/-- the defs that a local name may hold -/
def FsOk (P : Program) (w : World) (K : PySem.W.Frag) (mg : Str → Option Value) (base : Heap) (L' n : Nat) (Fs : List (Str × FN)) : Prop := ∀ x F, Fs.lookup x = some F → ∃ L ps f fd, L ≤ L' ∧ ps.length = n ∧ Keeps P w K mg base L x ps F f fd
theorem fo_nil : FsOk P w K mg base L' n [] := fun _ _ h => by cases h
theorem fo_cons {L : Nat} {x : Str} {ps : List Str} {F : FN} {f : Addr} {fd : FuncData} {Fs : List (Str × FN)} (k : Keeps P w K mg base L x ps F f fd) (hl : L ≤ L') (hn : ps.length = n) (r : FsOk P w K mg base L' n Fs) : FsOk P w K mg base L' n ((x, F) :: Fs) := by
  intro y G h
  rw [List.lookup_cons] at h
  cases c : y == x with
  | true =>
    rw [c] at h
    cases h
    have : y = x := eq_of_beq c
    subst this
    exact ⟨L, ps, f, fd, hl, hn, k⟩
  | false => rw [c] at h; exact r y G h
end
end Mi

set_option Elab.async false
set_option linter.all false
set_option maxRecDepth 100000
namespace Mi
open PySem PySem.Spec PyProof.Rows L2
/-! ### isinstance(x, (A, B)) -/
def tysD : List D → Option (List String)
  | [] => some []
  | .ty c :: ds => (tysD ds).map (c :: ·)
  | _ => none
def isAny (n : String) : List String → Option Bool
  | [] => some false
  | c :: cs => match isB n c with
    | some true => some true
    | some false => isAny n cs
    | none => none
def isiTB : OPN := fun ds s => match ds with
  | [d, .tup es] => match tyN d s, tysD es with
    | some n, some cs => (isAny n cs).map fun b => (.bl b, s)
    | _, _ => none
  | _ => none
theorem tys_rep {g : G} {m : List Addr} {H : Hp} : ∀ {xs : List V} {ds : List D} {cs : List String}, Reps g m H xs ds → tysD ds = some cs → xs = cs.map V.ty
  | _, _, _, .nil, h => by cases h; rfl
  | _, _, _, .cons (d := d) (ds := ds) r t, h => by
    cases r <;> first | (cases h; done) | skip
    rename_i c
    have h : (tysD ds).map (c :: ·) = some _ := h
    cases e : tysD ds with
    | none => rw [e] at h; cases h
    | some cs =>
      rw [e] at h; cases h
      rw [tys_rep t e]; rfl
theorem any_ok {d : D} {s : S} {n : String} (K : PySem.W.Frag) (hn : tyN d s = some n) : ∀ {cs : List String} {b : Bool}, isAny n cs = some b → PySem.W.kitAny K (.type n) (cs.map Value.type) = some b
  | [], _, h => by cases h; rfl
  | c :: cs, b, h => by
    unfold isAny at h
    show (match PySem.W.kitOne K (.type n) (.type c) with | some true => some true | some false => PySem.W.kitAny K (.type n) (cs.map Value.type) | none => none) = some b
    cases hb : isB n c with
    | none => rw [hb] at h; cases h
    | some b' =>
      rw [hb] at h
      rw [isB_ok K hn hb]
      cases b' with
      | true => exact h
      | false => exact any_ok K hn h
theorem cls_tys : ∀ cs : List String, Paired ClsV (cs.map V.ty) (cs.map Value.type)
  | [] => .nil
  | c :: cs => .cons (.ty c) (cls_tys cs)
theorem vals_tys : ∀ {cs : List String} {us : List Value}, Vals (cs.map V.ty) us → us = cs.map Value.type
  | [], _, h => by cases h; rfl
  | c :: cs, _, h => by
    cases h with
    | cons r t =>
      rw [vals_tys t]
      have : _ = Value.type c := r
      rw [this]; rfl
section
variable {X : Cx} {g : G}
theorem call_isiTK : CallR X (.builtin "isinstance") (fun xs H Q => rIsiT X.K xs H Q ∨ rIsiK X.K xs H Q) := call_isiT.or call_isiK
theorem on_isiT : ON g (fun xs H Q => rIsiT g.K xs H Q ∨ rIsiK g.K xs H Q) isiTB := by
  intro m H s vs ds x s' Q hold rv he q
  unfold isiTB at he
  split at he
  · rename_i d es
    obtain ⟨v, w, rfl, r, r'⟩ := reps2 rv
    split at he
    · rename_i n cs hn hc
      cases hb : isAny n cs with
      | none => rw [hb] at he; cases he
      | some b =>
        rw [hb] at he; cases he
        cases r' with
        | @tup a xs _ z t =>
          have hx := tys_rep t hc
          subst hx
          rcases z with ⟨z, _⟩ | ⟨o, its, k, h1, h2, h3, h4, h5⟩
          · exact .inl ⟨v, a, _, .type n, _, b, rfl, z, cls_tys cs, tyX_of hold r hn, any_ok g.K hn hb, PD.here hold (.bl _) q⟩
          · have hu := vals_tys h5
            have ho : o = ⟨.type "tuple", o.dict, .seq (cs.map Value.type).toArray k, o.slots⟩ := by
              obtain ⟨oc, od, dt, sl⟩ := o
              simp only at h2 h3
              subst h2 h3
              rw [← hu, Array.toArray_toList]
            rw [ho] at h1
            exact .inr ⟨v, a, _, cs.map Value.type, k, _, .type n, b, rfl, h1, tyX_of hold r hn, any_ok g.K hn hb, PD.here hold (.bl _) q⟩
    · cases he
  · cases he
end
end Mi

set_option Elab.async false
set_option linter.all false
set_option maxRecDepth 100000
namespace Mi
open PySem PySem.Spec PyProof.Rows L2
/-! ### dicts as sets of ints -/
def addL (L : List Int) (x : Int) : List Int := if x ∈ L then L else L ++ [x]
def keysL (L : List Int) : List (Key × D) := L.map fun r => (Sum.inl r, D.bl true)
theorem val_keys (L : List Int) (r : Int) : valD (keysL L) (.inl r) = if r ∈ L then some (.bl true) else none := by
  induction L with
  | nil => rfl
  | cons x L ih =>
    unfold keysL valD at ih ⊢
    rw [List.map_cons, List.find?_cons]
    by_cases h : x = r
    · subst h
      simp
    · have h2 : ¬ r = x := fun z => h z.symm
      have : decide ((Sum.inl x : Key) = Sum.inl r) = false := decide_eq_false fun z => h (Sum.inl.inj z)
      rw [this]
      dsimp only
      rw [ih]
      simp [h2]
theorem isSome_keys (L : List Int) (r : Int) : (valD (keysL L) (.inl r)).isSome = decide (r ∈ L) := by
  rw [val_keys]
  by_cases h : r ∈ L <;> simp [h]
theorem put_keys (L : List Int) (r : Int) : putD (keysL L) (.inl r) (.bl true) = keysL (addL L r) := by
  unfold putD addL
  have e : ((keysL L).any fun kv => decide (kv.1 = Sum.inl r)) = decide (r ∈ L) := by
    induction L with
    | nil => rfl
    | cons x L ih =>
      unfold keysL at ih ⊢
      rw [List.map_cons, List.any_cons, ih]
      by_cases h : x = r
      · subst h; simp
      · have h2 : ¬ r = x := fun z => h z.symm
        have : decide ((Sum.inl x : Key) = Sum.inl r) = false := decide_eq_false fun z => h (Sum.inl.inj z)
        rw [this, Bool.false_or]
        simp [h2]
  rw [e]
  by_cases h : r ∈ L
  · rw [if_pos (decide_eq_true h), if_pos h]
    unfold keysL
    rw [List.map_map]
    apply List.map_congr_left
    intro x hx
    dsimp only [Function.comp]
    by_cases c : (Sum.inl x : Key) = Sum.inl r
    · rw [if_pos c]
    · rw [if_neg c]
  · rw [if_neg (by simp [h]), if_neg h]
    unfold keysL
    rw [List.map_append]; rfl
theorem keysL_length (L : List Int) : (keysL L).length = L.length := by unfold keysL; rw [List.length_map]
theorem dctAt_ref {p : Nat} {kvs : List (Key × D)} {s : S} (h : s[p]? = some (.dct kvs)) : dctAt (.ref p) s = some kvs := by simp only [dctAt, h]
theorem dget_k {p : Nat} {kvs : List (Key × D)} {s : S} {k : D} {k' : Key} (h : s[p]? = some (.dct kvs)) (hk : keyD k = some k') : dgetD (.ref p) k s = (valD kvs k').map fun v => (v, s) := by simp only [dgetD, dctAt_ref h, hk]
theorem dput_k {p : Nat} {kvs : List (Key × D)} {s : S} {k v : D} {k' : Key} (h : s[p]? = some (.dct kvs)) (hk : keyD k = some k') : dputD (.ref p) k v s = if kvs.length < 16777216 then some (s.set p (.dct (putD kvs k' v))) else none := by simp only [dputD, dctAt_ref h, hk]
theorem din_k {p : Nat} {kvs : List (Key × D)} {s : S} {k : D} {k' : Key} {neg : Bool} (h : s[p]? = some (.dct kvs)) (hk : keyD k = some k') : dinD neg k (.ref p) s = some (.bl (if neg then !(valD kvs k').isSome else (valD kvs k').isSome), s) := by simp only [dinD, dctAt_ref h, hk]
theorem din_L {q : Nat} {L : List Int} {a : Int} {neg : Bool} {s : S} (h : s[q]? = some (.dct (keysL L))) : dinD neg (.int a) (.ref q) s = some (.bl (if neg then !decide (a ∈ L) else decide (a ∈ L)), s) := by
  rw [din_k h (by rfl), isSome_keys]
end Mi

set_option Elab.async false
set_option linter.all false
set_option maxRecDepth 100000
namespace Mi
open PySem PySem.Spec PyProof.Rows L2
section
variable {b : ST} {env : Env} {s : S} {N : Env → S → Prop} {Rt : D → S → Prop} {B C : Env → S → Prop} {t : T} {ok : S → Prop} {d : D} {ds : List D}
theorem fs_nil (h : N env s) (hk : ok s) : FS t b ok [] env s N Rt B C := fs_inv (fun i e s' => e = env ∧ s' = s) hk ⟨rfl, rfl⟩ (fun i d e s hi => by simp at hi) (fun e s' ⟨h1, h2⟩ _ => by rw [h1, h2]; exact h)
theorem fs_cons (hk : ok s) (h : WP (asgT t d env) fun e1 => WS b e1 s (fun e s => FS t b ok ds e s N Rt B C) Rt N (fun e s => FS t b ok ds e s N Rt B C)) : FS t b ok (d :: ds) env s N Rt B C := by
  obtain ⟨e1, he, h⟩ := h
  unfold FS forL
  rw [if_pos hk, he]
  dsimp only
  unfold WS at h
  cases hb : b e1 s with
  | nx e2 s2 => rw [hb] at h; unfold FS at h; exact h
  | ct e2 s2 => rw [hb] at h; unfold FS at h; exact h
  | bk e2 s2 => rw [hb] at h; exact h
  | rt d s2 => rw [hb] at h; exact h
  | no => rw [hb] at h; exact h
  | ex c fs s2 => rw [hb] at h; exact h
end
end Mi

set_option Elab.async false
set_option linter.all false
set_option maxRecDepth 100000
namespace Mi
open PySem PySem.Spec PyProof.Rows L2
section
variable {b : ST} {f f' : EX} {c : EB} {e ek ev : EX} {env : Env} {s : S} {N : Env → S → Prop} {Rt : D → S → Prop} {B C : Env → S → Prop} {t : T} {Q : D → S → Prop} {vs : List Nat} {ok : S → Prop}
/-- range(a, b) -/
theorem wi_rg2 {QI : Wk → S → Prop} : WI (iRg2 f f') env s QI ↔ W f env s fun d s1 => W f' env s1 fun e s2 => asI d fun i => asI e fun j => (-4611686018427387904 ≤ i ∧ i < 4611686018427387904 ∧ -4611686018427387904 ≤ j ∧ j < 4611686018427387904) ∧ QI ⟨rng i (j - i).toNat, okT⟩ s2 := by
  unfold W WI iRg2
  rw [wf_bind]
  refine wf_congr fun d s1 => ?_
  rw [wf_bind]
  refine wf_congr fun e s2 => ?_
  cases d <;> first | (simp [wf_no, asI]; done) | skip
  cases e <;> first | (simp [wf_no, asI]; done) | skip
  simp only [wf_if, wf_ok, asI]
  exact Iff.rfl
theorem ws_forG2 : WS (sFor t (iRg2 f f') b) env s N Rt B C ↔ W f env s fun d s1 => W f' env s1 fun e s2 => asI d fun i => asI e fun j => (-4611686018427387904 ≤ i ∧ i < 4611686018427387904 ∧ -4611686018427387904 ≤ j ∧ j < 4611686018427387904) ∧ FS t b okT (rng i (j - i).toNat) env s2 N Rt B C := by
  rw [ws_for_wi, wi_rg2]
theorem w_lcG2 : W (eLc (iRg2 f f') t vs c e) env s Q ↔ W f env s fun d s1 => W f' env s1 fun e' s2 => asI d fun i => asI e' fun j => (-4611686018427387904 ≤ i ∧ i < 4611686018427387904 ∧ -4611686018427387904 ≤ j ∧ j < 4611686018427387904) ∧ CS t vs c e okT env (rng i (j - i).toNat) s2 Q := by
  rw [w_lc_wi, wi_rg2]
end
theorem isD_non {s : S} : isD .non .non s = some (.bl true, s) := rfl
theorem isD_ref {q : Nat} {s : S} : isD (.ref q) .non s = some (.bl false, s) := rfl
theorem isD_tup {ds : List D} {s : S} : isD (.tup ds) .non s = some (.bl false, s) := rfl
theorem isD_int {i : Int} {s : S} : isD (.int i) .non s = some (.bl false, s) := rfl
theorem isD_str {i : Str} {s : S} : isD (.str i) .non s = some (.bl false, s) := rfl
theorem isD_bl {a b : Bool} {s : S} : isD (.bl a) (.bl b) s = some (.bl (decide (a = b)), s) := rfl
theorem isNotD_non {s : S} : isNotD .non .non s = some (.bl false, s) := rfl
theorem isNotD_ref {q : Nat} {s : S} : isNotD (.ref q) .non s = some (.bl true, s) := rfl
theorem isNotD_tup {ds : List D} {s : S} : isNotD (.tup ds) .non s = some (.bl true, s) := rfl
theorem isNotD_int {i : Int} {s : S} : isNotD (.int i) .non s = some (.bl true, s) := rfl
theorem isNotD_str {i : Str} {s : S} : isNotD (.str i) .non s = some (.bl true, s) := rfl
theorem isNotD_bl {a b : Bool} {s : S} : isNotD (.bl a) (.bl b) s = some (.bl (!decide (a = b)), s) := rfl
theorem isiT_tup {ds : List D} {s : S} : isiTB [.tup ds, .tup [.ty "tuple", .ty "list"]] s = some (.bl true, s) := by kernel_rfl
theorem isiT_int {i : Int} {s : S} : isiTB [.int i, .tup [.ty "tuple", .ty "list"]] s = some (.bl false, s) := by kernel_rfl
theorem isiT_str {i : Str} {s : S} : isiTB [.str i, .tup [.ty "tuple", .ty "list"]] s = some (.bl false, s) := by kernel_rfl
theorem isiT_bl {i : Bool} {s : S} : isiTB [.bl i, .tup [.ty "tuple", .ty "list"]] s = some (.bl false, s) := by kernel_rfl
theorem isiT_non {s : S} : isiTB [.non, .tup [.ty "tuple", .ty "list"]] s = some (.bl false, s) := by kernel_rfl
theorem isi_tup_tuple {ds : List D} {s : S} : isiB [.tup ds, .ty "tuple"] s = some (.bl true, s) := by kernel_rfl
theorem isi_tup_str {ds : List D} {s : S} : isiB [.tup ds, .ty "str"] s = some (.bl false, s) := by kernel_rfl
theorem isi_tup_int {ds : List D} {s : S} : isiB [.tup ds, .ty "int"] s = some (.bl false, s) := by kernel_rfl
theorem isi_tup_bool {ds : List D} {s : S} : isiB [.tup ds, .ty "bool"] s = some (.bl false, s) := by kernel_rfl
theorem isi_tup_list {ds : List D} {s : S} : isiB [.tup ds, .ty "list"] s = some (.bl false, s) := by kernel_rfl
theorem isi_str_tuple {x : Str} {s : S} : isiB [.str x, .ty "tuple"] s = some (.bl false, s) := by kernel_rfl
theorem isi_str_str {x : Str} {s : S} : isiB [.str x, .ty "str"] s = some (.bl true, s) := by kernel_rfl
theorem isi_str_int {x : Str} {s : S} : isiB [.str x, .ty "int"] s = some (.bl false, s) := by kernel_rfl
theorem isi_str_bool {x : Str} {s : S} : isiB [.str x, .ty "bool"] s = some (.bl false, s) := by kernel_rfl
theorem isi_str_list {x : Str} {s : S} : isiB [.str x, .ty "list"] s = some (.bl false, s) := by kernel_rfl
theorem isi_int_tuple {i : Int} {s : S} : isiB [.int i, .ty "tuple"] s = some (.bl false, s) := by kernel_rfl
theorem isi_int_str {i : Int} {s : S} : isiB [.int i, .ty "str"] s = some (.bl false, s) := by kernel_rfl
theorem isi_int_int {i : Int} {s : S} : isiB [.int i, .ty "int"] s = some (.bl true, s) := by kernel_rfl
theorem isi_int_bool {i : Int} {s : S} : isiB [.int i, .ty "bool"] s = some (.bl false, s) := by kernel_rfl
theorem isi_int_list {i : Int} {s : S} : isiB [.int i, .ty "list"] s = some (.bl false, s) := by kernel_rfl
theorem isi_bl_tuple {b : Bool} {s : S} : isiB [.bl b, .ty "tuple"] s = some (.bl false, s) := by kernel_rfl
theorem isi_bl_str {b : Bool} {s : S} : isiB [.bl b, .ty "str"] s = some (.bl false, s) := by kernel_rfl
theorem isi_bl_int {b : Bool} {s : S} : isiB [.bl b, .ty "int"] s = some (.bl true, s) := by kernel_rfl
theorem isi_bl_bool {b : Bool} {s : S} : isiB [.bl b, .ty "bool"] s = some (.bl true, s) := by kernel_rfl
theorem isi_bl_list {b : Bool} {s : S} : isiB [.bl b, .ty "list"] s = some (.bl false, s) := by kernel_rfl
theorem isi_non_tuple {s : S} : isiB [.non, .ty "tuple"] s = some (.bl false, s) := by kernel_rfl
theorem isi_non_str {s : S} : isiB [.non, .ty "str"] s = some (.bl false, s) := by kernel_rfl
theorem isi_non_int {s : S} : isiB [.non, .ty "int"] s = some (.bl false, s) := by kernel_rfl
theorem isi_non_bool {s : S} : isiB [.non, .ty "bool"] s = some (.bl false, s) := by kernel_rfl
theorem isi_non_list {s : S} : isiB [.non, .ty "list"] s = some (.bl false, s) := by kernel_rfl
theorem neD_str {a b : Str} {s : S} : neD (.str a) (.str b) s = some (.bl (!decide (a = b)), s) := rfl
theorem atI_of {ds : List D} {t : Int} {d : D} (h0 : 0 ≤ t) (h : ds[t.toNat]? = some d) : atI ds t = some d := by
  have := atI_nat' h
  rwa [Int.toNat_of_nonneg h0] at this
theorem repD_one {d : D} : ∀ n, repD n [d] = List.replicate n d
  | 0 => rfl
  | n + 1 => by
    show [d] ++ repD n [d] = _
    rw [repD_one n]; rfl
theorem mul_rep {p n : Nat} {d : D} {s : S} (h : s[p]? = some (.lst [d])) (hn : n ≤ 16000000) : mulD (.ref p) (.int (n : Int)) s = some (.ref s.length, s ++ [.lst (List.replicate n d)]) := by
  have c : (n : Int) < 2 ^ 63 ∧ -(2 ^ 63) ≤ (n : Int) ∧ [d].length * (n : Int).toNat ≤ 16777216 := ⟨by omega, by omega, by rw [List.length_singleton, Int.toNat_natCast]; omega⟩
  simp only [mulD, h]
  rw [if_pos c, Int.toNat_natCast, repD_one]
theorem setL_ref {p i : Nat} {ds : List D} {x : D} {s : S} (h : s[p]? = some (.lst ds)) (hi : i < ds.length) : setLD (.ref p) (.int (i : Int)) x s = some (s.set p (.lst (ds.set i x))) := by
  have e : ixN ds.length (i : Int) = some i := by
    unfold ixN
    rw [if_pos (by omega), if_pos (by omega), Int.toNat_natCast]
  simp only [setLD, h, e]
theorem setL_of {p : Nat} {ds : List D} {t : Int} {x : D} {s : S} (h : s[p]? = some (.lst ds)) (h0 : 0 ≤ t) (ht : t < ds.length) : setLD (.ref p) (.int t) x s = some (s.set p (.lst (ds.set t.toNat x))) := by
  have := setL_ref (i := t.toNat) (x := x) h (by omega)
  rwa [Int.toNat_of_nonneg h0] at this
theorem ixL_ref {p : Nat} {ds : List D} {i : Int} {s : S} (h : s[p]? = some (.lst ds)) : ixLD (.ref p) (.int i) s = (atI ds i).map fun x => (x, s) := by
  simp only [ixLD, h]
theorem pop_ref {p : Nat} {ds : List D} {x : D} {s : S} (h : s[p]? = some (.lst (ds ++ [x]))) : popM (.ref p) [] s = some (x, s.set p (.lst ds)) := by
  have e : (ds ++ [x])[(ds ++ [x]).length - 1]? = some x := by
    rw [List.length_append, List.length_singleton, Nat.add_sub_cancel, List.getElem?_append_right (Nat.le_refl _), Nat.sub_self]; rfl
  simp only [popM, h, e, List.dropLast_concat]
theorem slD_ref {p : Nat} {ds : List D} {lo hi : Option Int} {s : S} (h : s[p]? = some (.lst ds)) : slD (.ref p) lo hi s = some (.ref s.length, s ++ [.lst (cutD ds lo hi)]) := by
  simp only [slD, h]
theorem lstB_ref' {p : Nat} {ds : List D} {s : S} (h : s[p]? = some (.lst ds)) : lstB [.ref p] s = some (.ref s.length, s ++ [.lst ds]) := lstB_ref h
theorem findIdx_ints : ∀ (L : List Int) (a : Int), a ∈ L → (L.map D.int).findIdx? (fun z => eqF z (.int a)) = some (L.idxOf a)
  | b :: L, a, h => by
    rw [List.map_cons, List.findIdx?_cons, List.idxOf_cons, eqF_int]
    by_cases c : b = a
    · simp [c]
    · have ih := findIdx_ints L a ((List.mem_cons.mp h).elim (fun z => absurd z.symm c) id)
      simp [c, ih, beq_eq_false_iff_ne.mpr c]
theorem idx_ref {p : Nat} {L : List Int} {a : Int} {s : S} (h : s[p]? = some (.lst (L.map D.int))) (ha : a ∈ L) : idxM (.ref p) [.int a] s = some (.int (L.idxOf a : Int), s) := by
  have e : (flatD (.int a) && (L.map D.int).all flatD) = true := by rw [flat_ints]; rfl
  simp only [idxM, h]
  rw [if_pos e, findIdx_ints L a ha]
theorem cnt_ref {p : Nat} {L : List Int} {a : Int} {s : S} (h : s[p]? = some (.lst (L.map D.int))) : cntM (.ref p) [.int a] s = some (.int (L.count a : Nat), s) := by
  simp only [cntM, h, intsD_map]
  rfl
/-- all that stood, but for pw, stands -/
def Fr (pw : Nat) (s s' : S) : Prop := s.length ≤ s'.length ∧ ∀ p, p < s.length → p ≠ pw → s'[p]? = s[p]?
theorem Fr.refl (pw : Nat) (s : S) : Fr pw s s := ⟨Nat.le_refl _, fun _ _ _ => rfl⟩
theorem Fr.trans {pw : Nat} {s s1 s2 : S} (a : Fr pw s s1) (b : Fr pw s1 s2) : Fr pw s s2 := ⟨Nat.le_trans a.1 b.1, fun p h n => (b.2 p (Nat.lt_of_lt_of_le h a.1) n).trans (a.2 p h n)⟩
theorem Fr.app (pw : Nat) (s t : S) : Fr pw s (s ++ t) := ⟨by rw [List.length_append]; omega, fun p h _ => List.getElem?_append_left h⟩
theorem Fr.get {pw : Nat} {s s' : S} (a : Fr pw s s') {p : Nat} {o : O} (h : s[p]? = some o) (n : p ≠ pw) : s'[p]? = some o := by rw [a.2 p (List.getElem?_eq_some_iff.mp h).1 n]; exact h
theorem Gr.fr {pw : Nat} {s s' : S} (a : Gr s s') : Fr pw s s' := ⟨a.1, fun p h _ => a.2 p h⟩
theorem Fr.set {pw : Nat} {s s' : S} (a : Fr pw s s') {q : Nat} {o : O} (h : q = pw ∨ s.length ≤ q) : Fr pw s (s'.set q o) := by
  refine ⟨by rw [List.length_set]; exact a.1, fun p hp np => ?_⟩
  rw [List.getElem?_set_ne (fun z => ?_)]
  · exact a.2 p hp np
  · rcases h with h | h
    · exact np (z.symm.trans h)
    · omega
theorem Gr.len {s s' : S} (a : Gr s s') : s.length ≤ s'.length := a.1
theorem Fr.len {pw : Nat} {s s' : S} (a : Fr pw s s') : s.length ≤ s'.length := a.1
end Mi

set_option Elab.async false
set_option linter.all false
set_option maxRecDepth 100000
namespace Mi
open PySem PySem.Spec PyProof.Rows L2

/-! ### defs that may raise -/
def fnBX (tot n : Nat) (b : ST) : FN := fun ds s => if ds.length = n then (match b (ds.map some ++ List.replicate (tot - n) none) s with
  | .nx _ s' => .ok .non s'
  | .rt d s' => .ok d s'
  | .ex c fs s' => .ex c fs s'
  | _ => .no) else .no
structure KeepsX (P : Program) (w : World) (K : PySem.W.Frag) (mg : Str → Option Value) (base : Heap) (L : Nat) (x : Str) (ps : List Str) (F : FN) (f : Addr) (fd : FuncData) : Prop where
  ok : FnOk P w K mg base (L2.CX P w) L f fd ps (spF ⟨K, mg⟩ ps.length F)
  at_ : mg x = some (.ref f)
  kp : PySem.W.keepIn K (.ref f) = true
  bd : Binds K fd ps []
section
variable {P : Program} {w : World} {K : PySem.W.Frag} {mg : Str → Option Value} {base : Heap}
theorem keepsX_of {x : Str} {st : Stmt} {f : Addr} {fd : FuncData} {N ps : List Str} {k : Nat} {b : ST} (h : DefAt K mg x st ps f fd) (sc : FnScope N ps (defScope st))
    (hb : ∀ (cdv : Value) (A : Around) (outer : List PySem.Env) (s : Shared) (H : Hp) (E : XK), Room k (A.deeper (envOfC x (defScope st) s.heap.objs.size f cdv)) →
      PSs (cxOf (L2.CX P w) P w K mg base N x (defScope st) f cdv A outer s H E) (defBody st) (semS ⟨K, mg⟩ E b)) : KeepsX P w K mg base (k + 1) x ps (fnBX N.length ps.length b) f fd := by
  refine ⟨h.fn.okX sc (fun vs H Q E q => ?_) (fun cdv A outer s H vs Q E hr q => ⟨_, hb cdv A outer s H E hr, ?_⟩), h.at_, h.fn.kp, h.bd⟩
  · obtain ⟨m, s, ds, hn, _, r, _⟩ := q
    exact r.length.trans hn
  · obtain ⟨m, s1, ds, hn, hold, r, q⟩ := q
    refine ⟨m, _, s1, ag_start (N := N) hold r hn, ?_⟩
    unfold fnBX at q
    rw [if_pos hn] at q
    generalize b (ds.map some ++ List.replicate (N.length - ps.length) none) s1 = fl at q ⊢
    cases fl with
    | no => exact q
    | nx env2 s2 => exact fun σ' m' H' l' a' => q _ m' H' l' a'.hold .non
    | rt d s2 => exact q
    | bk env2 s2 => exact (show False from q).elim
    | ct env2 s2 => exact (show False from q).elim
    | ex c x s2 => exact q
end
/-- a call of a def that raises nothing, whatever is wanted of what is raised -/
theorem s_ownW {X : Cx} {W : XK} {L L' n : Nat} {x : Str} {ps : List Str} {F : FN} {f : Addr} {fd : FuncData} {e : Expr} {es : List Expr} {fa : EA} {p pos : Pos} (h : Keeps X.prog X.w X.K X.mg X.base L x ps F f fd) (hl : L ≤ L') (hr : Room L' X.A) (hn : ps.length = n) (hg : Gl X x)
    (ha : PA X (e :: es) (semA ⟨X.K, X.mg⟩ W fa)) (hdb : (x == ("__debug__" : Str)) = false := by decide) (he : starEach (e :: es) X.env = (false, eval e X.env) :: starEach es X.env := by rfl) (hpl : (backTo pos (starEach es X.env)).any (·.1) = false := by rfl) :
    PE X (.Call (.Name x p) (e :: es) [] pos) (sem ⟨X.K, X.mg⟩ W (eCall n F fa)) := by
  subst hn
  exact s_call (pe_call (E := W) (h.ok.mono hl) hr hg h.at_ h.kp h.bd .nil (fun _ _ _ _ _ _ _ z => z.elim) ha hdb he hpl)
/-- a call of a def that may raise -/
theorem s_ownX {X : Cx} {W : XK} {L L' n : Nat} {x : Str} {ps : List Str} {F : FN} {f : Addr} {fd : FuncData} {e : Expr} {es : List Expr} {fa : EA} {p pos : Pos} (h : KeepsX X.prog X.w X.K X.mg X.base L x ps F f fd) (hl : L ≤ L') (hr : Room L' X.A) (hn : ps.length = n) (hg : Gl X x) (tk : Takes X (fun cls d _ H => W cls d H))
    (ha : PA X (e :: es) (semA ⟨X.K, X.mg⟩ W fa)) (hdb : (x == ("__debug__" : Str)) = false := by decide) (he : starEach (e :: es) X.env = (false, eval e X.env) :: starEach es X.env := by rfl) (hpl : (backTo pos (starEach es X.env)).any (·.1) = false := by rfl) :
    PE X (.Call (.Name x p) (e :: es) [] pos) (sem ⟨X.K, X.mg⟩ W (eCall n F fa)) := by
  subst hn
  exact s_call (pe_call (E := W) (h.ok.mono hl) hr hg h.at_ h.kp h.bd .nil (passes_call tk fun _ _ _ _ z => z) ha hdb he hpl)

/-! ### an own exception with two fields -/
/-- what the written part says of the class C, of its __init__ and of its base's -/
structure ExcC (K : PySem.W.Frag) (mg : Str → Option Value) (c : Str) (C fI : Addr) : Prop where
  at_ : mg c = some (.ref C)
  ox : OexC K C
  init : PySem.W.findIn K (.ref C) "__init__" = some (some (.ref fI))
  ty : PySem.W.typeIn K (.ref fI) = some (.type "function")
  te : PySem.W.exmOne K (.ref C) (.ref C) = some true
def sp2 (K : PySem.W.Frag) (f1 f2 : Str) : Sp := fun vs H Q _ => ∃ (a C : Addr) (v1 v2 : V), vs = [.ref a, v1, v2] ∧ OexC K C ∧ H a = some (exo a C none) ∧ PySem.W.findIn K (.ref C) f1 = some none ∧ PySem.W.findIn K (.ref C) f2 = some none ∧
  ∀ dx, H dx = none → dx ≠ a → Q .non (upd (upd (upd H dx (exd dx [(f1, v1)])) a (exo a C (some dx))) dx (exd dx [(f2, v2), (f1, v1)]))
theorem pe_binit {X : Cx} {x : Str} {B : Addr} {mc : Value} {e : Expr} {es : List Expr} {ta : TA} {p1 p2 pos : Pos} {pl : Sem Bool} (hg : Gl X x) (hm : X.mg x = some (.ref B)) (rd : ClX.CRead X.K B mc)
    (fnd : PySem.W.findCls X.K (.ref B) mc "__init__" = some (.val (.builtin "ValueError.__init__"))) (ha : PA X (e :: es) ta) (hdb : (x == ("__debug__" : Str)) = false := by decide)
    (hc : eval (.Call (.Attribute (.Name x p1) "__init__" p2) (e :: es) [] pos) X.env = (do let ov ← eval (.Name x p1) X.env; standAt p2.atName; let (f, first) ← holding [ov] (getMethod ov "__init__" pl); callWith pos f first (backTo pos (starEach (e :: es) X.env)) (backToKw pos (keywordEach [] X.env))) := by rfl)
    (he : starEach (e :: es) X.env = (false, eval e X.env) :: starEach es X.env := by rfl) (hpl : (backTo pos (starEach es X.env)).any (·.1) = false := by rfl) :
    PE X (.Call (.Attribute (.Name x p1) "__init__" p2) (e :: es) [] pos) (tVeI X.K ta) := by
  refine ⟨fun pins s σ H Q I h => PySem.W.methodCall_KW (ld_glob I hg hm ?_ hdb) hc⟩
  refine PySem.W.method_cls I.kIn rd.ga (PySem.W.cls_value I.kIn rd.rd fnd (by decide +kernel) ?_)
  refine PyProof.Rows.callWith_method1 (thn (ha.run pos pins _ σ H _ (I.tok _) h) ?_) he hpl
  rintro us s1 ⟨vs, H1, I1, r1, a, C, ws, rfl, hl, T, ea, q⟩
  cases r1 with
  | @cons _ u0 _ ur ra rw' =>
    cases (show u0 = Value.ref a from ra)
    have n1 : ur.length ≤ sizeLine := by rw [← Paired.length rw', sizeLine_eq]; omega
    exact oinit_ok T I1 ea n1 fun s' J => ⟨.non, H1, J, rfl, q⟩
/-- raise C(d1, d2): the fields in the order in which they lie -/
def sRaise2 (c f1 f2 : Str) (fa : EA) : ST := fun env s => (fa env s).go fun ds s1 => match ds with
  | [d1, d2] => .ex c (some [(f2, d2), (f1, d1)]) s1
  | _ => .no
theorem c_raise2 {X : Cx} {W : XK} {c f1 f2 : Str} {C fI : Addr} {k k' : Nat} {fd : FuncData} {e : Expr} {es : List Expr} {fa : EA} {p pos pos2 : Pos} (hcalm : X.calm = true) (T : ExcC X.K X.mg c C fI) (n1 : PySem.W.findIn X.K (.ref C) f1 = some none) (n2 : PySem.W.findIn X.K (.ref C) f2 = some none) {ps : List Str}
    (F : FnOk X.prog X.w X.K X.mg X.base CX0 k fI fd ps (sp2 X.K f1 f2)) (hb : Binds X.K fd ps []) (hl : k + 1 ≤ k') (hr : Room k' X.A) (tk : Takes X (fun cls d _ H => W cls d H)) (hg : Gl X c)
    (ha : PA X (e :: es) (semA ⟨X.K, X.mg⟩ W fa)) (hdb : (c == ("__debug__" : Str)) = false := by decide)
    (he : starEach (e :: es) X.env = (false, eval e X.env) :: starEach es X.env := by rfl) (hpl : (backTo pos (starEach es X.env)).any (·.1) = false := by rfl) :
    PS X (.Raise (some (.Call (.Name c p) (e :: es) [] pos)) none pos2) (semS ⟨X.K, X.mg⟩ W (sRaise2 c f1 f2 fa)) := by
  have RR := ps_raise (pos := pos2) hcalm tk (pmk_oex (p := p) T.ox T.init T.ty F (hr.mono hl) hb .nil (fun _ _ _ _ _ _ _ z => z.elim) hg T.at_ ha hdb he hpl)
  refine PS.of RR fun D σ H ⟨m, env, s, ag, q⟩ => ?_
  refine semA_k ag (R.go_post q) fun ds s1 vs m1 H1 q1 l1 a1 r1 => ?_
  match ds, q1 with
  | [d1, d2], q1 =>
    obtain ⟨v1, v2, rfl, r1, r2⟩ := reps2 r1
    refine ⟨by simp, fun a ha0 => ⟨a, C, v1, v2, rfl, T.ox, upd_same, n1, n2, fun dx hdx hne => ⟨rfl, dx, [(f2, v2), (f1, v1)], ?_, upd_same, ?_, ?_⟩⟩⟩
    · rw [upd_ne hne.symm, upd_same]
    · rw [upd_ne hne] at hdx; exact hdx
    · rw [upd_ne hne] at hdx
      have e : upd (del (upd (upd (upd (upd H1 a (exo a C none)) dx (exd dx [(f1, v1)])) a (exo a C (some dx))) dx (exd dx [(f2, v2), (f1, v1)])) a) dx (HO.xd [(f2, v2), (f1, v1)]) = upd H1 dx (HO.xd [(f2, v2), (f1, v1)]) := by
        funext b
        by_cases hb : b = dx
        · subst hb; rw [upd_same, upd_same]
        · rw [upd_ne hb, upd_ne hb]
          by_cases hba : b = a
          · subst hba; rw [del_same, ha0]
          · rw [del_ne hba, upd_ne hb, upd_ne hba, upd_ne hb, upd_ne hba]
      rw [e]
      have l2 : Le m1 H1 m1 (upd H1 dx (HO.xd [(f2, v2), (f1, v1)])) := Le.aside a1.hold hdx
      exact q1 C (some dx) m1 _ (l1.trans l2) (a1.hold.aside hdx) T.at_ ⟨dx, [(f2, v2), (f1, v1)], rfl, upd_same, .cons ⟨rfl, r2.le l2⟩ (.cons ⟨rfl, r1.le l2⟩ .nil)⟩
  | [], q1 => exact q1.elim
  | [_], q1 => exact q1.elim
  | _ :: _ :: _ :: _, q1 => exact q1.elim
end Mi

set_option Elab.async false
set_option linter.all false
set_option maxRecDepth 100000
namespace Mi
open PySem PySem.Spec PyProof.Rows L2

/-! ### try: one call; except C -/
/-- a call under try: k goes on with its value, h handles C -/
def sTry (n : Nat) (F : FN) (fa : EA) (c : Str) (k : D → Env → S → Fl) (h : XF → Env → S → Fl) : ST := fun env s => (fa env s).go fun ds s1 => if ds.length = n then (match F ds s1 with
  | .ok d s2 => k d env s2
  | .ex c' fs s2 => if c' = c then h fs env s2 else .no
  | .no => .no) else .no
/-- what the statement wants of the call's value -/
abbrev KR := Ends → L2.St → V → Hp → Prop
def KOk (g : G) (kr : KR) (k : D → Env → S → Fl) : Prop := ∀ (B : Ends) (σ : L2.St) (m : List Addr) (H : Hp) (env : Env) (s : S) (v : V) (d : D), Ag g m σ H env s → Rep g m H v d → (k d env s).post g m H E0 B → kr B σ v H
def tKR (sp : Sp) (E : L2.St → XK) (ta : TA) (kr : KR) : TS := fun B σ H => tCallS sp E ta σ H (kr B σ)
section
variable {X : Cx} {g : G} {sp : Sp} {E : L2.St → XK} {ta : TA} {e : Expr} {pos pos' : Pos} {i : Nat} {x : Str}
/-- f(..) -/
def kDrop : D → Env → S → Fl := fun _ env s => .nx env s
theorem kok_drop : KOk g (fun B σ _ H => B.nx σ H) kDrop := fun _ σ m H _ _ _ _ ag _ q => q σ m H (Le.refl m H) ag
theorem tb_drop (h : PE X e (tCallS sp E ta)) (hs : swapsWith e none pos.line X.env = pure false := by rfl) : PSs X [.Expr e pos] (tKR sp E ta fun B σ _ H => B.nx σ H) := pss_one (ps_expr h hs)
/-- x = f(..) -/
def kSet (i : Nat) : D → Env → S → Fl := fun d env s => .nx (env.set i (some d)) s
theorem kok_set : KOk g (fun B σ v H => B.nx (σ.set i (some v)) H) (kSet i) := fun _ σ m H _ _ _ _ ag r q => q _ m H (Le.refl m H) (ag.set r i)
theorem tb_set {st : Stmt} (h : PS X st (tAsg (tCallS sp E ta) (gName i))) : PSs X [st] (tKR sp E ta fun B σ v H => B.nx (σ.set i (some v)) H) := pss_one h
/-- if f(..) is not None: body -/
def kNotN (b : ST) : D → Env → S → Fl := fun d env s => match d with
  | .non => .nx env s
  | _ => b env s
theorem kok_notN {b : ST} : KOk g (fun B σ v H => ∃ d, (V.bl (!decide (v = .non))) = .bl d ∧ (if d = true then semS g E0 b B σ H else B.nx σ H)) (kNotN b) := by
  intro B σ m H env s v d ag r q
  cases r with
  | non => exact ⟨false, rfl, q σ m H (Le.refl m H) ag⟩
  | _ => exact ⟨true, rfl, m, env, s, ag, q⟩
theorem tb_notN {b : ST} {body : List Stmt} {j : Nat} {p1 p2 p3 : Pos} (h : PE X e (tCallS sp E ta)) (hb : PSs X body (semS g E0 b)) : PSs X [.If (.Compare e [.IsNot] [.Constant .none j p1] p2) body [] p3] (tKR sp E ta fun B σ v H => ∃ d, (V.bl (!decide (v = .non))) = .bl d ∧ (if d = true then semS g E0 b B σ H else B.nx σ H)) :=
  pss_one (ps_if (pt_cmp (pc_notN h) rfl) hb pss_nil)
end
section
variable {X : Cx} {c : Str} {C fI : Addr} {n : Nat} {F : FN} {fa : EA} {k : D → Env → S → Fl} {kr : KR} {st b₀ : Stmt} {suite : List Stmt} {np pos pos' : Pos} {Q : Prop}
/-- the call's reading, under the wish of the clause -/
theorem try_rd {h : XF → Env → S → Fl} {B : Ends} {σ : L2.St} {H : Hp} {W : L2.WX} (hk : KOk ⟨X.K, X.mg⟩ kr k) (T : ExcC X.K X.mg c C fI) (q : semS ⟨X.K, X.mg⟩ E0 (sTry n F fa c k h) B σ H)
    (hW : ∀ (m : List Addr) (env : Env) (s : S) (H' : Hp) (fs : XF) (da : Option Addr), Ag ⟨X.K, X.mg⟩ m σ H' env s → XFok ⟨X.K, X.mg⟩ m H' da fs → (h fs env s).post ⟨X.K, X.mg⟩ m H' E0 B → W (.ref C) da σ H') :
    tKR (spF ⟨X.K, X.mg⟩ n F) (WE W) (semA ⟨X.K, X.mg⟩ E0 fa) kr B σ H := by
  obtain ⟨m, env, s, ag, q⟩ := q
  refine semA_k ag (R.go_post q) fun ds s1 vs m1 H1 q1 l1 a1 r1 => ?_
  by_cases cn : ds.length = n
  · rw [if_pos cn] at q1
    refine ⟨m1, s1, ds, cn, a1.hold, r1, ?_⟩
    cases e : F ds s1 with
    | no => rw [e] at q1; exact q1
    | ok d s2 =>
      rw [e] at q1
      intro v m' H' l' hold' rv
      exact hk B σ m' H' env s2 v d (a1.go l' hold') rv (Fl.post_le (l1.trans l') q1)
    | ex c' fs s2 =>
      rw [e] at q1
      dsimp only at q1
      by_cases cc : c' = c
      · rw [if_pos cc] at q1
        subst cc
        intro C' da m' H' l' hold' hmg hx
        have hmg : X.mg c' = some (.ref C') := hmg
        rw [T.at_] at hmg; cases hmg
        exact hW m' env s2 H' fs da (a1.go l' hold') hx (Fl.post_le (l1.trans l') q1)
      · rw [if_neg cc] at q1; exact q1.elim
  · rw [if_neg cn] at q1; exact q1.elim
theorem c_try0 {hst : ST} (hs : X.stack = X.env :: X.outer) (hf : X.env.frame = some X.env.locals) (T : ExcC X.K X.mg c C fI) (hg : Gl X c) (hk : KOk ⟨X.K, X.mg⟩ kr k)
    (hb : ∀ (W : L2.WX) (pn : List (Addr × Obj)) (xe : Value → Shared → Prop), Takes (X.tr pn xe) W → PassesOwn (model X.prog X.w) X.A X.env xe → PSs (X.tr pn xe) [st] (tKR (spF ⟨X.K, X.mg⟩ n F) (WE W) (semA ⟨X.K, X.mg⟩ E0 fa) kr))
    (hsu : ∀ (a : Addr) (oe : Obj) (cls : Value) (d : Option Addr) (pn : List (Addr × Obj)), Zc cls d oe → (∃ vs, oe.data = .fields vs) → PSs (X.suite a ((a, oe) :: pn)) (b₀ :: suite) (semS ⟨X.K, X.mg⟩ E0 hst))
    (hdb : (c == ("__debug__" : Str)) = false := by decide) :
    PS X (.Try [st] [.ExceptHandler (some (.Name c np)) none (b₀ :: suite) pos'] [] [] pos) (semS ⟨X.K, X.mg⟩ E0 (sTry n F fa c k fun _ env s => hst env s)) :=
  PS.of (ps_try_only (c := .ref C) (tb := fun W => tKR (spF ⟨X.K, X.mg⟩ n F) (WE W) (semA ⟨X.K, X.mg⟩ E0 fa) kr) (ts := fun _ _ _ => semS ⟨X.K, X.mg⟩ E0 hst) hs hf ⟨hg, hdb, .inl T.at_⟩ takes0 hb hsu) fun B σ H q =>
    try_rd hk T q fun m env s H' fs da ag hx q' => ⟨true, T.te, fun _ a ha => ⟨m, env, s, ag, q'⟩, fun z => nomatch z⟩
/-- what is handled: the exception at a in slot i, its fields fs -/
def Hd (g : G) (m : List Addr) (H : Hp) (C : Addr) (cls : Value) (d : Option Addr) (fs : List (Str × D)) : Prop := cls = .ref C ∧ ∃ (dd : Addr) (es : List (Str × V)), d = some dd ∧ H dd = some (.xd es) ∧ EntF g m H es fs
/-- a suite's reading -/
def semHd (g : G) (C : Addr) (i : Nat) (hst : List (Str × D) → ST) (a : Addr) (cls : Value) (d : Option Addr) : TS := fun B σ H => ∃ m env s fs, Ag g m σ H env s ∧ env.length > i ∧ σ[i]? = some (some (.ref a)) ∧ Hd g m H C cls d fs ∧ (hst fs env s).post g m H E0 B
def hdS (i : Nat) (hst : List (Str × D) → ST) : XF → Env → S → Fl := fun fs env s => match fs with
  | some fs => if i < env.length then (match hst fs (env.set i none) s with
    | .rt d s2 => .rt d s2
    | _ => .no) else .no
  | none => .no
theorem Ag.unset {g : G} {m : List Addr} {σ : L2.St} {H : Hp} {env : Env} {s : S} (a : Ag g m σ H env s) (i : Nat) (x : Option V) : Ag g m (σ.set i x) H (env.set i none) s := by
  refine ⟨a.hold, by rw [List.length_set, List.length_set]; exact a.len, fun j e h => ?_⟩
  by_cases hj : i = j
  · subst hj
    by_cases hl : i < env.length
    · rw [List.getElem?_set_self hl] at h; cases h
    · rw [List.getElem?_eq_none (by rw [List.length_set]; omega)] at h; cases h
  · rw [List.getElem?_set_ne hj] at h
    rw [List.getElem?_set_ne hj]
    exact a.val j e h
theorem c_tryH {hst : List (Str × D) → ST} {nm : Str} {i : Nat} (hs : X.stack = X.env :: X.outer) (hf : X.env.frame = some X.env.locals) (hN : X.N.Nodup) (hi : X.N[i]? = some nm) (hln : X.env.kindOf nm = some .local) (T : ExcC X.K X.mg c C fI) (hg : Gl X c) (hk : KOk ⟨X.K, X.mg⟩ kr k)
    (hb : ∀ (W : L2.WX) (pn : List (Addr × Obj)) (xe : Value → Shared → Prop), Takes (X.tr pn xe) W → PassesOwn (model X.prog X.w) X.A X.env xe → PSs (X.tr pn xe) [st] (tKR (spF ⟨X.K, X.mg⟩ n F) (WE W) (semA ⟨X.K, X.mg⟩ E0 fa) kr))
    (hsu : ∀ (a : Addr) (oe : Obj) (cls : Value) (d : Option Addr) (pn : List (Addr × Obj)), Zc cls d oe → (∃ vs, oe.data = .fields vs) → PSs (X.suite a ((a, oe) :: pn)) (b₀ :: suite) (semHd ⟨X.K, X.mg⟩ C i hst a cls d))
    (hdb : (c == ("__debug__" : Str)) = false := by decide) :
    PS X (.Try [st] [.ExceptHandler (some (.Name c np)) (some nm) (b₀ :: suite) pos'] [] [] pos) (semS ⟨X.K, X.mg⟩ E0 (sTry n F fa c k (hdS i hst))) :=
  PS.of (ps_try_as (c := .ref C) (tb := fun W => tKR (spF ⟨X.K, X.mg⟩ n F) (WE W) (semA ⟨X.K, X.mg⟩ E0 fa) kr) (ts := semHd ⟨X.K, X.mg⟩ C i hst) hs hf hN hi hln ⟨hg, hdb, .inl T.at_⟩ takes0 hb hsu) fun B σ H q =>
    try_rd hk T q fun m env s H' fs da ag hx q' => by
      refine ⟨true, T.te, fun _ a ha => ?_, fun z => nomatch z⟩
      cases fs with
      | none => exact q'.elim
      | some fs =>
        unfold hdS at q'
        dsimp only at q'
        by_cases hl : i < env.length
        · rw [if_pos hl] at q'
          obtain ⟨dd, es, e1, e2, e3⟩ := hx
          refine ⟨m, env.set i none, s, fs, ag.unset i _, by rw [List.length_set]; exact hl, List.getElem?_set_self (by rw [← ag.len]; exact hl), ⟨rfl, dd, es, e1, e2, e3⟩, ?_⟩
          generalize hst fs (env.set i none) s = fl at q' ⊢
          cases fl <;> first | exact q' | exact (show False from q').elim
        · rw [if_neg hl] at q'; exact q'.elim
end
/-! ### suites that return fields -/
def hF1 (f : Str) : List (Str × D) → ST := fun fs _ s => match fs.lookup f with
  | some d => .rt d s
  | none => .no
def hF2 (f f' : Str) : List (Str × D) → ST := fun fs _ s => match fs.lookup f, fs.lookup f' with
  | some d, some d' => .rt (.tup [d, d']) s
  | _, _ => .no
def hFge (f : Str) (j : Int) : List (Str × D) → ST := fun fs _ s => match fs.lookup f with
  | some (.int i) => .rt (.bl (decide (j ≤ i))) s
  | _ => .no
section
variable {X : Cx} {C : Addr} {a : Addr} {oe : Obj} {cls : Value} {d : Option Addr} {pn : List (Addr × Obj)} {i : Nat} {nm f f' : Str} {p1 p2 p3 p4 p5 : Pos}
theorem xf_at {m : List Addr} {σ : L2.St} {H : Hp} {fs : List (Str × D)} {x : D} {Q : VK} (hσ : σ[i]? = some (some (.ref a))) (h : Hd ⟨X.K, X.mg⟩ m H C cls d fs) (e : fs.lookup f = some x) (q : ∀ v, Rep ⟨X.K, X.mg⟩ m H v x → Q v H) : tXf a cls d C f (tVar i) σ H Q := by
  obtain ⟨hc, dd, es, h1, h2, h3⟩ := h
  rcases entF_lookup (f := f) h3 with ⟨n, _⟩ | ⟨v, x', e1, e2, r⟩
  · rw [n] at e; cases e
  · rw [e1] at e; cases e
    exact ⟨_, hσ, rfl, hc, dd, es, v, h1, h2, e2, q v r⟩
theorem h_ret1 (T : XfC X.K C) (n1 : PySem.W.findIn X.K (.ref C) f = some none) (hN : X.N[i]? = some nm) (hv : Vis X.env.scope nm) (hz : Zc cls d oe) (hf : ∃ vs, oe.data = .fields vs)
    (hd1 : (nm == ("__debug__" : Str)) = false := by decide) (hd2 : (nm == ("__classdict__" : Str)) = false := by decide) (hb : attributeBase (.Name nm p1) f X.env (eval (.Name nm p1) X.env) = eval (.Name nm p1) X.env := by rfl) :
    PSs (X.suite a ((a, oe) :: pn)) [.Return (some (.Attribute (.Name nm p1) f p2)) p3] (semHd ⟨X.K, X.mg⟩ C i (hF1 f) a cls d) := by
  refine PSs.of (pss_one (ps_ret (pe_xf T n1 hz hf (pe_var hN hv hd1 hd2) hb))) fun B σ H ⟨m, env, s, fs, ag, hl, hσ, h, q⟩ => ?_
  unfold hF1 at q
  cases e : fs.lookup f with
  | none => rw [e] at q; exact q.elim
  | some x =>
    rw [e] at q
    exact xf_at hσ h e fun v r => q v m H (Le.refl m H) ag.hold r
theorem h_ret2 (T : XfC X.K C) (n1 : PySem.W.findIn X.K (.ref C) f = some none) (n2 : PySem.W.findIn X.K (.ref C) f' = some none) (hN : X.N[i]? = some nm) (hv : Vis X.env.scope nm) (hz : Zc cls d oe) (hf : ∃ vs, oe.data = .fields vs) {x1 : Nat} {p6 : Pos}
    (hd1 : (nm == ("__debug__" : Str)) = false := by decide) (hd2 : (nm == ("__classdict__" : Str)) = false := by decide) (hb : attributeBase (.Name nm p1) f X.env (eval (.Name nm p1) X.env) = eval (.Name nm p1) X.env := by rfl) (hb' : attributeBase (.Name nm p3) f' X.env (eval (.Name nm p3) X.env) = eval (.Name nm p3) X.env := by rfl)
    (hs : starEach [.Attribute (.Name nm p1) f p2, .Attribute (.Name nm p3) f' p4] X.env = (false, eval (.Attribute (.Name nm p1) f p2) X.env) :: starEach [.Attribute (.Name nm p3) f' p4] X.env := by rfl)
    (hs' : starEach [.Attribute (.Name nm p3) f' p4] X.env = (false, eval (.Attribute (.Name nm p3) f' p4) X.env) :: starEach [] X.env := by rfl) :
    PSs (X.suite a ((a, oe) :: pn)) [.Return (some (.Tuple [.Attribute (.Name nm p1) f p2, .Attribute (.Name nm p3) f' p4] x1 p5)) p6] (semHd ⟨X.K, X.mg⟩ C i (hF2 f f') a cls d) := by
  refine PSs.of (pss_one (ps_ret (pe_tup (pa_cons (pe_xf T n1 hz hf (pe_var hN hv hd1 hd2) hb) (pa_cons (pe_xf T n2 hz hf (pe_var hN hv hd1 hd2) hb') pa_nil hs') hs)))) fun B σ H ⟨m, env, s, fs, ag, hl, hσ, h, q⟩ => ?_
  unfold hF2 at q
  cases e : fs.lookup f with
  | none => rw [e] at q; exact q.elim
  | some x =>
    cases e' : fs.lookup f' with
    | none => rw [e, e'] at q; exact q.elim
    | some y =>
      rw [e, e'] at q
      show tXf a cls d C f (tVar i) σ H fun v H1 => tXf a cls d C f' (tVar i) σ H1 fun w H2 => ([v, w].length ≤ sizeLine ∧ ∀ p, H2 p = none → B.rt (.ref p) (upd H2 p (.tup [v, w])))
      refine xf_at hσ h e fun v r => ?_
      refine xf_at hσ h e' fun w r' => ?_
      exact ⟨by rw [sizeLine_eq]; simp, fun p hp => new_tup ag.hold hp (.cons r (.cons r' .nil)) q⟩
theorem h_retge {j : Nat} {k : Int} (T : XfC X.K C) (n1 : PySem.W.findIn X.K (.ref C) f = some none) (hN : X.N[i]? = some nm) (hv : Vis X.env.scope nm) (hz : Zc cls d oe) (hf : ∃ vs, oe.data = .fields vs)
    (hd1 : (nm == ("__debug__" : Str)) = false := by decide) (hd2 : (nm == ("__classdict__" : Str)) = false := by decide) (hb : attributeBase (.Name nm p1) f X.env (eval (.Name nm p1) X.env) = eval (.Name nm p1) X.env := by rfl) :
    PSs (X.suite a ((a, oe) :: pn)) [.Return (some (.Compare (.Attribute (.Name nm p1) f p2) [.GtE] [.Constant (.int k) j p3] p4)) p5] (semHd ⟨X.K, X.mg⟩ C i (hFge f k) a cls d) := by
  refine PSs.of (pss_one (ps_ret (pe_cmp (pc_ge (pe_xf T n1 hz hf (pe_var hN hv hd1 hd2) hb) pe_int) (nobehind _ (by decide) (by decide))))) fun B σ H ⟨m, env, s, fs, ag, hl, hσ, h, q⟩ => ?_
  unfold hFge at q
  cases e : fs.lookup f with
  | none => rw [e] at q; exact q.elim
  | some x =>
    rw [e] at q
    cases x <;> first | exact q.elim | skip
    show tXf a cls d C f (tVar i) σ H fun v H1 => ∃ i j, v = .int i ∧ V.int k = .int j ∧ B.rt (.bl (decide (j ≤ i))) H1
    refine xf_at hσ h e fun v r => ?_
    cases r
    exact ⟨_, _, rfl, rfl, q (.bl _) m H (Le.refl m H) ag.hold (.bl _)⟩
end

/-! ### the exception's class as one fact -/
structure ExcD (K : PySem.W.Frag) (mg : Str → Option Value) (c f1 f2 : Str) : Prop where
  ex : ∃ (C fI : Addr) (fd : FuncData) (ps : List Str), ExcC K mg c C fI ∧ PySem.W.findIn K (.ref C) f1 = some none ∧ PySem.W.findIn K (.ref C) f2 = some none ∧ XfC K C ∧ Binds K fd ps [] ∧ ∀ (P : Program) (w : World) (base : Heap), FnOk P w K mg base CX0 1 fI fd ps (sp2 K f1 f2)
theorem ok_init2 {P : Program} {w : World} {K : PySem.W.Frag} {mg : Str → Option Value} {base : Heap} {qual t f1 f2 a1 a2 : Str} {st : Stmt} {f : Addr} {fd : FuncData} (F : Fun K "__init__" qual st f fd) (sc : FnScope ["self", a1, a2] ["self", a1, a2] (defScope st))
    (hb : ∀ (cdv : Value) (A : Around) (outer : List PySem.Env) (s : Shared) (H : Hp) (E : XK), PSs (cxOf CX0 P w K mg base ["self", a1, a2] qual (defScope st) f cdv A outer s H E).nox (defBody st)
      (tSeq (tDrop (tVeI K (tCons (tVar 0) (tCons (tC (.str t)) tNil)))) (tSeq (tOst K f1 (tVar 0) (tVar 1)) (tOst K f2 (tVar 0) (tVar 2))))) : FnOk P w K mg base CX0 1 f fd ["self", a1, a2] (sp2 K f1 f2) := by
  refine F.ok sc (fun vs H Q E q => ?_) (fun cdv A outer s H vs Q E hr q => ⟨_, hb cdv A outer s H E, ?_⟩)
  · obtain ⟨a, C, v1, v2, rfl, _⟩ := q
    rfl
  · obtain ⟨a, C, v1, v2, rfl, T, ha, n1, n2, q⟩ := q
    refine ⟨_, rfl, a, C, [.str t], rfl, by simp, T, ha, _, rfl, _, rfl, a, C, rfl, T, n1, .inl ⟨ha, fun dx hdx hne => ?_⟩⟩
    refine ⟨_, rfl, _, rfl, a, C, rfl, T, n2, .inr ⟨dx, [(f1, v1)], upd_same, ?_, by simp, q dx hdx hne⟩⟩
    rw [upd_ne hne, upd_same]
section
variable {X : Cx} {W : XK} {c f1 f2 : Str} {n : Nat} {F : FN} {fa : EA} {k : D → Env → S → Fl} {kr : KR} {st b₀ : Stmt} {suite : List Stmt} {np pos pos' : Pos}
theorem c_raiseD {k' : Nat} {e : Expr} {es : List Expr} {p pos2 : Pos} (x : ExcD X.K X.mg c f1 f2) (hcalm : X.calm = true) (hl : 2 ≤ k') (hr : Room k' X.A) (tk : Takes X (fun cls d _ H => W cls d H)) (hg : Gl X c)
    (ha : PA X (e :: es) (semA ⟨X.K, X.mg⟩ W fa)) (hdb : (c == ("__debug__" : Str)) = false := by decide)
    (he : starEach (e :: es) X.env = (false, eval e X.env) :: starEach es X.env := by rfl) (hpl : (backTo pos (starEach es X.env)).any (·.1) = false := by rfl) :
    PS X (.Raise (some (.Call (.Name c p) (e :: es) [] pos)) none pos2) (semS ⟨X.K, X.mg⟩ W (sRaise2 c f1 f2 fa)) := by
  obtain ⟨C, fI, fd, ps, T, n1, n2, xf, bd, Fk⟩ := x.ex
  exact c_raise2 hcalm T n1 n2 (Fk _ _ _) bd hl hr tk hg ha hdb he hpl
theorem c_try0D {hst : ST} (x : ExcD X.K X.mg c f1 f2) (hs : X.stack = X.env :: X.outer) (hf : X.env.frame = some X.env.locals) (hg : Gl X c) (hk : KOk ⟨X.K, X.mg⟩ kr k)
    (hb : ∀ (W : L2.WX) (pn : List (Addr × Obj)) (xe : Value → Shared → Prop), Takes (X.tr pn xe) W → PassesOwn (model X.prog X.w) X.A X.env xe → PSs (X.tr pn xe) [st] (tKR (spF ⟨X.K, X.mg⟩ n F) (WE W) (semA ⟨X.K, X.mg⟩ E0 fa) kr))
    (hsu : ∀ (a : Addr) (oe : Obj) (cls : Value) (d : Option Addr) (pn : List (Addr × Obj)), Zc cls d oe → (∃ vs, oe.data = .fields vs) → PSs (X.suite a ((a, oe) :: pn)) (b₀ :: suite) (semS ⟨X.K, X.mg⟩ E0 hst))
    (hdb : (c == ("__debug__" : Str)) = false := by decide) :
    PS X (.Try [st] [.ExceptHandler (some (.Name c np)) none (b₀ :: suite) pos'] [] [] pos) (semS ⟨X.K, X.mg⟩ E0 (sTry n F fa c k fun _ env s => hst env s)) := by
  obtain ⟨C, fI, fd, ps, T, n1, n2, xf, bd, Fk⟩ := x.ex
  exact c_try0 hs hf T hg hk hb hsu hdb
theorem c_tryHD {hst : List (Str × D) → ST} {nm : Str} {i : Nat} (x : ExcD X.K X.mg c f1 f2) (hs : X.stack = X.env :: X.outer) (hf : X.env.frame = some X.env.locals) (hN : X.N.Nodup) (hi : X.N[i]? = some nm) (hln : X.env.kindOf nm = some .local) (hg : Gl X c) (hk : KOk ⟨X.K, X.mg⟩ kr k)
    (hb : ∀ (W : L2.WX) (pn : List (Addr × Obj)) (xe : Value → Shared → Prop), Takes (X.tr pn xe) W → PassesOwn (model X.prog X.w) X.A X.env xe → PSs (X.tr pn xe) [st] (tKR (spF ⟨X.K, X.mg⟩ n F) (WE W) (semA ⟨X.K, X.mg⟩ E0 fa) kr))
    (hsu : ∀ (C : Addr), XfC X.K C → PySem.W.findIn X.K (.ref C) f1 = some none → PySem.W.findIn X.K (.ref C) f2 = some none → ∀ (a : Addr) (oe : Obj) (cls : Value) (d : Option Addr) (pn : List (Addr × Obj)), Zc cls d oe → (∃ vs, oe.data = .fields vs) → PSs (X.suite a ((a, oe) :: pn)) (b₀ :: suite) (semHd ⟨X.K, X.mg⟩ C i hst a cls d))
    (hdb : (c == ("__debug__" : Str)) = false := by decide) :
    PS X (.Try [st] [.ExceptHandler (some (.Name c np)) (some nm) (b₀ :: suite) pos'] [] [] pos) (semS ⟨X.K, X.mg⟩ E0 (sTry n F fa c k (hdS i hst))) := by
  obtain ⟨C, fI, fd, ps, T, n1, n2, xf, bd, Fk⟩ := x.ex
  exact c_tryH hs hf hN hi hln T hg hk hb (hsu C xf n1 n2) hdb
/-- the call under try, as an expression -/
theorem s_tryX {Wx : L2.WX} {L L' : Nat} {x : Str} {ps : List Str} {f : Addr} {fd : FuncData} {e : Expr} {es : List Expr} {p : Pos} (h : KeepsX X.prog X.w X.K X.mg X.base L x ps F f fd) (hl : L ≤ L') (hr : Room L' X.A) (hn : ps.length = n) (hg : Gl X x) (tk : Takes X Wx)
    (ha : PA X (e :: es) (semA ⟨X.K, X.mg⟩ E0 fa)) (hdb : (x == ("__debug__" : Str)) = false := by decide) (he : starEach (e :: es) X.env = (false, eval e X.env) :: starEach es X.env := by rfl) (hpl : (backTo pos (starEach es X.env)).any (·.1) = false := by rfl) :
    PE X (.Call (.Name x p) (e :: es) [] pos) (tCallS (spF ⟨X.K, X.mg⟩ n F) (WE Wx) (semA ⟨X.K, X.mg⟩ E0 fa)) := by
  subst hn
  exact pe_callS (h.ok.mono hl) hr hg h.at_ h.kp h.bd (fun σ => passAt tk σ) ha hdb he hpl
end
end Mi

set_option Elab.async false
set_option linter.all false
set_option maxRecDepth 100000
namespace Mi
open PySem PySem.Spec PyProof.Rows L2 RZ

/-! ### zip of two tuples -/
def zipT (xs ys : List D) : List D := List.zipWith (fun a b => .tup [a, b]) xs ys
def iZp (f f' : EX) : EI := fun env s => (f env s).bind fun d s1 => (f' env s1).bind fun e s2 => match d, e with
  | .tup xs, .tup ys => .ok ⟨zipT xs ys, fun _ => True⟩ s2
  | _, _ => .no
theorem zipT_get {xs ys : List D} {i : Nat} {d : D} (h : (zipT xs ys)[i]? = some d) : ∃ x y, xs[i]? = some x ∧ ys[i]? = some y ∧ d = .tup [x, y] := by
  unfold zipT at h
  rw [List.getElem?_zipWith] at h
  cases hx : xs[i]? with
  | none => rw [hx] at h; cases h
  | some x =>
    cases hy : ys[i]? with
    | none => rw [hx, hy] at h; cases h
    | some y => rw [hx, hy] at h; cases h; exact ⟨x, y, rfl, rfl, rfl⟩
theorem zipT_len {xs ys : List D} : (zipT xs ys).length = min xs.length ys.length := List.length_zipWith
theorem walks_zip {g : G} {m : List Addr} {H : Hp} {a b : Addr} {xs ys : List V} {ds es : List D} (z : RdT g m H a xs) (z' : RdT g m H b ys) (r : Reps g m H xs ds) (r' : Reps g m H ys es) : Walks g m H (ItzT g.K a b) ⟨zipT ds es, fun _ => True⟩ := by
  intro m1 s1 H1 i l1 hold1 _
  have z1 : SqT g.K H1 a xs := (z.le l1).sq
  have z2 : SqT g.K H1 b ys := (z'.le l1).sq
  refine ⟨fun d hd => ?_, fun hi => ⟨xs, ys, z1, z2, ?_⟩⟩
  · obtain ⟨x, y, hx, hy, rfl⟩ := zipT_get hd
    obtain ⟨v, hv, rv⟩ := r.get hx
    obtain ⟨w, hw, rw'⟩ := r'.get hy
    refine ⟨⟨xs, ys, v, w, z1, z2, hv, hw⟩, fun u H' ⟨T, v', w', e1, e2, e3, e4, e5⟩ => ?_⟩
    have ev : v = v' := Option.some.inj (hv.symm.trans (e4 xs z1))
    have ew : w = w' := Option.some.inj (hw.symm.trans (e5 ys z2))
    subst ev ew e1 e3
    have l2 : Le m1 H1 m1 (upd H1 T (.tup [v, w])) := Le.aside hold1 e2
    have hf := hold1.free e2
    exact ⟨l2, hold1.aside e2, .tup (.inl ⟨upd_same, hf⟩) (.cons (rv.le (l1.trans l2)) (.cons (rw'.le (l1.trans l2)) .nil))⟩
  · have hi : (zipT ds es).length ≤ i := hi
    rw [zipT_len, ← r.length, ← r'.length] at hi
    omega
theorem i_zip {X : Cx} {W : XK} {f f' : EX} {elts : List Expr} {kk : Nat} {e e2 : Expr} {p pos tpos : Pos} (h : PI X (.Tuple elts kk tpos) (.Call (.Name "zip" p) [e, e2] [] pos) (iZipA X.K (semA ⟨X.K, X.mg⟩ W (aC f (aC f' aN))))) :
    PI X (.Tuple elts kk tpos) (.Call (.Name "zip" p) [e, e2] [] pos) (semI ⟨X.K, X.mg⟩ W (iZp f f')) := by
  refine PI.of h fun σ H Q ⟨m, env, s, ag, q⟩ => ?_
  refine ⟨m, env, s, ag, ?_⟩
  unfold iZp at q
  have q := R.post_bind q
  unfold aC
  cases hf : f env s with
  | no => rw [hf] at q; exact q
  | ex c x s1 => rw [hf] at q; exact q
  | ok d s1 =>
    rw [hf] at q
    have q : ((f' env s1).bind _).post _ _ := q
    have q := R.post_bind q
    show ((f' env s1).bind _ |>.bind _).post _ _
    cases hf' : f' env s1 with
    | no => rw [hf'] at q; exact q
    | ex c x s1 => rw [hf'] at q; exact q
    | ok d' s2 =>
      rw [hf'] at q
      intro vs m1 H1 l1 hold1 r1
      obtain ⟨v, w, rfl, rv, rw'⟩ := reps2 r1
      cases rv with
      | tup za ra =>
        cases rw' with
        | tup zb rb => exact ⟨_, _, _, _, rfl, .inr ⟨za.sq, zb.sq, q _ m1 H1 l1 hold1 (walks_zip za zb ra rb)⟩⟩
        | _ => exact (show False from q).elim
      | _ => exact (show False from q).elim
section
variable {b : ST} {f f' : EX} {c : EB} {e : EX} {env : Env} {s : S} {N : Env → S → Prop} {Rt : D → S → Prop} {B C : Env → S → Prop} {t : T} {Q : D → S → Prop} {vs : List Nat}
def asT (d : D) (Q : List D → Prop) : Prop := match d with
  | .tup ds => Q ds
  | _ => False
theorem asT_tup {ds : List D} {Q : List D → Prop} : asT (.tup ds) Q ↔ Q ds := Iff.rfl
theorem wi_zp {QI : Wk → S → Prop} : WI (iZp f f') env s QI ↔ W f env s fun d s1 => W f' env s1 fun e s2 => asT d fun xs => asT e fun ys => QI ⟨zipT xs ys, okT⟩ s2 := by
  unfold W WI iZp
  rw [wf_bind]
  refine wf_congr fun d s1 => ?_
  rw [wf_bind]
  refine wf_congr fun e s2 => ?_
  cases d <;> first | (simp [wf_no, asT]; done) | skip
  cases e <;> first | (simp [wf_no, asT]; done) | skip
  simp only [wf_ok, asT]
  exact Iff.rfl
theorem ws_forZ : WS (sFor t (iZp f f') b) env s N Rt B C ↔ W f env s fun d s1 => W f' env s1 fun e s2 => asT d fun xs => asT e fun ys => FS t b okT (zipT xs ys) env s2 N Rt B C := by
  rw [ws_for_wi, wi_zp]
theorem w_lcZ : W (eLc (iZp f f') t vs c e) env s Q ↔ W f env s fun d s1 => W f' env s1 fun e' s2 => asT d fun xs => asT e' fun ys => CS t vs c e okT env (zipT xs ys) s2 Q := by
  rw [w_lc_wi, wi_zp]
end

/-! ### the wp rules of raise and try -/
def flX (fl : Fl) (N : Env → S → Prop) (Rt : D → S → Prop) (B C : Env → S → Prop) (Ex : Str → XF → S → Prop) : Prop := match fl with
  | .nx e s => N e s
  | .rt d s => Rt d s
  | .bk e s => B e s
  | .ct e s => C e s
  | .ex c fs s => Ex c fs s
  | .no => False
/-- what a statement does where it may raise: Ex what is wanted of an exception -/
def WSX (f : ST) (env : Env) (s : S) (N : Env → S → Prop) (Rt : D → S → Prop) (B C : Env → S → Prop) (Ex : Str → XF → S → Prop) : Prop := flX (f env s) N Rt B C Ex
/-- what a function does where it may raise -/
def WFX (r : R D) (Q : D → S → Prop) (Ex : Str → XF → S → Prop) : Prop := match r with
  | .ok a s => Q a s
  | .ex c fs s => Ex c fs s
  | .no => False
section
variable {a b : ST} {f : EX} {fa : EA} {c : EB} {env : Env} {s : S} {N : Env → S → Prop} {Rt : D → S → Prop} {B C : Env → S → Prop} {Ex : Str → XF → S → Prop} {t : T}
theorem wsx_of (h : WS a env s N Rt B C) : WSX a env s N Rt B C Ex := by
  unfold WS at h
  unfold WSX flX
  cases e : a env s <;> rw [e] at h <;> first | exact h | exact h.elim
theorem wsx_seq (h : WSX a env s (fun e s => WSX b e s N Rt B C Ex) Rt B C Ex) : WSX (sSeq a b) env s N Rt B C Ex := by
  unfold WSX flX at h
  unfold WSX flX sSeq
  cases e : a env s <;> rw [e] at h <;> exact h
theorem wsx_if (h : WB c env s fun k s1 => if k = true then WSX a env s1 N Rt B C Ex else WSX b env s1 N Rt B C Ex) : WSX (sIf c a b) env s N Rt B C Ex := by
  obtain ⟨k, s1, e, h⟩ := h
  unfold WSX flX sIf
  rw [e]
  show (match (if k = true then a env s1 else b env s1) with | .nx e s => N e s | .rt d s => Rt d s | .bk e s => B e s | .ct e s => C e s | .ex c fs s => Ex c fs s | .no => False)
  cases k <;> exact h
theorem wsx_set {i : Nat} (h : W f env s fun d s1 => N (env.set i (some d)) s1) : WSX (sSet i f) env s N Rt B C Ex := wsx_of (ws_set.mpr h)
theorem wsx_raise2 {x f1 f2 : Str} (h : WA fa env s fun ds s1 => ∃ d1 d2, ds = [d1, d2] ∧ Ex x (some [(f2, d2), (f1, d1)]) s1) : WSX (sRaise2 x f1 f2 fa) env s N Rt B C Ex := by
  obtain ⟨ds, s1, e, d1, d2, rfl, h⟩ := h
  unfold WSX flX sRaise2
  rw [e]
  exact h
theorem wsx_skip (h : N env s) : WSX sSkip env s N Rt B C Ex := h
theorem wsx_mono {N' : Env → S → Prop} (h : WSX a env s N Rt B C Ex) (k : ∀ e s, N e s → N' e s) : WSX a env s N' Rt B C Ex := by
  unfold WSX flX at h ⊢
  cases e : a env s <;> rw [e] at h <;> first | exact k _ _ h | exact h
theorem wsx_rng {n : Nat} {ff : EX} (I : Nat → Env → S → Prop) (h : W ff env s fun d s1 => d = .int (n : Int) ∧ n < 4611686018427387904 ∧ I 0 env s1)
    (hs : ∀ (i : Nat) env s, i < n → I i env s → WP (asgT t (.int (i : Int)) env) fun e1 => WSX b e1 s (I (i + 1)) Rt N (I (i + 1)) Ex)
    (hd : ∀ env s, I n env s → N env s) : WSX (sFor t (iRg1 ff) b) env s N Rt B C Ex := by
  obtain ⟨d, s1, e, rfl, hn, h0⟩ := h
  have key : ∀ (m i : Nat) (env : Env) (s : S), m = n - i → i ≤ n → I i env s → flX (forL t b (fun _ => True) ((rng 0 n).drop i) env s) N Rt B C Ex := by
    intro m
    induction m with
    | zero =>
      intro i env s hm hi hI
      have : i = n := by omega
      subst this
      rw [List.drop_of_length_le (by rw [rng_len]; exact Nat.le_refl _)]
      unfold forL
      rw [if_pos True.intro]
      exact hd env s hI
    | succ m ih =>
      intro i env s hm hi hI
      have hlt : i < (rng 0 n).length := by rw [rng_len]; omega
      rw [List.drop_eq_getElem_cons hlt]
      unfold forL
      rw [if_pos True.intro]
      have hg := rng_at (List.getElem?_eq_getElem hlt)
      obtain ⟨env1, ea, hb⟩ := hs i env s hg.1 hI
      rw [hg.2, ea]
      unfold WSX flX at hb
      dsimp only
      cases e2 : b env1 s with
      | no => rw [e2] at hb; exact hb.elim
      | nx e2' s2 => rw [e2] at hb; exact ih (i + 1) e2' s2 (by omega) (by omega) hb
      | ct e2' s2 => rw [e2] at hb; exact ih (i + 1) e2' s2 (by omega) (by omega) hb
      | bk e2' s2 => rw [e2] at hb; exact hb
      | rt d s2 => rw [e2] at hb; exact hb
      | ex c fs s2 => rw [e2] at hb; exact hb
  have hw : WI (iRg1 ff) env s fun w s' => w = ⟨rng 0 n, fun _ => True⟩ ∧ s' = s1 := w_iRg1.mpr ⟨_, _, e, ⟨by omega, by omega⟩, by rw [Int.toNat_natCast], rfl⟩
  obtain ⟨w, s', ew, rfl, rfl⟩ := hw
  unfold WSX sFor
  rw [ew]
  have := key n 0 env s' (by omega) (Nat.zero_le _) h0
  rw [List.drop_zero] at this
  exact this
theorem wfx_fn {tot n : Nat} {ds : List D} {Q : D → S → Prop} (h : ds.length = n) (q : WSX a (ds.map some ++ List.replicate (tot - n) none) s (fun _ s' => Q .non s') Q (fun _ _ => False) (fun _ _ => False) Ex) : WFX (fnBX tot n a ds s) Q Ex := by
  unfold WFX fnBX
  rw [if_pos h]
  unfold WSX flX at q
  cases e : a (ds.map some ++ List.replicate (tot - n) none) s <;> rw [e] at q <;> first | exact q | exact q.elim
theorem ws_try {n : Nat} {F : FN} {x : Str} {k : D → Env → S → Fl} {h : XF → Env → S → Fl} (q : WA fa env s fun ds s1 => ds.length = n ∧ WFX (F ds s1) (fun d s2 => flX (k d env s2) N Rt B C fun _ _ _ => False) fun c' fs s2 => c' = x ∧ flX (h fs env s2) N Rt B C fun _ _ _ => False) :
    WS (sTry n F fa x k h) env s N Rt B C := by
  obtain ⟨ds, s1, e, hn, q⟩ := q
  unfold WS sTry
  rw [e]
  show (match (if ds.length = n then _ else _ : Fl) with | .nx e s => N e s | .rt d s => Rt d s | .bk e s => B e s | .ct e s => C e s | _ => False)
  rw [if_pos hn]
  unfold WFX at q
  cases e2 : F ds s1 with
  | no => rw [e2] at q; exact q.elim
  | ok d s2 =>
    rw [e2] at q
    unfold flX at q
    dsimp only at q ⊢
    cases e3 : k d env s2 <;> rw [e3] at q <;> first | exact q | exact q.elim
  | ex c' fs s2 =>
    rw [e2] at q
    obtain ⟨rfl, q⟩ := q
    unfold flX at q
    dsimp only
    rw [if_pos rfl]
    cases e3 : h fs env s2 <;> rw [e3] at q <;> first | exact q | exact q.elim
end
/-- the defs of a class -/
def clsDefs : Stmt → List Stmt
  | .ClassDef (body := b) .. => b
  | _ => []
end Mi

set_option Elab.async false
set_option linter.all false
set_option maxRecDepth 100000
namespace Mi
open PySem PySem.Spec PyProof.Rows L2

/-! ### defs that run where no repr is under way -/
/-- as FnOk, for callers under no guard -/
structure FnG (P : Program) (w : World) (K : PySem.W.Frag) (mg : Str → Option Value) (base : Heap) (k : Nat) (f : Addr) (fd : FuncData) (ps : List Str) (sp : Sp) : Prop where
  len : ∀ vs H Q E, sp vs H Q E → vs.length = ps.length
  run : ∀ (A : Around) (outer : List PySem.Env) (s : Shared) (H : Hp) (args : Args) (us : List Value) (vs : List V) (Q : VK) (E : XK), A.guards = some [] → Room k A → Env0 P w K mg base A outer s H →
    BindsTo s fd args (ps.zip us) → Vals vs us → sp vs H Q E → codeAny (model P w) A (.call (.ref f) args) (CR CX0 outer P w H s Q E) s
theorem FnG.mono {P : Program} {w : World} {K : PySem.W.Frag} {mg : Str → Option Value} {base : Heap} {j k : Nat} {f : Addr} {fd : FuncData} {ps : List Str} {sp : Sp} (F : FnG P w K mg base j f fd ps sp) (h : j ≤ k) : FnG P w K mg base k f fd ps sp :=
  ⟨F.len, fun A outer s H args us vs Q E hg hr => F.run A outer s H args us vs Q E hg (hr.mono h)⟩
theorem guards_deeper {A : Around} {env : PySem.Env} (h : A.guards = some []) : (A.deeper env).guards = some [] := h
theorem fnG_of {P : Program} {w : World} {K : PySem.W.Frag} {mg : Str → Option Value} {base : Heap} {x qual : Str} {st : Stmt} {f : Addr} {fd : FuncData} {N ps : List Str} {k : Nat} {sp : Sp} (D : Fun K x qual st f fd) (S : FnScope N ps (defScope st))
    (len : ∀ vs H Q E, sp vs H Q E → vs.length = ps.length)
    (body : ∀ (cdv : Value) (A : Around) (outer : List PySem.Env) (s : Shared) (H : Hp) (vs : List V) (Q : VK) (E : XK), (A.deeper (envOfC qual (defScope st) s.heap.objs.size f cdv)).guards = some [] → Room k (A.deeper (envOfC qual (defScope st) s.heap.objs.size f cdv)) → sp vs H Q E →
      ∃ t, PSs (cxOf CX0 P w K mg base N qual (defScope st) f cdv A outer s H E).nox (defBody st) t ∧ t { nx := fun _ H' => Q .non H', rt := Q } (start N vs) H) : FnG P w K mg base (k + 1) f fd ps sp := by
  obtain ⟨oc, od, kV, doc, pm, an, cdv, ct, osl, rfl, lk, hcd⟩ := D.ex
  refine ⟨len, ?_⟩
  intro A outer s H args us vs Q E hg hr e0 hb r hsp
  have kin := e0.mod.kin.keeps (fun b o e => (e0.bs b o e).1)
  have lim := e0.mod.nolimit.keeps (fun b o e => (e0.bs b o e).1)
  have cells : ∀ y ∈ ps.zip us, (defScope st).names.lookup y.1 = some .local ∨ ((defScope st).names.lookup y.1 = some .cell ∧ ((cellsFrom (s.heap.objs.size + 1) (defScope st).names []).lookup y.1).isSome = true) := by
    rintro ⟨n, v⟩ hy
    have hn := (List.of_mem_zip hy).1
    exact (S.par n hn).imp id fun z => ⟨z, PySem.W.cellsFrom_some _ _ _ (.inl z)⟩
  refine codeAny_call_function hr.depth (kin _ _ lk) rfl S.co S.gen rfl (PySem.W.codeRec_of kin hcd) (hb _ _ _ _ ?_)
  refine wpAny_newFunctionEnv_cells S.kind cells ?_
  rintro env rfl s1 ic
  refine ⟨lim.keeps ic.toInCall.keep, codeAny_func ?_⟩
  obtain ⟨t, ht, hq⟩ := body cdv A outer s H vs Q E (guards_deeper hg) (hr.deeper _) hsp
  refine wpAny_mono (ht.nox.run [] s1 (start N vs) H _ (inv_start S hr.hd e0 (len _ _ _ _ hsp) r ic) hq) ?_ (fun _ _ z => z)
  intro fl s' z
  cases fl with
  | ret u => obtain ⟨v, σ', H', J, rv, q⟩ := z; exact ⟨v, H', J.os, J.bare, J.base, J.hok, rv, q⟩
  | next => obtain ⟨σ', H', J, q⟩ := z; exact ⟨V.non, H', J.os, J.bare, J.base, J.hok, rfl, q⟩
  | brk => obtain ⟨_, _, _, q⟩ := z; exact q.elim
  | cont => obtain ⟨_, _, _, q⟩ := z; exact q.elim
structure KeepsG (P : Program) (w : World) (K : PySem.W.Frag) (mg : Str → Option Value) (base : Heap) (L : Nat) (x : Str) (ps : List Str) (F : FN) (f : Addr) (fd : FuncData) : Prop where
  ok : FnG P w K mg base L f fd ps (spF ⟨K, mg⟩ ps.length F)
  at_ : mg x = some (.ref f)
  kp : PySem.W.keepIn K (.ref f) = true
  bd : Binds K fd ps []
theorem keepsG_of {P : Program} {w : World} {K : PySem.W.Frag} {mg : Str → Option Value} {base : Heap} {x : Str} {st : Stmt} {f : Addr} {fd : FuncData} {N ps : List Str} {k : Nat} {b : ST} (h : DefAt K mg x st ps f fd) (sc : FnScope N ps (defScope st))
    (hb : ∀ (cdv : Value) (A : Around) (outer : List PySem.Env) (s : Shared) (H : Hp) (E : XK), (A.deeper (envOfC x (defScope st) s.heap.objs.size f cdv)).guards = some [] → Room k (A.deeper (envOfC x (defScope st) s.heap.objs.size f cdv)) →
      PSs (cxOf CX0 P w K mg base N x (defScope st) f cdv A outer s H E).nox (defBody st) (semS ⟨K, mg⟩ E0 b)) : KeepsG P w K mg base (k + 1) x ps (fnB N.length ps.length b) f fd := by
  refine ⟨fnG_of h.fn sc (fun vs H Q E q => ?_) (fun cdv A outer s H vs Q E hg hr q => ⟨_, hb cdv A outer s H E hg hr, ?_⟩), h.at_, h.fn.kp, h.bd⟩
  · obtain ⟨m, s, ds, hn, _, r, _⟩ := q
    exact r.length.trans hn
  · obtain ⟨m, s1, ds, hn, hold, r, q⟩ := q
    refine ⟨m, _, s1, ag_start (N := N) hold r hn, ?_⟩
    unfold fnB at q
    rw [if_pos hn] at q
    generalize b (ds.map some ++ List.replicate (N.length - ps.length) none) s1 = fl at q ⊢
    cases fl with
    | nx env2 s2 => exact fun σ' m' H' l' a' => q _ m' H' l' a'.hold .non
    | rt d s2 => exact q
    | _ => exact (show False from q).elim
/-- a call of such a def -/
theorem s_ownG {X : Cx} {L L' n : Nat} {x : Str} {ps : List Str} {F : FN} {f : Addr} {fd : FuncData} {e : Expr} {es : List Expr} {fa : EA} {p pos : Pos} (h : KeepsG X.prog X.w X.K X.mg X.base L x ps F f fd) (hl : L ≤ L') (hgd : X.A.guards = some []) (hr : Room L' X.A) (hn : ps.length = n) (hg : Gl X x)
    (ha : PA X (e :: es) (semA ⟨X.K, X.mg⟩ E0 fa)) (hdb : (x == ("__debug__" : Str)) = false := by decide) (he : starEach (e :: es) X.env = (false, eval e X.env) :: starEach es X.env := by rfl) (hpl : (backTo pos (starEach es X.env)).any (·.1) = false := by rfl) :
    PE X (.Call (.Name x p) (e :: es) [] pos) (sem ⟨X.K, X.mg⟩ E0 (eCall n F fa)) := by
  subst hn
  refine s_call ⟨fun pins s σ H Q I q => ?_⟩
  refine wpAny_Call_Name_kw (ld_glob I hg h.at_ (PySem.W.callWith_K (h₀ := X.base) I.ok.mod.kin h.kp (thn (ha.run pos pins s σ H _ I q) ?_) he hpl) hdb)
  rintro us s1 ⟨vs, H1, I1, r, q1⟩
  refine ⟨I1.kIn, ?_⟩
  rw [List.append_nil] at q1
  have hl2 : us.length = ps.length := r.length.symm.trans (h.ok.len _ _ _ _ q1)
  have b := h.bd s1 us I1.kIn (by rw [List.append_nil]; exact hl2)
  rw [List.append_nil] at b
  refine wpAny_call (codeAny_mono ((h.ok.mono hl).run X.A X.stack s1 H1 ⟨us, []⟩ us vs Q E0 hgd hr I1.env0 b r q1) ?_)
  intro rr s' z
  cases rr with
  | error e => exact (show False from z).elim
  | ok fl =>
    cases fl with
    | ret u => exact I1.after z
    | _ => exact (show False from z).elim
/-! ### repr of data -/
def reprOk (q : PyData) : Bool := q.showable && !q.hasDict && decide (q.depth ≤ 40) && decide (q.shown.length ≤ 16777216)
def reprB : OPN := fun ds s => match ds with
  | [.ref p] => match toP 60 s (.ref p) with
    | some q => if reprOk q = true then some (.str q.shown, s) else none
    | none => none
  | _ => none
def rRepr (K : PySem.W.Frag) : RN := fun xs H Q => ∃ (a : Addr) (q : PyData), xs = [.ref a] ∧ Dp K H (.ref a) q ∧ reprOk q = true ∧ Q (.str q.shown) H
theorem call_repr {X : Cx} {k : Nat} (hgd : X.A.guards = some []) (hr : Room k X.A) : CallR X (.builtin "repr") (rRepr X.K) := by
  rintro pins s σ H xs us Q I rx ⟨a, q, rfl, hd, ok, hq⟩
  unfold reprOk at ok
  simp only [Bool.and_eq_true, Bool.not_eq_true', decide_eq_true_eq] at ok
  cases rx with
  | cons r rr =>
    cases rr
    cases r
    obtain ⟨as, rd⟩ := Dp.reads I q (.ref a) (.ref a) hd rfl
    have hu := hr.un
    exact PySem.repr_of_reads' rd ok.1.1.1 (fun z => by rw [ok.1.1.2] at z; cases z) hgd (by have := ok.1.2; omega) (fun _ _ e => e) (fun h' u tk hk => ⟨.str _, H, I.kept hk, ⟨_, rfl⟩, hq⟩) (line_ok ok.2)
theorem on_repr {g : G} : ON g (rRepr g.K) reprB := by
  intro m H s vs ds x s' Q hold rv he q
  unfold reprB at he
  split at he
  · rename_i p
    obtain ⟨v, rfl, r⟩ := reps1 rv
    split at he
    · rename_i pd hp
      by_cases c : reprOk pd = true
      · rw [if_pos c] at he; cases he
        have hd := toP_ok hold 60 v _ _ r hp
        cases r with
        | ref z => exact ⟨_, pd, rfl, hd, c, PD.here hold (.str _) q⟩
      · rw [if_neg c] at he; cases he
    · cases he
  · cases he
end Mi

set_option Elab.async false
set_option linter.all false
set_option maxRecDepth 100000
namespace Mi
open PySem PySem.Spec PyProof.Rows L2

/-! ### the head of a law whose def is one of those -/
/-- from an abstract heap in which the script alone may stand -/
theorem headG {P : Program} {w : World} {K : PySem.W.Frag} {mg mb : Str → Option Value} {k : Nat} {fa a : Addr} {fd : FuncData} {x : Str} {sp : Sp} {z : Shared} {vs : List Value} {ns : List Int} {H : Hp}
    (KX : K.In z.heap) (g1 : z.heap.Ns mainGlobals mg) (g2 : z.heap.Ns builtinsNs mb) (g3 : ∀ x : Str, x ≠ "__name__" → mb x = bootBuiltins x) (g4 : z.heap.NoLimit) (g5 : z.gens = #[])
    (ha : z.heap.get? a = some { cls := .type "list", data := .seq vs.toArray }) (hr : Room k callerA) (F : ∀ base : Heap, K.In base → base.Ns mainGlobals mg → FnG P w K mg base k fa fd [x] sp) (bnd : ∀ (s : Shared) (u : Value), BindsTo s fd ⟨[u], []⟩ [(x, u)])
    (hO : Only H) (hsp : sp [.ref a] H (fun v _ => v = .bl true) fun _ _ _ => False) (hok : HOk P w H z.heap) (alone : ∀ b, H b ≠ none → b = a) (notK : H a ≠ none → K.lookup a = none) :
    codeAny (model P w) callerA (.call (.ref fa) ⟨[.ref a], []⟩) (fun r s' => r = .ok (.ret (.bool true)) ∧ OldK z.heap s'.heap ∧ s'.os = z.os ∧ AllBare s'.gens) z := by
  have out : ∀ {b : Addr}, b ≠ a → H b = none := fun {b} h => Classical.byContradiction fun n => h (alone b n)
  have space : ∀ {b : Addr} {m : Str → Option Value}, z.heap.Ns b m → (hidT z.heap H).Ns b m := by
    rintro b m ⟨o, es, ep, e, d, r⟩
    have nb : b ≠ a := by
      rintro rfl
      rw [ha] at e; cases e
      exact nomatch (show Data.seq vs.toArray _ = Data.dict es ep from d)
    exact ⟨o, es, ep, hidT_get e (out nb), d, r⟩
  have kin : K.In (hidT z.heap H) := by
    intro b o e
    refine hidT_get (KX b o e) (Classical.byContradiction fun n => ?_)
    have := alone b n
    subst this
    rw [notK n] at e; cases e
  have md : Mod K mg (hidT z.heap H) := ⟨kin, space g1, ⟨mb, space g2, g3⟩, g4.imp fun mc q => ⟨space q.1, q.2⟩⟩
  have e0 : Env0 P w K mg (hidT z.heap H) callerA [] z H := ⟨rfl, md, fun b o e => of_hidT e, Nat.le_of_eq (hidT_size z.heap H), True.intro, (fun b hb => nomatch (show b ∈ ([] : List Addr) from hb)), hok, .of_eq g5⟩
  have run := (F (hidT z.heap H) kin (space g1)).run callerA [] z H ⟨[.ref a], []⟩ [.ref a] [.ref a] (fun v _ => v = .bl true) (fun _ _ _ => False) rfl hr e0 (bnd z (.ref a)) (.cons rfl .nil) hsp
  refine codeAny_mono run ?_
  rintro (e | fl) s' h
  · exact (show False from h).elim
  · cases fl with
    | ret u =>
      obtain ⟨v, H', os, bare, un, hok', rel, hv⟩ := h
      cases (show v = .bl true from hv)
      cases (show u = Value.bool true from rel)
      refine ⟨rfl, OldK.of_keep (fun b o e => ?_), os, bare⟩
      rcases hO b with n | ⟨ob, xs, y⟩
      · exact un.keep b o e n (by intro q; exact nomatch (show b ∈ ([] : List Addr) from q)) (by simp)
      · have e1 := (hok b _ y).1
        have e2 := (hok' b _ (un.frzs b ob _ y)).1
        rw [e] at e1; cases e1
        exact e2
    | _ => exact (show False from h).elim
theorem lawG {P : Program} {w : World} {K : PySem.W.Frag} {mg mb : Str → Option Value} {k : Nat} {fa a : Addr} {fd : FuncData} {x : Str} {sp : Sp} {z : Shared} {vs : List Value} {ns : List Int}
    (KX : K.In z.heap) (g1 : z.heap.Ns mainGlobals mg) (g2 : z.heap.Ns builtinsNs mb) (g3 : ∀ x : Str, x ≠ "__name__" → mb x = bootBuiltins x) (g4 : z.heap.NoLimit) (g5 : z.gens = #[])
    (ha : z.heap.get? a = some { cls := .type "list", data := .seq vs.toArray }) (hi : IntsAre vs ns) (hl : ns.length ≤ sizeLine) (hr : Room k callerA) (F : ∀ base : Heap, K.In base → base.Ns mainGlobals mg → FnG P w K mg base k fa fd [x] sp) (bnd : ∀ (s : Shared) (u : Value), BindsTo s fd ⟨[u], []⟩ [(x, u)])
    (hsp : ∀ H : Hp, Only H → SqL K H a (ns.map V.int) → sp [.ref a] H (fun v _ => v = .bl true) fun _ _ _ => False) :
    codeAny (model P w) callerA (.call (.ref fa) ⟨[.ref a], []⟩) (fun r s' => r = .ok (.ret (.bool true)) ∧ OldK z.heap s'.heap ∧ s'.os = z.os ∧ AllBare s'.gens) z := by
  have rv := vals_ints hi
  cases hk : K.lookup a with
  | some o =>
    have e := KX a o hk
    rw [ha] at e; cases e
    have sq : SqL K (fun _ => none) a (ns.map V.int) := .inr ⟨_, vs.toArray, _, hk, rfl, rfl, rfl, by rw [List.size_toArray, hi.length]; exact hl, by simpa using rv⟩
    exact headG (ns := ns) KX g1 g2 g3 g4 g5 ha hr F bnd (fun _ => .inl rfl) (hsp _ (fun _ => .inl rfl) sq) (fun b u e => nomatch (show (none : Option HO) = some u from e)) (fun b n => absurd rfl n) fun n => absurd rfl n
  | none =>
    generalize hH : (fun b => if b = a then some (HO.frz { cls := .type "list", data := .seq vs.toArray } (.lst (ns.map V.int))) else none : Hp) = H
    have at_a : H a = some (HO.frz { cls := .type "list", data := .seq vs.toArray } (.lst (ns.map V.int))) := by rw [← hH]; exact if_pos rfl
    have off : ∀ b, b ≠ a → H b = none := fun b n => by rw [← hH]; exact if_neg n
    have only : Only H := fun b => by
      by_cases c : b = a
      · subst c; exact .inr ⟨_, _, at_a⟩
      · exact .inl (off b c)
    refine headG (ns := ns) KX g1 g2 g3 g4 g5 ha hr F bnd only (hsp H only (.inl (.inr ⟨_, at_a⟩))) (fun b u e => ?_) (fun b n => Classical.byContradiction fun c => n (off b c)) fun _ => hk
    by_cases c : b = a
    · subst c
      rw [at_a] at e; cases e
      exact ⟨ha, by rw [List.length_map]; exact hl, vs, _, rv, ha⟩
    · rw [off b c] at e; cases e
theorem walkG {l : PySem.W.OpenLaw} {n k : Nat} {q : Program} {loose : List Str} {XP : (Str → Option Value) → Heap → Prop} {YP : World → Heap → Prop} {d : DefRec} {K : Params → PySem.W.Frag} {sp : PySem.W.Frag → Sp} {x : Str}
    (hn : l.most = some n) (hn2 : n ≤ sizeLine) (hdf : d.params.defaults = []) (hr : Room k callerA) (hY : ∀ (w : World) (h : Heap), YP w h → (K w.params).In h)
    (F : ∀ (w : World) (mg : Str → Option Value) (fa : Addr) (h : Heap), (K w.params).In h → h.Ns mainGlobals mg → mg d.name = some (.ref fa) →
      ∃ fd : FuncData, (∀ (s : Shared) (u : Value), BindsTo s fd ⟨[u], []⟩ [(x, u)]) ∧ ∀ base : Heap, (K w.params).In base → base.Ns mainGlobals mg → FnG l.prog w (K w.params) mg base k fa fd [x] (sp (K w.params)))
    (hsp : ∀ (K : PySem.W.Frag) (H : Hp) (a : Addr) (ns : List Int), ns.length ≤ n → Only H → SqL K H a (ns.map V.int) → sp K [.ref a] H (fun v _ => v = .bl true) fun _ _ _ => False) :
    PySem.W.WalkO q loose XP YP l.row.toRowW d [] (fun f vs => PySem.call f vs) := by
  refine Att.attach_call hn hdf ?_
  intro w s₀ s₁ mg mb fa o pm cd doc a vs ns G Y ho hd hcd hmg hobj hints hlen hg
  obtain ⟨fd, hb, hF⟩ := F w mg fa _ (hY w _ Y) G.T.g hmg
  exact lawG (hY w _ Y) G.T.g G.T.b G.T.builtins G.T.nolimit hg hobj hints (Nat.le_trans hlen hn2) hr hF hb fun H hO hS => hsp (K w.params) H a ns hlen hO hS
theorem FnG.imp {P : Program} {w : World} {K : PySem.W.Frag} {mg : Str → Option Value} {base : Heap} {k : Nat} {f : Addr} {fd : FuncData} {ps : List Str} {sp sp' : Sp} (F : FnG P w K mg base k f fd ps sp) (h : ∀ vs H Q E, sp' vs H Q E → sp vs H Q E) : FnG P w K mg base k f fd ps sp' :=
  ⟨fun vs H Q E q => F.len vs H Q E (h _ _ _ _ q), fun A outer s H args us vs Q E hg hr he hb hv hs => F.run A outer s H args us vs Q E hg hr he hb hv (h _ _ _ _ hs)⟩
end Mi

set_option Elab.async false
set_option linter.all false
set_option maxRecDepth 100000
namespace Mi
open PySem PySem.Spec PyProof.Rows L2
theorem in_tints {neg : Bool} {L : List Int} {a : Int} {s : S} : inD neg (.int a) (.tup (L.map D.int)) s = some (.bl (if neg then !decide (a ∈ L) else decide (a ∈ L)), s) := by
  rw [in_tup, if_pos (by rw [flat_ints]; rfl), Mi.any_ints]
theorem in_tupS {neg : Bool} {d : Str} {ds : List D} {s : S} : inD neg (.str d) (.tup ds) s = if (flatD (.str d) && ds.all flatD) = true then some (.bl (if neg then !(ds.any fun y => eqF y (.str d)) else ds.any fun y => eqF y (.str d)), s) else none := in_tup
theorem keyInts_L : ∀ L : List Int, keyInts (keysL L) = some L
  | [] => rfl
  | a :: L => by
    show (keyInts (keysL L)).map (a :: ·) = _
    rw [keyInts_L L]; rfl
theorem sortD_L {p : Nat} {L : List Int} {s : S} (h : s[p]? = some (.dct (keysL L))) (hl : L.length < 64) : sortDB [.ref p] s = some (.ref s.length, s ++ [.lst ((sortI L).map D.int)]) := by
  simp only [sortDB, dctAt_ref h, keyInts_L]
  rw [if_pos hl]
theorem sort_one {a : Int} : sortI [a] = [a] := (sort_uniq (List.Perm.refl _) (by simp)).symm
theorem sort_nil : sortI [] = [] := (sort_uniq (List.Perm.refl _) (by simp)).symm
end Mi

set_option Elab.async false
set_option linter.all false
set_option maxRecDepth 100000
namespace Mi
open PySem PySem.Spec PyProof.Rows L2
/-- an own exception is caught by a clause that names its class -/
theorem exm_self {K : PySem.W.Frag} {C : Addr} (e : PySem.W.subIn K (.ref C) (.type "BaseException") = some true) (c : PySem.W.isClsIn K C = true) (t : PySem.W.typeIn K (.ref C) = some (.type "type")) (s : PySem.W.subIn K (.ref C) (.ref C) = some true) : PySem.W.exmOne K (.ref C) (.ref C) = some true := by
  have c' : (PySem.W.clsIn K C).isSome = true := c
  have e1 : (PySem.W.subIn K (.ref C) (.type "BaseException") == some true) = true := by rw [e]; rfl
  have e2 : ((PySem.W.clsIn K C).isSome && PySem.W.typeIn K (.ref C) == some (.type "type")) = true := by rw [c', t]; rfl
  show (if (PySem.W.subIn K (.ref C) (.type "BaseException") == some true) = true then (if ((PySem.W.clsIn K C).isSome && PySem.W.typeIn K (.ref C) == some (.type "type")) = true then PySem.W.subIn K (.ref C) (.ref C) else none) else none) = some true
  rw [if_pos e1, if_pos e2, s]
end Mi

set_option Elab.async false
set_option linter.all false
set_option maxRecDepth 100000
namespace Mi
open PySem PySem.Spec PyProof.Rows L2

/-! ### sorted(t), t a tuple of ints -/
def rSortedTI (K : PySem.W.Frag) : RN := fun vs H Q => ∃ (a : Addr) (ns : List Int), vs = [V.ref a] ∧ SqT K H a (ns.map V.int) ∧
  ∀ (ns' : List Int) (p : Addr), ns'.Perm ns → ns'.Pairwise (· ≤ ·) → H p = none → Q (.ref p) (upd H p (.lst (ns'.map V.int)))
theorem call_sortedTI {X : Cx} : CallR X (.builtin "sorted") (rSortedTI X.K) := by
  intro pins s σ H vs us Q I r h
  obtain ⟨a, ns, rfl, hs, q⟩ := h
  obtain ⟨its, rv, ⟨o, ho, hc, n, hd⟩, hz⟩ := I.tuple hs
  rw [Vals.ref1 r]
  have hi := rv.ints
  have hz' : its.length ≤ sizeLine := by rw [← rv.length]; exact hz
  refine Calls.call_function_entry kind_sorted plain_sorted entry_sorted (args_sorted1 _) ?_
  unfold Builtin.«sorted»
  refine wpAny_bind (m := checkCount "sorted" 1 1 _) (wpAny_pure ?_)
  refine wpAny_bind (wpAny_collect_seq a (.inr rfl) ho hc hd (fun h1 hk1 => ?_) (by rw [List.size_toArray]; exact hz'))
  rw [show its.toArray.toList = its from by simp]
  have I1 := I.kept (t' := s.toks) hk1
  refine wpAny_bind (wpAny_newList ?_ hz')
  have hoL : (h1.push (seqObj "list" its.toArray 0)).get? h1.objs.size = some (seqObj "list" its.toArray 0) := Heap.get?_push_size _ rfl
  show wpAny _ _ _ _ _ { s with heap := h1.push (seqObj "list" its.toArray 0) }
  refine wpAny_bind (wpAny_holding (wpAny_call_entry PyProof.Rows.slot_list_sort ⟨_, hoL, rfl⟩ PyProof.Rows.entry_list_sort
    (SrtO.list_sort_ord SrtO.swo_int hoL hz' (fun h2 => SrtO.ints_sortable hi h2) fun out hs hb => ⟨_, rfl, ?_⟩) (args_list_sort _)))
  refine wpAny_pure ⟨_, rfl, ?_⟩
  obtain ⟨k1, k2, k3⟩ := SrtO.ints_out hi hs hb
  obtain ⟨ep, he'⟩ := PyProof.Rows.sortedHeap_at (vs := its) (out := out.toArray) hoL
  have hlen : ((out.map SrtO.iv).map V.int).length ≤ sizeLine := by
    rw [List.length_map, k2.length_eq]
    rw [List.length_map] at hz
    exact hz
  refine ⟨.ref _, upd H h1.objs.size (.lst ((out.map SrtO.iv).map V.int)), I1.laid (t' := s.toks) (fun b u hu => ?_) (Nat.le_refl _) ⟨hlen, out, ep, vals_of_ints k1, he'⟩, rfl, q _ _ k2 k3 (I1.hok.fresh (Nat.le_refl _))⟩
  have hb : b < h1.objs.size := Heap.lt_size hu
  rw [PyProof.Rows.sortedHeap_old (Nat.ne_of_lt hb) (Heap.lt_size (Heap.get?_push_of_some _ hu))]
  exact Heap.get?_push_of_some _ hu
def sortTB : OPN := fun ds s => match ds with
  | [.tup es] => (intsD es).map fun ns => (.ref s.length, s ++ [.lst ((sortI ns).map D.int)])
  | _ => none
theorem on_sortT {g : G} : ON g (rSortedTI g.K) sortTB := by
  intro m H s vs ds x s' Q hold rv he q
  unfold sortTB at he
  split at he
  · rename_i es
    obtain ⟨v, rfl, r⟩ := reps1 rv
    cases hp : intsD es with
    | none => rw [hp] at he; cases he
    | some ns =>
      rw [hp] at he
      cases he
      cases r with
      | tup z t =>
        refine ⟨_, ns, rfl, by rw [← ints_rep t hp]; exact z.sq, fun ys l h1 h2 hl => ?_⟩
        rw [sort_uniq h1 h2]
        exact new_lst hold hl (reps_ints _) q
  · cases he
theorem sort_tints {L : List Int} {s : S} : sortTB [.tup (L.map D.int)] s = some (.ref s.length, s ++ [.lst ((sortI L).map D.int)]) := by
  simp only [sortTB, intsD_map, Option.map_some]
end Mi

set_option Elab.async false
set_option linter.all false
set_option maxRecDepth 100000
set_option maxHeartbeats 4000000
namespace My
open PySem PySem.Spec PyProof.Rows L2 Mi
def topS (i : Nat) : Stmt := PySem.Challenge.pw_sameclock_k64_papers_that_hold.main.body.getD i (.Pass ⟨0, 0, 0, 0⟩)
def dv_REGISTERS : D := .int 16
def dv_ALL : D := .tup [.int 0, .int 1, .int 2, .int 3, .int 4, .int 5, .int 6, .int 7, .int 8, .int 9, .int 10, .int 11, .int 12, .int 13, .int 14, .int 15]
structure Blt (K : PySem.W.Frag) (w : World) (mg : Str → Option Value) : Prop where
  tuple : mg "tuple" = none
  sorted : mg "sorted" = none
  all : mg "all" = none
  isinstance : mg "isinstance" = none
  int : mg "int" = none
  bool : mg "bool" = none
  zip : mg "zip" = none
  len : mg "len" = none
  range : mg "range" = none
  list : mg "list" = none
  abs : mg "abs" = none
  repr : mg "repr" = none
  gv_REGISTERS : GV K mg "REGISTERS" dv_REGISTERS
  gv_ALL : GV K mg "ALL" dv_ALL
section
variable {P : Program} {w : World} {K : PySem.W.Frag} {mg : Str → Option Value} {base : Heap}
abbrev s_region_of : Stmt := topS 3
theorem sc_region_of : FnScope ["code", "base", "mask", "region"] ["code", "base", "mask"] (defScope s_region_of) := ⟨rfl, rfl, rfl, by decide +kernel, rfl, by decide +kernel, by decide +kernel⟩
noncomputable def g_region_of_b1 : ST :=
  (sIf (tAn (tB1 (e2 leD (e2 ixD (vr 3) (cn (.int 0))) (vr 1))) (tB1 (e2 ltD (e2 addD (vr 1) (vr 2)) (e2 addD (e2 ixD (vr 3) (cn (.int 0))) (e2 ixD (vr 3) (cn (.int 1))))))) (sRet (vr 3)) sSkip)
noncomputable def g_region_of : ST :=
  (sSeq (sFor (.n 3) (iSeq (e2 ixD (vr 0) (cn (.int 0)))) g_region_of_b1)
    (sRet (cn .non)))
noncomputable def F_region_of : FN := fnB 4 3 g_region_of
theorem ok_region_of (B : Blt K w mg) {f : Addr} {fd : FuncData} (h : DefAt K mg "region_of" s_region_of ["code", "base", "mask"] f fd)  : Keeps P w K mg base 1 "region_of" ["code", "base", "mask"] F_region_of f fd :=
  keeps_of h sc_region_of fun cdv A outer s H E hr =>
    (ss_cons (c_for (t := (.n 3)) (ps_for PassesOwn.never rfl (i_seq (s_ix ix_seq o2_ix (s_var (pv 0)) s_int (fun _ _ => rfl))) (pg_name (i := 3) sc_region_of.nd rfl (by first | exact Or.inl rfl | exact Or.inr rfl)) (ss_one (c_if (ps_if (PW.pt (t_and (t_cmp op_le o2_le (s_ix ix_seq o2_ix (s_var (pv 3)) s_int (fun _ _ => rfl)) (s_var (pv 1)) (nomark _)) (t_and1 (t_cmp op_lt o2_lt (s_op op_addA o2_add (s_var (pv 1)) (s_var (pv 2))) (s_op op_addA o2_add (s_ix ix_seq o2_ix (s_var (pv 3)) s_int (fun _ _ => rfl)) (s_ix ix_seq o2_ix (s_var (pv 3)) s_int (fun _ _ => rfl))) (nomark _))))) (ss_one (c_ret (ps_ret (s_var (pv 3))))) ss_nil)))))
    (ss_one (c_ret (ps_ret s_non))))
abbrev s_public_behind : Stmt := topS 4
theorem sc_public_behind : FnScope ["code", "r", "member", "row", "kind", "written", "public", "region", "one", "rest"] ["code", "r", "member"] (defScope s_public_behind) := ⟨rfl, rfl, rfl, by decide +kernel, rfl, by decide +kernel, by decide +kernel⟩
noncomputable def g_public_behind_b1 : ST :=
  (sRet (eB tupB (aC (eB sortB (aC (vr 9) aN)) aN)))
noncomputable def g_public_behind_b2 : ST :=
  (sSeq (sSet 9 (eLc (iSeq (vr 2)) (.n 8) [8] (tB1 (e2 neD (vr 8) (vr 5))) (vr 8)))
    (sSeq (sIf (tTl (vr 6)) (sEx (eM "list" appM (vr 9) (aC (vr 5) aN))) sSkip)
    g_public_behind_b1))
noncomputable def g_public_behind : ST :=
  (sSeq (sSet 3 (e2 ixD (e2 ixD (vr 0) (cn (.int 1))) (vr 1)))
    (sSeq (sSet 4 (e2 ixD (vr 3) (cn (.int 0))))
    (sSeq (sIf (tB1 (e2 eqD (vr 4) (cn (.str "const")))) (sAsg (.t [5, 6]) (eTup (aC (e2 ixD (vr 3) (cn (.int 1))) (aC (cn (.bl true)) aN)))) (sIf (tB1 (e2 eqD (vr 4) (cn (.str "op")))) (sAsg (.t [5, 6]) (eTup (aC (e2 ixD (vr 3) (cn (.int 2))) (aC (eAn (e2 (inD false) (e2 ixD (vr 3) (cn (.int 3))) (vr 2)) (e2 (inD false) (e2 ixD (vr 3) (cn (.int 4))) (vr 2))) aN)))) (sIf (tB1 (e2 eqD (vr 4) (cn (.str "select")))) (sAsg (.t [5, 6]) (eTup (aC (e2 ixD (vr 3) (cn (.int 1))) (aC (eB allB (aC (eLc (iSeq (eSl (vr 3) (oS (cn (.int 2))) oN)) (.n 8) [8] yes (e2 (inD false) (vr 8) (vr 2))) aN)) aN)))) (sIf (tB1 (e2 eqD (vr 4) (cn (.str "load")))) (sSeq (sSet 7 (eCall 3 F_region_of (aC (vr 0) (aC (e2 ixD (vr 3) (cn (.int 3))) (aC (e2 ixD (vr 3) (cn (.int 4))) aN)))))
    (sAsg (.t [5, 6]) (eTup (aC (e2 ixD (vr 3) (cn (.int 1))) (aC (eAn (e2 isNotD (vr 7) (cn .non)) (e2 eqD (e2 ixD (vr 7) (cn (.int 2))) (cn (.str "public")))) aN))))) (sRet (eB tupB (aC (vr 2) aN)))))))
    g_public_behind_b2)))
noncomputable def F_public_behind : FN := fnB 10 3 g_public_behind
theorem ok_public_behind (B : Blt K w mg) {f : Addr} {fd : FuncData} (h : DefAt K mg "public_behind" s_public_behind ["code", "r", "member"] f fd) {f0 : Addr} {fd0 : FuncData} (h_region_of : Keeps P w K mg base 1 "region_of" ["code", "base", "mask"] F_region_of f0 fd0) : Keeps P w K mg base 2 "public_behind" ["code", "r", "member"] F_public_behind f fd :=
  keeps_of h sc_public_behind fun cdv A outer s H E hr =>
    (ss_cons (c_set (ps_set (i := 3) sc_public_behind.nd rfl (by first | exact Or.inl rfl | exact Or.inr rfl) (s_ix ix_seq o2_ix (s_ix ix_seq o2_ix (s_var (pv 0)) s_int (fun _ _ => rfl)) (s_var (pv 1)) (fun _ _ => rfl))))
    (ss_cons (c_set (ps_set (i := 4) sc_public_behind.nd rfl (by first | exact Or.inl rfl | exact Or.inr rfl) (s_ix ix_seq o2_ix (s_var (pv 3)) s_int (fun _ _ => rfl))))
    (ss_cons (c_if (ps_if (t_cmp (op_eqA hr.units) o2_eq (s_var (pv 4)) s_str (nomark _)) (ss_one (c_asg (t := (.t [5, 6])) (ps_asg (s_tup (a_cons (s_ix ix_seq o2_ix (s_var (pv 3)) s_int (fun _ _ => rfl)) (a_cons s_bl a_nil))) (pg_tup rfl (pgs_cons (pg_name (i := 5) sc_public_behind.nd rfl (by first | exact Or.inl rfl | exact Or.inr rfl)) (pgs_cons (pg_name (i := 6) sc_public_behind.nd rfl (by first | exact Or.inl rfl | exact Or.inr rfl)) pgs_nil)))))) (ss_one (c_if (ps_if (t_cmp (op_eqA hr.units) o2_eq (s_var (pv 4)) s_str (nomark _)) (ss_one (c_asg (t := (.t [5, 6])) (ps_asg (s_tup (a_cons (s_ix ix_seq o2_ix (s_var (pv 3)) s_int (fun _ _ => rfl)) (a_cons (s_and (s_cmp op_in_seq (o2_in (neg := false)) (s_ix ix_seq o2_ix (s_var (pv 3)) s_int (fun _ _ => rfl)) (s_var (pv 2)) (by rfl)) (s_one (s_cmp op_in_seq (o2_in (neg := false)) (s_ix ix_seq o2_ix (s_var (pv 3)) s_int (fun _ _ => rfl)) (s_var (pv 2)) (by rfl)))) a_nil))) (pg_tup rfl (pgs_cons (pg_name (i := 5) sc_public_behind.nd rfl (by first | exact Or.inl rfl | exact Or.inr rfl)) (pgs_cons (pg_name (i := 6) sc_public_behind.nd rfl (by first | exact Or.inl rfl | exact Or.inr rfl)) pgs_nil)))))) (ss_one (c_if (ps_if (t_cmp (op_eqA hr.units) o2_eq (s_var (pv 4)) s_str (nomark _)) (ss_one (c_asg (t := (.t [5, 6])) (ps_asg (s_tup (a_cons (s_ix ix_seq o2_ix (s_var (pv 3)) s_int (fun _ _ => rfl)) (a_cons (s_blt (pe_callB (cr_all rfl) (by rfl) B.all (by decide +kernel) (a_cons (s_lc0 (pe_lc (own := [("one", 8)]) (g := gT _ (.n 8)) (by rfl) sc_public_behind.nd (i_seq (s_slice (s_var (pv 3)) (o_some s_int) o_none)) (blkOk_by (own := [("one", 8)]) (N := ["code", "r", "member", "row", "kind", "written", "public", "region", "one", "rest"]) (sc := defScope s_public_behind) (by decide +kernel)) (fun _ _ _ _ _ => (pg_name (i := 8) sc_public_behind.nd rfl (by first | exact Or.inl rfl | exact Or.inr rfl))) (fun _ _ _ _ _ => pts_nil) (fun _ _ _ _ _ => (s_cmp op_in_seq (o2_in (neg := false)) (s_var (pv 8)) (s_var (pv 2)) (by rfl)))) (by decide)) a_nil)) on_all) a_nil))) (pg_tup rfl (pgs_cons (pg_name (i := 5) sc_public_behind.nd rfl (by first | exact Or.inl rfl | exact Or.inr rfl)) (pgs_cons (pg_name (i := 6) sc_public_behind.nd rfl (by first | exact Or.inl rfl | exact Or.inr rfl)) pgs_nil)))))) (ss_one (c_if (ps_if (t_cmp (op_eqA hr.units) o2_eq (s_var (pv 4)) s_str (nomark _)) (ss_cons (c_set (ps_set (i := 7) sc_public_behind.nd rfl (by first | exact Or.inl rfl | exact Or.inr rfl) (s_own h_region_of (by decide) hr rfl (by rfl) (a_cons (s_var (pv 0)) (a_cons (s_ix ix_seq o2_ix (s_var (pv 3)) s_int (fun _ _ => rfl)) (a_cons (s_ix ix_seq o2_ix (s_var (pv 3)) s_int (fun _ _ => rfl)) a_nil))))))
    (ss_one (c_asg (t := (.t [5, 6])) (ps_asg (s_tup (a_cons (s_ix ix_seq o2_ix (s_var (pv 3)) s_int (fun _ _ => rfl)) (a_cons (s_and (s_cmp op_isNotA o2_isNot (s_var (pv 7)) s_non (nomark _)) (s_one (s_cmp (op_eqA hr.units) o2_eq (s_ix ix_seq o2_ix (s_var (pv 7)) s_int (fun _ _ => rfl)) s_str (nomark _)))) a_nil))) (pg_tup rfl (pgs_cons (pg_name (i := 5) sc_public_behind.nd rfl (by first | exact Or.inl rfl | exact Or.inr rfl)) (pgs_cons (pg_name (i := 6) sc_public_behind.nd rfl (by first | exact Or.inl rfl | exact Or.inr rfl)) pgs_nil))))))) (ss_one (c_ret (ps_ret (s_blt (pe_callTy call_tuple_of (by rfl) B.tuple (by decide +kernel) (a_cons (s_var (pv 2)) a_nil)) on_tup)))))))))))))))
    (ss_cons (c_setLc (ps_setLc (i := 9) (own := [("one", 8)]) (g := gT _ (.n 8)) (by rfl) sc_public_behind.nd rfl rfl (sw_true rfl rfl rfl (by decide +kernel)) (i_seq (s_var (pv 2))) (blkOk_by (own := [("one", 8)]) (N := ["code", "r", "member", "row", "kind", "written", "public", "region", "one", "rest"]) (sc := defScope s_public_behind) (by decide +kernel)) (fun _ _ _ _ _ => (pg_name (i := 8) sc_public_behind.nd rfl (by first | exact Or.inl rfl | exact Or.inr rfl))) (fun _ _ _ _ _ => pts_one (t_cmp (op_neA hr.units) o2_ne (s_var (pv 8)) (s_var (pv 5)) (nomark _))) (fun _ _ _ _ _ => (s_var (pv 8)))) (by decide))
    (ss_cons (c_if (ps_if (t_truth (s_var (pv 6))) (ss_one (c_ex (ps_expr (s_meth (pe_bm PySem.F.plainAttrs_list PySem.F.slot_list_append PySem.F.type_list_append mt_append (s_var (pv 9)) (a_cons (s_var (pv 5)) a_nil)) om_app)))) ss_nil))
    (ss_one (c_ret (ps_ret (s_blt (pe_callTy call_tuple_of (by rfl) B.tuple (by decide +kernel) (a_cons (s_blt (pe_callB cr_sortedI (by rfl) B.sorted (by decide +kernel) (a_cons (s_var (pv 9)) a_nil)) on_sort) a_nil)) on_tup)))))))))
abbrev s_ways : Stmt := topS 5
theorem sc_ways : FnScope ["code", "r", "row"] ["code", "r"] (defScope s_ways) := ⟨rfl, rfl, rfl, by decide +kernel, rfl, by decide +kernel, by decide +kernel⟩
noncomputable def g_ways : ST :=
  (sSeq (sSet 2 (e2 ixD (e2 ixD (vr 0) (cn (.int 1))) (vr 1)))
    (sSeq (sIf (tB1 (e2 eqD (e2 ixD (vr 2) (cn (.int 0))) (cn (.str "stop")))) (sRet (eTup aN)) sSkip)
    (sSeq (sIf (tB1 (e2 eqD (e2 ixD (vr 2) (cn (.int 0))) (cn (.str "jump")))) (sRet (eTup (aC (e2 ixD (vr 2) (cn (.int 1))) aN))) sSkip)
    (sSeq (sIf (tB1 (e2 eqD (e2 ixD (vr 2) (cn (.int 0))) (cn (.str "branch")))) (sRet (eB tupB (aC (eB sortDB (aC (eDct [((e2 addD (vr 1) (cn (.int 1))), (cn (.bl true))), ((e2 ixD (vr 2) (cn (.int 2))), (cn (.bl true)))]) aN)) aN))) sSkip)
    (sRet (eTup (aC (e2 addD (vr 1) (cn (.int 1))) aN)))))))
noncomputable def F_ways : FN := fnB 3 2 g_ways
theorem ok_ways (B : Blt K w mg) {f : Addr} {fd : FuncData} (h : DefAt K mg "ways" s_ways ["code", "r"] f fd)  : Keeps P w K mg base 1 "ways" ["code", "r"] F_ways f fd :=
  keeps_of h sc_ways fun cdv A outer s H E hr =>
    (ss_cons (c_set (ps_set (i := 2) sc_ways.nd rfl (by first | exact Or.inl rfl | exact Or.inr rfl) (s_ix ix_seq o2_ix (s_ix ix_seq o2_ix (s_var (pv 0)) s_int (fun _ _ => rfl)) (s_var (pv 1)) (fun _ _ => rfl))))
    (ss_cons (c_if (ps_if (t_cmp (op_eqA hr.units) o2_eq (s_ix ix_seq o2_ix (s_var (pv 2)) s_int (fun _ _ => rfl)) s_str (nomark _)) (ss_one (c_ret (ps_ret (s_tup a_nil)))) ss_nil))
    (ss_cons (c_if (ps_if (t_cmp (op_eqA hr.units) o2_eq (s_ix ix_seq o2_ix (s_var (pv 2)) s_int (fun _ _ => rfl)) s_str (nomark _)) (ss_one (c_ret (ps_ret (s_tup (a_cons (s_ix ix_seq o2_ix (s_var (pv 2)) s_int (fun _ _ => rfl)) a_nil))))) ss_nil))
    (ss_cons (c_if (ps_if (t_cmp (op_eqA hr.units) o2_eq (s_ix ix_seq o2_ix (s_var (pv 2)) s_int (fun _ _ => rfl)) s_str (nomark _)) (ss_one (c_ret (ps_ret (s_blt (pe_callTy call_tuple_of (by rfl) B.tuple (by decide +kernel) (a_cons (s_blt (pe_callB (call_sortedDI rfl) (by rfl) B.sorted (by decide +kernel) (a_cons (s_dctm (ppm_cons (s_op op_addA o2_add (s_var (pv 1)) s_int) s_bl (ppm_cons (s_ix ix_seq o2_ix (s_var (pv 2)) s_int (fun _ _ => rfl)) s_bl ppm_nil)) (by rfl) (by rfl) (fun z => by cases z) (by decide)) a_nil)) on_sortD) a_nil)) on_tup)))) ss_nil))
    (ss_one (c_ret (ps_ret (s_tup (a_cons (s_op op_addA o2_add (s_var (pv 1)) s_int) a_nil)))))))))
abbrev s_is_member : Stmt := topS 6
theorem sc_is_member : FnScope ["thing", "one", "other"] ["thing"] (defScope s_is_member) := ⟨rfl, rfl, rfl, by decide +kernel, rfl, by decide +kernel, by decide +kernel⟩
noncomputable def g_is_member : ST :=
  (sSeq (sIf (tNo (tTl (eB isiB (aC (vr 0) (aC (cn (.ty "tuple")) aN))))) (sRet (cn (.bl false))) sSkip)
    (sSeq (sIf (tNo (tTl (eB allB (aC (eLc (iSeq (vr 0)) (.n 1) [1] yes (eAn (eB isiB (aC (vr 1) (aC (cn (.ty "int")) aN))) (eNo (eB isiB (aC (vr 1) (aC (cn (.ty "bool")) aN)))))) aN)))) (sRet (cn (.bl false))) sSkip)
    (sSeq (sIf (tNo (tTl (eB allB (aC (eLc (iSeq (vr 0)) (.n 1) [1] yes (eCh leD ltD (cn (.int 0)) (vr 1) (cn dv_REGISTERS))) aN)))) (sRet (cn (.bl false))) sSkip)
    (sRet (eB allB (aC (eLc (iZp (vr 0) (eSl (vr 0) (oS (cn (.int 1))) oN)) (.t [1, 2]) [1, 2] yes (e2 ltD (vr 1) (vr 2))) aN))))))
noncomputable def F_is_member : FN := fnB 3 1 g_is_member
theorem ok_is_member (B : Blt K w mg) {f : Addr} {fd : FuncData} (h : DefAt K mg "is_member" s_is_member ["thing"] f fd)  : Keeps P w K mg base 1 "is_member" ["thing"] F_is_member f fd :=
  keeps_of h sc_is_member fun cdv A outer s H E hr =>
    (ss_cons (c_if (ps_if (t_not (t_truth (s_blt (pe_callB call_isi (by rfl) B.isinstance (by decide +kernel) (a_cons (s_var (pv 0)) (a_cons (s_ty (by rfl) B.tuple (by decide +kernel)) a_nil))) on_isi))) (ss_one (c_ret (ps_ret s_bl))) ss_nil))
    (ss_cons (c_if (ps_if (t_not (t_truth (s_blt (pe_callB (cr_all rfl) (by rfl) B.all (by decide +kernel) (a_cons (s_lc0 (pe_lc (own := [("one", 1)]) (g := gT _ (.n 1)) (by rfl) sc_is_member.nd (i_seq (s_var (pv 0))) (blkOk_by (own := [("one", 1)]) (N := ["thing", "one", "other"]) (sc := defScope s_is_member) (by decide +kernel)) (fun _ _ _ _ _ => (pg_name (i := 1) sc_is_member.nd rfl (by first | exact Or.inl rfl | exact Or.inr rfl))) (fun _ _ _ _ _ => pts_nil) (fun _ _ _ _ _ => (s_and (s_blt (pe_callB call_isi (by rfl) B.isinstance (by decide +kernel) (a_cons (s_var (pv 1)) (a_cons (s_ty (by rfl) B.int (by decide +kernel)) a_nil))) on_isi) (s_one (s_not (s_blt (pe_callB call_isi (by rfl) B.isinstance (by decide +kernel) (a_cons (s_var (pv 1)) (a_cons (s_ty (by rfl) B.bool (by decide +kernel)) a_nil))) on_isi)))))) (by decide)) a_nil)) on_all))) (ss_one (c_ret (ps_ret s_bl))) ss_nil))
    (ss_cons (c_if (ps_if (t_not (t_truth (s_blt (pe_callB (cr_all rfl) (by rfl) B.all (by decide +kernel) (a_cons (s_lc0 (pe_lc (own := [("one", 1)]) (g := gT _ (.n 1)) (by rfl) sc_is_member.nd (i_seq (s_var (pv 0))) (blkOk_by (own := [("one", 1)]) (N := ["thing", "one", "other"]) (sc := defScope s_is_member) (by decide +kernel)) (fun _ _ _ _ _ => (pg_name (i := 1) sc_is_member.nd rfl (by first | exact Or.inl rfl | exact Or.inr rfl))) (fun _ _ _ _ _ => pts_nil) (fun _ _ _ _ _ => (s_chain (pe_chain op_le op_lt s_int (s_var (pv 1)) (s_gv B.gv_REGISTERS (by rfl))) o2_le o2_lt))) (by decide)) a_nil)) on_all))) (ss_one (c_ret (ps_ret s_bl))) ss_nil))
    (ss_one (c_ret (ps_ret (s_blt (pe_callB (cr_all rfl) (by rfl) B.all (by decide +kernel) (a_cons (s_lc0 (pe_lc (own := [("one", 1), ("other", 2)]) (g := gT _ (.t [1, 2])) (by rfl) sc_is_member.nd (i_zip (RZ.pi_zipA (by rfl) B.zip (a_cons (s_var (pv 0)) (a_cons (s_slice (s_var (pv 0)) (o_some s_int) o_none) a_nil)))) (blkOk_by (own := [("one", 1), ("other", 2)]) (N := ["thing", "one", "other"]) (sc := defScope s_is_member) (by decide +kernel)) (fun _ _ _ _ _ => (pg_tup rfl (pgs_cons (pg_name (i := 1) sc_is_member.nd rfl (by first | exact Or.inl rfl | exact Or.inr rfl)) (pgs_cons (pg_name (i := 2) sc_is_member.nd rfl (by first | exact Or.inl rfl | exact Or.inr rfl)) pgs_nil)))) (fun _ _ _ _ _ => pts_nil) (fun _ _ _ _ _ => (s_cmp op_lt o2_lt (s_var (pv 1)) (s_var (pv 2)) (nomark _)))) (by decide)) a_nil)) on_all)))))))
abbrev s_holds : Stmt := topS 7
theorem sc_holds : FnScope ["code", "paper", "member", "r", "behind", "way", "one"] ["code", "paper"] (defScope s_holds) := ⟨rfl, rfl, rfl, by decide +kernel, rfl, by decide +kernel, by decide +kernel⟩
noncomputable def g_holds_b1 : ST :=
  (sIf (tNo (tTl (eB allB (aC (eLc (iSeq (e2 ixD (vr 1) (vr 5))) (.n 6) [6] yes (e2 (inD false) (vr 6) (vr 4))) aN)))) (sRet (cn (.bl false))) sSkip)
noncomputable def g_holds_b2 : ST :=
  (sSeq (sSet 4 (eCall 3 F_public_behind (aC (vr 0) (aC (vr 3) (aC (e2 ixD (vr 1) (vr 3)) aN)))))
    (sFor (.n 5) (iSeq (eCall 2 F_ways (aC (vr 0) (aC (vr 3) aN)))) g_holds_b1))
noncomputable def g_holds : ST :=
  (sSeq (sIf (tO (tNo (tTl (eB isiB (aC (vr 1) (aC (cn (.ty "tuple")) aN))))) (tB1 (e2 neD (eB lenB (aC (vr 1) aN)) (eB lenB (aC (e2 ixD (vr 0) (cn (.int 1))) aN))))) (sRet (cn (.bl false))) sSkip)
    (sSeq (sIf (tNo (tTl (eB allB (aC (eLc (iSeq (vr 1)) (.n 2) [2] yes (eCall 1 F_is_member (aC (vr 2) aN))) aN)))) (sRet (cn (.bl false))) sSkip)
    (sSeq (sFor (.n 3) (iRg1 (eB lenB (aC (vr 1) aN))) g_holds_b2)
    (sRet (cn (.bl true))))))
noncomputable def F_holds : FN := fnB 7 2 g_holds
theorem ok_holds (B : Blt K w mg) {f : Addr} {fd : FuncData} (h : DefAt K mg "holds" s_holds ["code", "paper"] f fd) {f0 : Addr} {fd0 : FuncData} (h_is_member : Keeps P w K mg base 1 "is_member" ["thing"] F_is_member f0 fd0) {f1 : Addr} {fd1 : FuncData} (h_public_behind : Keeps P w K mg base 2 "public_behind" ["code", "r", "member"] F_public_behind f1 fd1) {f2 : Addr} {fd2 : FuncData} (h_ways : Keeps P w K mg base 1 "ways" ["code", "r"] F_ways f2 fd2) : Keeps P w K mg base 3 "holds" ["code", "paper"] F_holds f fd :=
  keeps_of h sc_holds fun cdv A outer s H E hr =>
    (ss_cons (c_if (ps_if (PW.pt (t_or (t_not (t_truth (s_blt (pe_callB call_isi (by rfl) B.isinstance (by decide +kernel) (a_cons (s_var (pv 1)) (a_cons (s_ty (by rfl) B.tuple (by decide +kernel)) a_nil))) on_isi))) (t_or1 (t_cmp (op_neA hr.units) o2_ne (s_blt (pe_callB call_lenA (by rfl) B.len (by decide +kernel) (a_cons (s_var (pv 1)) a_nil)) on_len) (s_blt (pe_callB call_lenA (by rfl) B.len (by decide +kernel) (a_cons (s_ix ix_seq o2_ix (s_var (pv 0)) s_int (fun _ _ => rfl)) a_nil)) on_len) (nomark _))))) (ss_one (c_ret (ps_ret s_bl))) ss_nil))
    (ss_cons (c_if (ps_if (t_not (t_truth (s_blt (pe_callB (cr_all rfl) (by rfl) B.all (by decide +kernel) (a_cons (s_lc0 (pe_lc (own := [("member", 2)]) (g := gT _ (.n 2)) (by rfl) sc_holds.nd (i_seq (s_var (pv 1))) (blkOk_by (own := [("member", 2)]) (N := ["code", "paper", "member", "r", "behind", "way", "one"]) (sc := defScope s_holds) (by decide +kernel)) (fun _ _ _ _ _ => (pg_name (i := 2) sc_holds.nd rfl (by first | exact Or.inl rfl | exact Or.inr rfl))) (fun _ _ _ _ _ => pts_nil) (fun _ _ _ _ _ => (s_own h_is_member (by decide) hr rfl (by rfl) (a_cons (s_var (pv 2)) a_nil)))) (by decide)) a_nil)) on_all))) (ss_one (c_ret (ps_ret s_bl))) ss_nil))
    (ss_cons (c_for (t := (.n 3)) (ps_for PassesOwn.never rfl (i_rg1 (pi_range1 (by rfl) B.range (a_cons (s_blt (pe_callB call_lenA (by rfl) B.len (by decide +kernel) (a_cons (s_var (pv 1)) a_nil)) on_len) a_nil))) (pg_name (i := 3) sc_holds.nd rfl (by first | exact Or.inl rfl | exact Or.inr rfl)) (ss_cons (c_set (ps_set (i := 4) sc_holds.nd rfl (by first | exact Or.inl rfl | exact Or.inr rfl) (s_own h_public_behind (by decide) hr rfl (by rfl) (a_cons (s_var (pv 0)) (a_cons (s_var (pv 3)) (a_cons (s_ix ix_seq o2_ix (s_var (pv 1)) (s_var (pv 3)) (fun _ _ => rfl)) a_nil))))))
    (ss_one (c_for (t := (.n 5)) (ps_for PassesOwn.never rfl (i_seq (s_own h_ways (by decide) hr rfl (by rfl) (a_cons (s_var (pv 0)) (a_cons (s_var (pv 3)) a_nil)))) (pg_name (i := 5) sc_holds.nd rfl (by first | exact Or.inl rfl | exact Or.inr rfl)) (ss_one (c_if (ps_if (t_not (t_truth (s_blt (pe_callB (cr_all rfl) (by rfl) B.all (by decide +kernel) (a_cons (s_lc0 (pe_lc (own := [("one", 6)]) (g := gT _ (.n 6)) (by rfl) sc_holds.nd (i_seq (s_ix ix_seq o2_ix (s_var (pv 1)) (s_var (pv 5)) (fun _ _ => rfl))) (blkOk_by (own := [("one", 6)]) (N := ["code", "paper", "member", "r", "behind", "way", "one"]) (sc := defScope s_holds) (by decide +kernel)) (fun _ _ _ _ _ => (pg_name (i := 6) sc_holds.nd rfl (by first | exact Or.inl rfl | exact Or.inr rfl))) (fun _ _ _ _ _ => pts_nil) (fun _ _ _ _ _ => (s_cmp op_in_seq (o2_in (neg := false)) (s_var (pv 6)) (s_var (pv 4)) (by rfl)))) (by decide)) a_nil)) on_all))) (ss_one (c_ret (ps_ret s_bl))) ss_nil)))))))))
    (ss_one (c_ret (ps_ret s_bl))))))
abbrev s_greatest_paper : Stmt := topS 8
theorem sc_greatest_paper : FnScope ["code", "paper", "waiting", "r", "behind", "way", "less", "one"] ["code"] (defScope s_greatest_paper) := ⟨rfl, rfl, rfl, by decide +kernel, rfl, by decide +kernel, by decide +kernel⟩
noncomputable def g_greatest_paper_b1 : ST :=
  (sSeq (sSet 6 (eB tupB (aC (eLc (iSeq (e2 ixD (vr 1) (vr 5))) (.n 7) [7] (tB1 (e2 (inD false) (vr 7) (vr 4))) (vr 7)) aN)))
    (sIf (tB1 (e2 neD (vr 6) (e2 ixD (vr 1) (vr 5)))) (sSeq (sLPut (vr 6) (vr 1) (vr 5))
    (sEx (eM "list" appM (vr 2) (aC (vr 5) aN)))) sSkip))
noncomputable def g_greatest_paper_b2 : ST :=
  (sSeq (sSet 3 (eM "list" popM (vr 2) aN))
    (sSeq (sSet 4 (eCall 3 F_public_behind (aC (vr 0) (aC (vr 3) (aC (e2 ixD (vr 1) (vr 3)) aN)))))
    (sFor (.n 5) (iSeq (eCall 2 F_ways (aC (vr 0) (aC (vr 3) aN)))) g_greatest_paper_b1)))
noncomputable def g_greatest_paper : ST :=
  (sSeq (sSet 1 (e2 mulD (eLst (aC (cn dv_ALL) aN)) (eB lenB (aC (e2 ixD (vr 0) (cn (.int 1))) aN))))
    (sSeq (sSet 2 (eLRg1 (eB lenB (aC (vr 1) aN))))
    (sSeq (whl (tB1 (e2 neD (vr 2) (eLst aN))) g_greatest_paper_b2 1000000)
    (sRet (eB tupB (aC (vr 1) aN))))))
noncomputable def F_greatest_paper : FN := fnB 8 1 g_greatest_paper
theorem ok_greatest_paper (B : Blt K w mg) {f : Addr} {fd : FuncData} (h : DefAt K mg "greatest_paper" s_greatest_paper ["code"] f fd) {f0 : Addr} {fd0 : FuncData} (h_public_behind : Keeps P w K mg base 2 "public_behind" ["code", "r", "member"] F_public_behind f0 fd0) {f1 : Addr} {fd1 : FuncData} (h_ways : Keeps P w K mg base 1 "ways" ["code", "r"] F_ways f1 fd1) : Keeps P w K mg base 3 "greatest_paper" ["code"] F_greatest_paper f fd :=
  keeps_of h sc_greatest_paper fun cdv A outer s H E hr =>
    (ss_cons (c_set (ps_set (i := 1) sc_greatest_paper.nd rfl (by first | exact Or.inl rfl | exact Or.inr rfl) (s_op op_mulA o2_mul (s_lst (a_cons (s_gv B.gv_ALL (by rfl)) a_nil)) (s_blt (pe_callB call_lenA (by rfl) B.len (by decide +kernel) (a_cons (s_ix ix_seq o2_ix (s_var (pv 0)) s_int (fun _ _ => rfl)) a_nil)) on_len))))
    (ss_cons (c_set (ps_set (i := 2) sc_greatest_paper.nd rfl (by first | exact Or.inl rfl | exact Or.inr rfl) (s_lrg1 (pe_listRg rfl (by rfl) B.list (prg_1 (by rfl) B.range (s_blt (pe_callB call_lenA (by rfl) B.len (by decide +kernel) (a_cons (s_var (pv 1)) a_nil)) on_len))))))
    (ss_cons (c_while (ps_while PassesOwn.never (t_cmp (op_neA hr.units) o2_ne (s_var (pv 2)) (s_lst a_nil) (nomark _)) (ss_cons (c_set (ps_set (i := 3) sc_greatest_paper.nd rfl (by first | exact Or.inl rfl | exact Or.inr rfl) (s_meth0 (pe_bm0 PySem.F.plainAttrs_list PySem.F.slot_list_pop PySem.F.type_list_pop mt_pop (s_var (pv 2))) om_pop)))
    (ss_cons (c_set (ps_set (i := 4) sc_greatest_paper.nd rfl (by first | exact Or.inl rfl | exact Or.inr rfl) (s_own h_public_behind (by decide) hr rfl (by rfl) (a_cons (s_var (pv 0)) (a_cons (s_var (pv 3)) (a_cons (s_ix ix_seq o2_ix (s_var (pv 1)) (s_var (pv 3)) (fun _ _ => rfl)) a_nil))))))
    (ss_one (c_for (t := (.n 5)) (ps_for PassesOwn.never rfl (i_seq (s_own h_ways (by decide) hr rfl (by rfl) (a_cons (s_var (pv 0)) (a_cons (s_var (pv 3)) a_nil)))) (pg_name (i := 5) sc_greatest_paper.nd rfl (by first | exact Or.inl rfl | exact Or.inr rfl)) (ss_cons (c_set (ps_set (i := 6) sc_greatest_paper.nd rfl (by first | exact Or.inl rfl | exact Or.inr rfl) (s_blt (pe_callTy call_tuple_of (by rfl) B.tuple (by decide +kernel) (a_cons (s_lc (pe_lc (own := [("one", 7)]) (g := gT _ (.n 7)) (by rfl) sc_greatest_paper.nd (i_seq (s_ix ix_seq o2_ix (s_var (pv 1)) (s_var (pv 5)) (fun _ _ => rfl))) (blkOk_by (own := [("one", 7)]) (N := ["code", "paper", "waiting", "r", "behind", "way", "less", "one"]) (sc := defScope s_greatest_paper) (by decide +kernel)) (fun _ _ _ _ _ => (pg_name (i := 7) sc_greatest_paper.nd rfl (by first | exact Or.inl rfl | exact Or.inr rfl))) (fun _ _ _ _ _ => pts_one (t_cmp op_in_seq (o2_in (neg := false)) (s_var (pv 7)) (s_var (pv 4)) (by rfl))) (fun _ _ _ _ _ => (s_var (pv 7)))) (by decide)) a_nil)) on_tup)))
    (ss_one (c_if (ps_if (t_cmp (op_neA hr.units) o2_ne (s_var (pv 6)) (s_ix ix_seq o2_ix (s_var (pv 1)) (s_var (pv 5)) (fun _ _ => rfl)) (nomark _)) (ss_cons (c_lput (ps_asg (s_var (pv 6)) (pg_sub (s_var (pv 1)) (s_var (pv 5)) set_list)))
    (ss_one (c_ex (ps_expr (s_meth (pe_bm PySem.F.plainAttrs_list PySem.F.slot_list_append PySem.F.type_list_append mt_append (s_var (pv 2)) (a_cons (s_var (pv 5)) a_nil)) om_app))))) ss_nil)))))))))))
    (ss_one (c_ret (ps_ret (s_blt (pe_callTy call_tuple_of (by rfl) B.tuple (by decide +kernel) (a_cons (s_var (pv 1)) a_nil)) on_tup)))))))
abbrev s_law_draws : Stmt := topS 10
theorem sc_law_draws : FnScope ["script", "many", "draws", "mixed", "k", "cell", "rest", "turn"] ["script", "many"] (defScope s_law_draws) := ⟨rfl, rfl, rfl, by decide +kernel, rfl, by decide +kernel, by decide +kernel⟩
noncomputable def g_law_draws_b1 : ST :=
  (sIf (tB1 (e2 gtD (vr 6) (cn (.int 0)))) (sSeq (sEx (eM "list" appM (vr 2) (aC (e2 modD (eB intB (aC (vr 6) aN)) (cn (.int 997))) aN)))
    (sSet 6 (e2 divD (vr 6) (cn (.int 997))))) sSkip)
noncomputable def g_law_draws_b2 : ST :=
  (sFor (.n 7) (iRg1 (cn (.int 60))) g_law_draws_b1)
noncomputable def g_law_draws_b3 : ST :=
  (sSeq (sSet 5 (eB absB (aC (eB intB (aC (e2 ixD (vr 0) (vr 4)) aN)) aN)))
    (sSeq (sSet 3 (e2 modD (eB intB (aC (e2 addD (e2 addD (e2 mulD (vr 3) (cn (.int 48271))) (e2 modD (vr 5) (cn (.int 1000003)))) (vr 4)) aN)) (cn (.int 65537))))
    (sSeq (sSet 6 (cn (.int 0)))
    (sSeq (sIf (tB1 (e2 geD (vr 5) (e2 powD (cn (.int 10)) (cn (.int 18))))) (sSet 6 (vr 5)) (sSeq (sEx (eM "list" appM (vr 2) (aC (e2 modD (eB intB (aC (vr 5) aN)) (cn (.int 997))) aN)))
    (sEx (eM "list" appM (vr 2) (aC (e2 modD (e2 modD (eB intB (aC (e2 addD (e2 mulD (vr 3) (cn (.int 69621))) (cn (.int 5))) aN)) (cn (.int 65521))) (cn (.int 997))) aN)))))
    g_law_draws_b2))))
noncomputable def g_law_draws_b4 : ST :=
  (sSeq (sSet 3 (e2 modD (eB intB (aC (e2 addD (e2 addD (e2 mulD (vr 3) (cn (.int 16807))) (vr 4)) (cn (.int 1))) aN)) (cn (.int 65537))))
    (sEx (eM "list" appM (vr 2) (aC (e2 modD (eB intB (aC (vr 3) aN)) (cn (.int 997))) aN))))
noncomputable def g_law_draws : ST :=
  (sSeq (sSet 2 (eLst aN))
    (sSeq (sSet 3 (cn (.int 7)))
    (sSeq (sFor (.n 4) (iRg1 (eB lenB (aC (vr 0) aN))) g_law_draws_b3)
    (sSeq (sFor (.n 4) (iRg1 (vr 1)) g_law_draws_b4)
    (sRet (eSl (vr 2) oN (oS (vr 1))))))))
noncomputable def F_law_draws : FN := fnB 8 2 g_law_draws
theorem ok_law_draws (B : Blt K w mg) {f : Addr} {fd : FuncData} (h : DefAt K mg "_law_draws" s_law_draws ["script", "many"] f fd)  : Keeps P w K mg base 1 "_law_draws" ["script", "many"] F_law_draws f fd :=
  keeps_of h sc_law_draws fun cdv A outer s H E hr =>
    (ss_cons (c_set (ps_set (i := 2) sc_law_draws.nd rfl (by first | exact Or.inl rfl | exact Or.inr rfl) (s_lst a_nil)))
    (ss_cons (c_set (ps_set (i := 3) sc_law_draws.nd rfl (by first | exact Or.inl rfl | exact Or.inr rfl) s_int))
    (ss_cons (c_for (t := (.n 4)) (ps_for PassesOwn.never rfl (i_rg1 (pi_range1 (by rfl) B.range (a_cons (s_blt (pe_callB call_lenA (by rfl) B.len (by decide +kernel) (a_cons (s_var (pv 0)) a_nil)) on_len) a_nil))) (pg_name (i := 4) sc_law_draws.nd rfl (by first | exact Or.inl rfl | exact Or.inr rfl)) (ss_cons (c_set (ps_set (i := 5) sc_law_draws.nd rfl (by first | exact Or.inl rfl | exact Or.inr rfl) (s_blt (pe_callB call_abs (by rfl) B.abs (by decide +kernel) (a_cons (s_blt (pe_callTy call_int1 (by rfl) B.int (by decide +kernel) (a_cons (s_ix ix_seq o2_ix (s_var (pv 0)) (s_var (pv 4)) (fun _ _ => rfl)) a_nil)) on_int) a_nil)) on_abs)))
    (ss_cons (c_set (ps_set (i := 3) sc_law_draws.nd rfl (by first | exact Or.inl rfl | exact Or.inr rfl) (s_op op_mod o2_mod (s_blt (pe_callTy call_int1 (by rfl) B.int (by decide +kernel) (a_cons (s_op op_addA o2_add (s_op op_addA o2_add (s_op op_mulA o2_mul (s_var (pv 3)) s_int) (s_op op_mod o2_mod (s_var (pv 5)) s_int)) (s_var (pv 4))) a_nil)) on_int) s_int)))
    (ss_cons (c_set (ps_set (i := 6) sc_law_draws.nd rfl (by first | exact Or.inl rfl | exact Or.inr rfl) s_int))
    (ss_cons (c_if (ps_if (t_cmp op_ge o2_ge (s_var (pv 5)) (s_op op_pow o2_pow s_int s_int) (nomark _)) (ss_one (c_set (ps_set (i := 6) sc_law_draws.nd rfl (by first | exact Or.inl rfl | exact Or.inr rfl) (s_var (pv 5))))) (ss_cons (c_ex (ps_expr (s_meth (pe_bm PySem.F.plainAttrs_list PySem.F.slot_list_append PySem.F.type_list_append mt_append (s_var (pv 2)) (a_cons (s_op op_mod o2_mod (s_blt (pe_callTy call_int1 (by rfl) B.int (by decide +kernel) (a_cons (s_var (pv 5)) a_nil)) on_int) s_int) a_nil)) om_app)))
    (ss_one (c_ex (ps_expr (s_meth (pe_bm PySem.F.plainAttrs_list PySem.F.slot_list_append PySem.F.type_list_append mt_append (s_var (pv 2)) (a_cons (s_op op_mod o2_mod (s_op op_mod o2_mod (s_blt (pe_callTy call_int1 (by rfl) B.int (by decide +kernel) (a_cons (s_op op_addA o2_add (s_op op_mulA o2_mul (s_var (pv 3)) s_int) s_int) a_nil)) on_int) s_int) s_int) a_nil)) om_app)))))))
    (ss_one (c_for (t := (.n 7)) (ps_for PassesOwn.never rfl (i_rg1 (pi_range1 (by rfl) B.range (a_cons s_int a_nil))) (pg_name (i := 7) sc_law_draws.nd rfl (by first | exact Or.inl rfl | exact Or.inr rfl)) (ss_one (c_if (ps_if (t_cmp op_gt o2_gt (s_var (pv 6)) s_int (nomark _)) (ss_cons (c_ex (ps_expr (s_meth (pe_bm PySem.F.plainAttrs_list PySem.F.slot_list_append PySem.F.type_list_append mt_append (s_var (pv 2)) (a_cons (s_op op_mod o2_mod (s_blt (pe_callTy call_int1 (by rfl) B.int (by decide +kernel) (a_cons (s_var (pv 6)) a_nil)) on_int) s_int) a_nil)) om_app)))
    (ss_one (c_set (ps_set (i := 6) sc_law_draws.nd rfl (by first | exact Or.inl rfl | exact Or.inr rfl) (s_op op_fdiv o2_div (s_var (pv 6)) s_int))))) ss_nil))))))))))))
    (ss_cons (c_for (t := (.n 4)) (ps_for PassesOwn.never rfl (i_rg1 (pi_range1 (by rfl) B.range (a_cons (s_var (pv 1)) a_nil))) (pg_name (i := 4) sc_law_draws.nd rfl (by first | exact Or.inl rfl | exact Or.inr rfl)) (ss_cons (c_set (ps_set (i := 3) sc_law_draws.nd rfl (by first | exact Or.inl rfl | exact Or.inr rfl) (s_op op_mod o2_mod (s_blt (pe_callTy call_int1 (by rfl) B.int (by decide +kernel) (a_cons (s_op op_addA o2_add (s_op op_addA o2_add (s_op op_mulA o2_mul (s_var (pv 3)) s_int) (s_var (pv 4))) s_int) a_nil)) on_int) s_int)))
    (ss_one (c_ex (ps_expr (s_meth (pe_bm PySem.F.plainAttrs_list PySem.F.slot_list_append PySem.F.type_list_append mt_append (s_var (pv 2)) (a_cons (s_op op_mod o2_mod (s_blt (pe_callTy call_int1 (by rfl) B.int (by decide +kernel) (a_cons (s_var (pv 3)) a_nil)) on_int) s_int) a_nil)) om_app)))))))
    (ss_one (c_ret (ps_ret (s_slice (s_var (pv 2)) o_none (o_some (s_var (pv 1)))))))))))
abbrev s_law_next : Stmt := topS 11
theorem sc_law_next : FnScope ["w", "many"] ["w", "many"] (defScope s_law_next) := ⟨rfl, rfl, rfl, by decide +kernel, rfl, by decide +kernel, by decide +kernel⟩
noncomputable def g_law_next : ST :=
  (sSeq (sDAugD addI (vr 0) (cn (.str "at")) (cn (.int 1)))
    (sSeq (sIf (tB1 (e2 gtD (e2 dgetD (vr 0) (cn (.str "at"))) (eB lenB (aC (e2 dgetD (vr 0) (cn (.str "draws"))) aN)))) (sRet (cn (.int 0))) sSkip)
    (sRet (e2 modD (eB intB (aC (e2 ixD (e2 dgetD (vr 0) (cn (.str "draws"))) (e2 subD (e2 dgetD (vr 0) (cn (.str "at"))) (cn (.int 1)))) aN)) (vr 1)))))
noncomputable def F_law_next : FN := fnB 2 2 g_law_next
theorem ok_law_next (B : Blt K w mg) {f : Addr} {fd : FuncData} (h : DefAt K mg "_law_next" s_law_next ["w", "many"] f fd)  : Keeps P w K mg base 1 "_law_next" ["w", "many"] F_law_next f fd :=
  keeps_of h sc_law_next fun cdv A outer s H E hr =>
    (ss_cons (c_daug (ps_daug (hu_of hr) (s_var (pv 0)) s_str s_int in_add (fun _ _ _ => rfl)) o2_addI)
    (ss_cons (c_if (ps_if (t_cmp op_gt o2_gt (c_2 (pe_dget (hu_of hr) (s_var (pv 0)) s_str (fun _ _ => rfl)) o2_dget) (s_blt (pe_callB call_lenA (by rfl) B.len (by decide +kernel) (a_cons (c_2 (pe_dget (hu_of hr) (s_var (pv 0)) s_str (fun _ _ => rfl)) o2_dget) a_nil)) on_len) (nomark _)) (ss_one (c_ret (ps_ret s_int))) ss_nil))
    (ss_one (c_ret (ps_ret (s_op op_mod o2_mod (s_blt (pe_callTy call_int1 (by rfl) B.int (by decide +kernel) (a_cons (s_ix ix_seq o2_ix (c_2 (pe_dget (hu_of hr) (s_var (pv 0)) s_str (fun _ _ => rfl)) o2_dget) (s_op op_sub o2_sub (c_2 (pe_dget (hu_of hr) (s_var (pv 0)) s_str (fun _ _ => rfl)) o2_dget) s_int) (fun _ _ => rfl)) a_nil)) on_int) (s_var (pv 1))))))))
abbrev s_law_regions : Stmt := topS 12
theorem sc_law_regions : FnScope ["w", "regions", "base", "k", "size"] ["w"] (defScope s_law_regions) := ⟨rfl, rfl, rfl, by decide +kernel, rfl, by decide +kernel, by decide +kernel⟩
noncomputable def g_law_regions_b1 : ST :=
  (sSeq (sSet 4 (e2 ixD (eLst (aC (cn (.int 1)) (aC (cn (.int 2)) (aC (cn (.int 4)) (aC (cn (.int 8)) (aC (cn (.int 3)) (aC (cn (.int 300)) (aC (cn (.int 4096)) aN)))))))) (eCall 2 F_law_next (aC (vr 0) (aC (cn (.int 7)) aN)))))
    (sSeq (sEx (eM "list" appM (vr 1) (aC (eTup (aC (vr 2) (aC (vr 4) (aC (e2 ixD (eLst (aC (cn (.str "public")) (aC (cn (.str "secret")) aN))) (eCall 2 F_law_next (aC (vr 0) (aC (cn (.int 2)) aN)))) aN)))) aN)))
    (sAug 2 addI (vr 4))))
noncomputable def g_law_regions : ST :=
  (sSeq (sSet 1 (eLst aN))
    (sSeq (sSet 2 (cn (.int 0)))
    (sSeq (sFor (.n 3) (iRg1 (e2 ixD (eLst (aC (e2 addD (cn (.int 1)) (eCall 2 F_law_next (aC (vr 0) (aC (cn (.int 4)) aN)))) (aC (e2 addD (cn (.int 5)) (eCall 2 F_law_next (aC (vr 0) (aC (cn (.int 8)) aN)))) aN))) (e2 divD (eCall 2 F_law_next (aC (vr 0) (aC (cn (.int 3)) aN))) (cn (.int 2))))) g_law_regions_b1)
    (sRet (eB tupB (aC (vr 1) aN))))))
noncomputable def F_law_regions : FN := fnB 5 1 g_law_regions
theorem ok_law_regions (B : Blt K w mg) {f : Addr} {fd : FuncData} (h : DefAt K mg "_law_regions" s_law_regions ["w"] f fd) {f0 : Addr} {fd0 : FuncData} (h_law_next : Keeps P w K mg base 1 "_law_next" ["w", "many"] F_law_next f0 fd0) : Keeps P w K mg base 2 "_law_regions" ["w"] F_law_regions f fd :=
  keeps_of h sc_law_regions fun cdv A outer s H E hr =>
    (ss_cons (c_set (ps_set (i := 1) sc_law_regions.nd rfl (by first | exact Or.inl rfl | exact Or.inr rfl) (s_lst a_nil)))
    (ss_cons (c_set (ps_set (i := 2) sc_law_regions.nd rfl (by first | exact Or.inl rfl | exact Or.inr rfl) s_int))
    (ss_cons (c_for (t := (.n 3)) (ps_for PassesOwn.never rfl (i_rg1 (pi_range1 (by rfl) B.range (a_cons (s_ix ix_seq o2_ix (s_lst (a_cons (s_op op_addA o2_add s_int (s_own h_law_next (by decide) hr rfl (by rfl) (a_cons (s_var (pv 0)) (a_cons s_int a_nil)))) (a_cons (s_op op_addA o2_add s_int (s_own h_law_next (by decide) hr rfl (by rfl) (a_cons (s_var (pv 0)) (a_cons s_int a_nil)))) a_nil))) (s_op op_fdiv o2_div (s_own h_law_next (by decide) hr rfl (by rfl) (a_cons (s_var (pv 0)) (a_cons s_int a_nil))) s_int) (fun _ _ => rfl)) a_nil))) (pg_name (i := 3) sc_law_regions.nd rfl (by first | exact Or.inl rfl | exact Or.inr rfl)) (ss_cons (c_set (ps_set (i := 4) sc_law_regions.nd rfl (by first | exact Or.inl rfl | exact Or.inr rfl) (s_ix ix_seq o2_ix (s_lst (a_cons s_int (a_cons s_int (a_cons s_int (a_cons s_int (a_cons s_int (a_cons s_int (a_cons s_int a_nil)))))))) (s_own h_law_next (by decide) hr rfl (by rfl) (a_cons (s_var (pv 0)) (a_cons s_int a_nil))) (fun _ _ => rfl))))
    (ss_cons (c_ex (ps_expr (s_meth (pe_bm PySem.F.plainAttrs_list PySem.F.slot_list_append PySem.F.type_list_append mt_append (s_var (pv 1)) (a_cons (s_tup (a_cons (s_var (pv 2)) (a_cons (s_var (pv 4)) (a_cons (s_ix ix_seq o2_ix (s_lst (a_cons s_str (a_cons s_str a_nil))) (s_own h_law_next (by decide) hr rfl (by rfl) (a_cons (s_var (pv 0)) (a_cons s_int a_nil))) (fun _ _ => rfl)) a_nil)))) a_nil)) om_app)))
    (ss_one (c_aug (ps_aug (i := 2) sc_law_regions.nd rfl (by first | exact Or.inl rfl | exact Or.inr rfl) (s_var (pv 4)) (ip_of iop_add)) (o2_I0 fun _ _ _ _ => .int _)))))))
    (ss_one (c_ret (ps_ret (s_blt (pe_callTy call_tuple_of (by rfl) B.tuple (by decide +kernel) (a_cons (s_var (pv 1)) a_nil)) on_tup)))))))
abbrev s_law_span : Stmt := topS 13
theorem sc_law_span : FnScope ["w", "regions", "base", "size", "label", "mask"] ["w", "regions"] (defScope s_law_span) := ⟨rfl, rfl, rfl, by decide +kernel, rfl, by decide +kernel, by decide +kernel⟩
noncomputable def g_law_span_b1 : ST :=
  (sSet 5 (e2 divD (vr 5) (cn (.int 2))))
noncomputable def g_law_span : ST :=
  (sSeq (sAsg (.t [2, 3, 4]) (e2 ixD (vr 1) (eCall 2 F_law_next (aC (vr 0) (aC (eB lenB (aC (vr 1) aN)) aN)))))
    (sSeq (sSet 5 (e2 ixD (eLst (aC (cn (.int 0)) (aC (cn (.int 0)) (aC (cn (.int 1)) (aC (cn (.int 3)) (aC (cn (.int 7)) (aC (cn (.int 255)) (aC (cn (.int 4095)) aN)))))))) (eCall 2 F_law_next (aC (vr 0) (aC (cn (.int 7)) aN)))))
    (sSeq (sIf (tB1 (e2 gtD (eCall 2 F_law_next (aC (vr 0) (aC (cn (.int 7)) aN))) (cn (.int 0)))) (sSeq (whl (tB1 (e2 geD (vr 5) (vr 3))) g_law_span_b1 1000000)
    (sRet (eTup (aC (e2 addD (vr 2) (eCall 2 F_law_next (aC (vr 0) (aC (e2 subD (vr 3) (vr 5)) aN)))) (aC (vr 5) aN))))) sSkip)
    (sRet (eTup (aC (eCall 2 F_law_next (aC (vr 0) (aC (cn (.int 30)) aN))) (aC (vr 5) aN)))))))
noncomputable def F_law_span : FN := fnB 6 2 g_law_span
theorem ok_law_span (B : Blt K w mg) {f : Addr} {fd : FuncData} (h : DefAt K mg "_law_span" s_law_span ["w", "regions"] f fd) {f0 : Addr} {fd0 : FuncData} (h_law_next : Keeps P w K mg base 1 "_law_next" ["w", "many"] F_law_next f0 fd0) : Keeps P w K mg base 2 "_law_span" ["w", "regions"] F_law_span f fd :=
  keeps_of h sc_law_span fun cdv A outer s H E hr =>
    (ss_cons (c_asg (t := (.t [2, 3, 4])) (ps_asg (s_ix ix_seq o2_ix (s_var (pv 1)) (s_own h_law_next (by decide) hr rfl (by rfl) (a_cons (s_var (pv 0)) (a_cons (s_blt (pe_callB call_lenA (by rfl) B.len (by decide +kernel) (a_cons (s_var (pv 1)) a_nil)) on_len) a_nil))) (fun _ _ => rfl)) (pg_tup rfl (pgs_cons (pg_name (i := 2) sc_law_span.nd rfl (by first | exact Or.inl rfl | exact Or.inr rfl)) (pgs_cons (pg_name (i := 3) sc_law_span.nd rfl (by first | exact Or.inl rfl | exact Or.inr rfl)) (pgs_cons (pg_name (i := 4) sc_law_span.nd rfl (by first | exact Or.inl rfl | exact Or.inr rfl)) pgs_nil))))))
    (ss_cons (c_set (ps_set (i := 5) sc_law_span.nd rfl (by first | exact Or.inl rfl | exact Or.inr rfl) (s_ix ix_seq o2_ix (s_lst (a_cons s_int (a_cons s_int (a_cons s_int (a_cons s_int (a_cons s_int (a_cons s_int (a_cons s_int a_nil)))))))) (s_own h_law_next (by decide) hr rfl (by rfl) (a_cons (s_var (pv 0)) (a_cons s_int a_nil))) (fun _ _ => rfl))))
    (ss_cons (c_if (ps_if (t_cmp op_gt o2_gt (s_own h_law_next (by decide) hr rfl (by rfl) (a_cons (s_var (pv 0)) (a_cons s_int a_nil))) s_int (nomark _)) (ss_cons (c_while (ps_while PassesOwn.never (t_cmp op_ge o2_ge (s_var (pv 5)) (s_var (pv 3)) (nomark _)) (ss_one (c_set (ps_set (i := 5) sc_law_span.nd rfl (by first | exact Or.inl rfl | exact Or.inr rfl) (s_op op_fdiv o2_div (s_var (pv 5)) s_int))))))
    (ss_one (c_ret (ps_ret (s_tup (a_cons (s_op op_addA o2_add (s_var (pv 2)) (s_own h_law_next (by decide) hr rfl (by rfl) (a_cons (s_var (pv 0)) (a_cons (s_op op_sub o2_sub (s_var (pv 3)) (s_var (pv 5))) a_nil)))) (a_cons (s_var (pv 5)) a_nil))))))) ss_nil))
    (ss_one (c_ret (ps_ret (s_tup (a_cons (s_own h_law_next (by decide) hr rfl (by rfl) (a_cons (s_var (pv 0)) (a_cons s_int a_nil))) (a_cons (s_var (pv 5)) a_nil)))))))))
abbrev s_law_row : Stmt := topS 14
theorem sc_law_row : FnScope ["w", "regions", "many", "turn", "d", "a", "b", "base", "mask"] ["w", "regions", "many"] (defScope s_law_row) := ⟨rfl, rfl, rfl, by decide +kernel, rfl, by decide +kernel, by decide +kernel⟩
noncomputable def g_law_row : ST :=
  (sSeq (sSet 3 (eCall 2 F_law_next (aC (vr 0) (aC (cn (.int 14)) aN))))
    (sSeq (sSet 4 (eCall 2 F_law_next (aC (vr 0) (aC (e2 dgetD (vr 0) (cn (.str "wide"))) aN))))
    (sSeq (sSet 5 (eCall 2 F_law_next (aC (vr 0) (aC (e2 dgetD (vr 0) (cn (.str "wide"))) aN))))
    (sSeq (sSet 6 (eCall 2 F_law_next (aC (vr 0) (aC (e2 dgetD (vr 0) (cn (.str "wide"))) aN))))
    (sSeq (sIf (tB1 (e2 ltD (vr 3) (cn (.int 2)))) (sRet (eTup (aC (cn (.str "const")) (aC (vr 4) (aC (e2 ixD (eLst (aC (eCall 2 F_law_next (aC (vr 0) (aC (cn (.int 9)) aN))) (aC (e2 subD (cn (.int 4294967295)) (eCall 2 F_law_next (aC (vr 0) (aC (cn (.int 5)) aN)))) (aC (e2 mulD (eCall 2 F_law_next (aC (vr 0) (aC (cn (.int 900)) aN))) (cn (.int 4771117))) aN)))) (eCall 2 F_law_next (aC (vr 0) (aC (cn (.int 3)) aN)))) aN))))) sSkip)
    (sSeq (sIf (tB1 (e2 ltD (vr 3) (cn (.int 6)))) (sRet (eTup (aC (cn (.str "op")) (aC (e2 ixD (eLst (aC (cn (.str "+")) (aC (cn (.str "-")) (aC (cn (.str "*")) (aC (cn (.str "&")) (aC (cn (.str "|")) (aC (cn (.str "^")) (aC (cn (.str "<<")) (aC (cn (.str ">>")) (aC (cn (.str "==")) (aC (cn (.str "<")) (aC (cn (.str "<=")) (aC (cn (.str "div")) (aC (cn (.str "mod")) aN)))))))))))))) (eCall 2 F_law_next (aC (vr 0) (aC (cn (.int 13)) aN)))) (aC (vr 4) (aC (vr 5) (aC (vr 6) aN))))))) sSkip)
    (sSeq (sIf (tB1 (e2 eqD (vr 3) (cn (.int 6)))) (sRet (eTup (aC (cn (.str "select")) (aC (vr 4) (aC (eCall 2 F_law_next (aC (vr 0) (aC (e2 dgetD (vr 0) (cn (.str "wide"))) aN))) (aC (vr 5) (aC (vr 6) aN))))))) sSkip)
    (sSeq (sIf (tB1 (e2 ltD (vr 3) (cn (.int 9)))) (sSeq (sAsg (.t [7, 8]) (eCall 2 F_law_span (aC (vr 0) (aC (vr 1) aN))))
    (sRet (eTup (aC (cn (.str "load")) (aC (vr 4) (aC (vr 5) (aC (vr 7) (aC (vr 8) aN)))))))) sSkip)
    (sSeq (sIf (tB1 (e2 ltD (vr 3) (cn (.int 11)))) (sSeq (sAsg (.t [7, 8]) (eCall 2 F_law_span (aC (vr 0) (aC (vr 1) aN))))
    (sRet (eTup (aC (cn (.str "store")) (aC (vr 5) (aC (vr 7) (aC (vr 8) (aC (vr 6) aN)))))))) sSkip)
    (sSeq (sIf (tB1 (e2 eqD (vr 3) (cn (.int 11)))) (sRet (eTup (aC (cn (.str "out")) (aC (vr 5) aN)))) sSkip)
    (sSeq (sIf (tB1 (e2 eqD (vr 3) (cn (.int 12)))) (sRet (eTup (aC (cn (.str "branch")) (aC (vr 5) (aC (eCall 2 F_law_next (aC (vr 0) (aC (vr 2) aN))) aN))))) sSkip)
    (sRet (e2 ixD (eLst (aC (eTup (aC (cn (.str "jump")) (aC (eCall 2 F_law_next (aC (vr 0) (aC (vr 2) aN))) aN))) (aC (eTup (aC (cn (.str "stop")) (aC (vr 5) aN))) (aC (eTup (aC (cn (.str "const")) (aC (vr 4) (aC (cn (.int 1)) aN)))) aN)))) (eCall 2 F_law_next (aC (vr 0) (aC (cn (.int 3)) aN))))))))))))))))
noncomputable def F_law_row : FN := fnB 9 3 g_law_row
theorem ok_law_row (B : Blt K w mg) {f : Addr} {fd : FuncData} (h : DefAt K mg "_law_row" s_law_row ["w", "regions", "many"] f fd) {f0 : Addr} {fd0 : FuncData} (h_law_next : Keeps P w K mg base 1 "_law_next" ["w", "many"] F_law_next f0 fd0) {f1 : Addr} {fd1 : FuncData} (h_law_span : Keeps P w K mg base 2 "_law_span" ["w", "regions"] F_law_span f1 fd1) : Keeps P w K mg base 3 "_law_row" ["w", "regions", "many"] F_law_row f fd :=
  keeps_of h sc_law_row fun cdv A outer s H E hr =>
    (ss_cons (c_set (ps_set (i := 3) sc_law_row.nd rfl (by first | exact Or.inl rfl | exact Or.inr rfl) (s_own h_law_next (by decide) hr rfl (by rfl) (a_cons (s_var (pv 0)) (a_cons s_int a_nil)))))
    (ss_cons (c_set (ps_set (i := 4) sc_law_row.nd rfl (by first | exact Or.inl rfl | exact Or.inr rfl) (s_own h_law_next (by decide) hr rfl (by rfl) (a_cons (s_var (pv 0)) (a_cons (c_2 (pe_dget (hu_of hr) (s_var (pv 0)) s_str (fun _ _ => rfl)) o2_dget) a_nil)))))
    (ss_cons (c_set (ps_set (i := 5) sc_law_row.nd rfl (by first | exact Or.inl rfl | exact Or.inr rfl) (s_own h_law_next (by decide) hr rfl (by rfl) (a_cons (s_var (pv 0)) (a_cons (c_2 (pe_dget (hu_of hr) (s_var (pv 0)) s_str (fun _ _ => rfl)) o2_dget) a_nil)))))
    (ss_cons (c_set (ps_set (i := 6) sc_law_row.nd rfl (by first | exact Or.inl rfl | exact Or.inr rfl) (s_own h_law_next (by decide) hr rfl (by rfl) (a_cons (s_var (pv 0)) (a_cons (c_2 (pe_dget (hu_of hr) (s_var (pv 0)) s_str (fun _ _ => rfl)) o2_dget) a_nil)))))
    (ss_cons (c_if (ps_if (t_cmp op_lt o2_lt (s_var (pv 3)) s_int (nomark _)) (ss_one (c_ret (ps_ret (s_tup (a_cons s_str (a_cons (s_var (pv 4)) (a_cons (s_ix ix_seq o2_ix (s_lst (a_cons (s_own h_law_next (by decide) hr rfl (by rfl) (a_cons (s_var (pv 0)) (a_cons s_int a_nil))) (a_cons (s_op op_sub o2_sub s_int (s_own h_law_next (by decide) hr rfl (by rfl) (a_cons (s_var (pv 0)) (a_cons s_int a_nil)))) (a_cons (s_op op_mulA o2_mul (s_own h_law_next (by decide) hr rfl (by rfl) (a_cons (s_var (pv 0)) (a_cons s_int a_nil))) s_int) a_nil)))) (s_own h_law_next (by decide) hr rfl (by rfl) (a_cons (s_var (pv 0)) (a_cons s_int a_nil))) (fun _ _ => rfl)) a_nil))))))) ss_nil))
    (ss_cons (c_if (ps_if (t_cmp op_lt o2_lt (s_var (pv 3)) s_int (nomark _)) (ss_one (c_ret (ps_ret (s_tup (a_cons s_str (a_cons (s_ix ix_seq o2_ix (s_lst (a_cons s_str (a_cons s_str (a_cons s_str (a_cons s_str (a_cons s_str (a_cons s_str (a_cons s_str (a_cons s_str (a_cons s_str (a_cons s_str (a_cons s_str (a_cons s_str (a_cons s_str a_nil)))))))))))))) (s_own h_law_next (by decide) hr rfl (by rfl) (a_cons (s_var (pv 0)) (a_cons s_int a_nil))) (fun _ _ => rfl)) (a_cons (s_var (pv 4)) (a_cons (s_var (pv 5)) (a_cons (s_var (pv 6)) a_nil))))))))) ss_nil))
    (ss_cons (c_if (ps_if (t_cmp (op_eqA hr.units) o2_eq (s_var (pv 3)) s_int (nomark _)) (ss_one (c_ret (ps_ret (s_tup (a_cons s_str (a_cons (s_var (pv 4)) (a_cons (s_own h_law_next (by decide) hr rfl (by rfl) (a_cons (s_var (pv 0)) (a_cons (c_2 (pe_dget (hu_of hr) (s_var (pv 0)) s_str (fun _ _ => rfl)) o2_dget) a_nil))) (a_cons (s_var (pv 5)) (a_cons (s_var (pv 6)) a_nil))))))))) ss_nil))
    (ss_cons (c_if (ps_if (t_cmp op_lt o2_lt (s_var (pv 3)) s_int (nomark _)) (ss_cons (c_asg (t := (.t [7, 8])) (ps_asg (s_own h_law_span (by decide) hr rfl (by rfl) (a_cons (s_var (pv 0)) (a_cons (s_var (pv 1)) a_nil))) (pg_tup rfl (pgs_cons (pg_name (i := 7) sc_law_row.nd rfl (by first | exact Or.inl rfl | exact Or.inr rfl)) (pgs_cons (pg_name (i := 8) sc_law_row.nd rfl (by first | exact Or.inl rfl | exact Or.inr rfl)) pgs_nil)))))
    (ss_one (c_ret (ps_ret (s_tup (a_cons s_str (a_cons (s_var (pv 4)) (a_cons (s_var (pv 5)) (a_cons (s_var (pv 7)) (a_cons (s_var (pv 8)) a_nil)))))))))) ss_nil))
    (ss_cons (c_if (ps_if (t_cmp op_lt o2_lt (s_var (pv 3)) s_int (nomark _)) (ss_cons (c_asg (t := (.t [7, 8])) (ps_asg (s_own h_law_span (by decide) hr rfl (by rfl) (a_cons (s_var (pv 0)) (a_cons (s_var (pv 1)) a_nil))) (pg_tup rfl (pgs_cons (pg_name (i := 7) sc_law_row.nd rfl (by first | exact Or.inl rfl | exact Or.inr rfl)) (pgs_cons (pg_name (i := 8) sc_law_row.nd rfl (by first | exact Or.inl rfl | exact Or.inr rfl)) pgs_nil)))))
    (ss_one (c_ret (ps_ret (s_tup (a_cons s_str (a_cons (s_var (pv 5)) (a_cons (s_var (pv 7)) (a_cons (s_var (pv 8)) (a_cons (s_var (pv 6)) a_nil)))))))))) ss_nil))
    (ss_cons (c_if (ps_if (t_cmp (op_eqA hr.units) o2_eq (s_var (pv 3)) s_int (nomark _)) (ss_one (c_ret (ps_ret (s_tup (a_cons s_str (a_cons (s_var (pv 5)) a_nil)))))) ss_nil))
    (ss_cons (c_if (ps_if (t_cmp (op_eqA hr.units) o2_eq (s_var (pv 3)) s_int (nomark _)) (ss_one (c_ret (ps_ret (s_tup (a_cons s_str (a_cons (s_var (pv 5)) (a_cons (s_own h_law_next (by decide) hr rfl (by rfl) (a_cons (s_var (pv 0)) (a_cons (s_var (pv 2)) a_nil))) a_nil))))))) ss_nil))
    (ss_one (c_ret (ps_ret (s_ix ix_seq o2_ix (s_lst (a_cons (s_tup (a_cons s_str (a_cons (s_own h_law_next (by decide) hr rfl (by rfl) (a_cons (s_var (pv 0)) (a_cons (s_var (pv 2)) a_nil))) a_nil))) (a_cons (s_tup (a_cons s_str (a_cons (s_var (pv 5)) a_nil))) (a_cons (s_tup (a_cons s_str (a_cons (s_var (pv 4)) (a_cons s_int a_nil)))) a_nil)))) (s_own h_law_next (by decide) hr rfl (by rfl) (a_cons (s_var (pv 0)) (a_cons s_int a_nil))) (fun _ _ => rfl))))))))))))))))
abbrev s_law_code : Stmt := topS 15
theorem sc_law_code : FnScope ["w", "regions", "many", "rows", "k"] ["w"] (defScope s_law_code) := ⟨rfl, rfl, rfl, by decide +kernel, rfl, by decide +kernel, by decide +kernel⟩
noncomputable def g_law_code : ST :=
  (sSeq (sSet 1 (eCall 1 F_law_regions (aC (vr 0) aN)))
    (sSeq (sSet 2 (e2 addD (cn (.int 2)) (eCall 2 F_law_next (aC (vr 0) (aC (cn (.int 16)) aN)))))
    (sSeq (sDPutD (e2 ixD (eLst (aC (cn (.int 6)) (aC (cn (.int 16)) aN))) (eCall 2 F_law_next (aC (vr 0) (aC (cn (.int 2)) aN)))) (vr 0) (cn (.str "wide")))
    (sSeq (sSet 3 (eLc (iRg1 (e2 subD (vr 2) (cn (.int 1)))) (.n 4) [4] yes (eCall 3 F_law_row (aC (vr 0) (aC (vr 1) (aC (vr 2) aN))))))
    (sRet (eTup (aC (vr 1) (aC (eB tupB (aC (e2 addD (vr 3) (eLst (aC (e2 ixD (eLst (aC (eTup (aC (cn (.str "stop")) (aC (eCall 2 F_law_next (aC (vr 0) (aC (cn (.int 6)) aN))) aN))) (aC (eTup (aC (cn (.str "jump")) (aC (eCall 2 F_law_next (aC (vr 0) (aC (vr 2) aN))) aN))) aN))) (e2 divD (eCall 2 F_law_next (aC (vr 0) (aC (cn (.int 4)) aN))) (cn (.int 3)))) aN))) aN)) aN))))))))
noncomputable def F_law_code : FN := fnB 5 1 g_law_code
theorem ok_law_code (B : Blt K w mg) {f : Addr} {fd : FuncData} (h : DefAt K mg "_law_code" s_law_code ["w"] f fd) {f0 : Addr} {fd0 : FuncData} (h_law_regions : Keeps P w K mg base 2 "_law_regions" ["w"] F_law_regions f0 fd0) {f1 : Addr} {fd1 : FuncData} (h_law_next : Keeps P w K mg base 1 "_law_next" ["w", "many"] F_law_next f1 fd1) {f2 : Addr} {fd2 : FuncData} (h_law_row : Keeps P w K mg base 3 "_law_row" ["w", "regions", "many"] F_law_row f2 fd2) : Keeps P w K mg base 4 "_law_code" ["w"] F_law_code f fd :=
  keeps_of h sc_law_code fun cdv A outer s H E hr =>
    (ss_cons (c_set (ps_set (i := 1) sc_law_code.nd rfl (by first | exact Or.inl rfl | exact Or.inr rfl) (s_own h_law_regions (by decide) hr rfl (by rfl) (a_cons (s_var (pv 0)) a_nil))))
    (ss_cons (c_set (ps_set (i := 2) sc_law_code.nd rfl (by first | exact Or.inl rfl | exact Or.inr rfl) (s_op op_addA o2_add s_int (s_own h_law_next (by decide) hr rfl (by rfl) (a_cons (s_var (pv 0)) (a_cons s_int a_nil))))))
    (ss_cons (c_dput (ps_dput (hu_of hr) (s_var (pv 0)) s_str (s_ix ix_seq o2_ix (s_lst (a_cons s_int (a_cons s_int a_nil))) (s_own h_law_next (by decide) hr rfl (by rfl) (a_cons (s_var (pv 0)) (a_cons s_int a_nil))) (fun _ _ => rfl)) (by rfl)))
    (ss_cons (c_setLc0 (ps_setLc (i := 3) (own := [("k", 4)]) (g := gT _ (.n 4)) (by rfl) sc_law_code.nd rfl rfl (sw_true rfl rfl rfl (by decide +kernel)) (i_rg1 (pi_range1 (by rfl) B.range (a_cons (s_op op_sub o2_sub (s_var (pv 2)) s_int) a_nil))) (blkOk_by (own := [("k", 4)]) (N := ["w", "regions", "many", "rows", "k"]) (sc := defScope s_law_code) (by decide +kernel)) (fun _ _ _ _ _ => (pg_name (i := 4) sc_law_code.nd rfl (by first | exact Or.inl rfl | exact Or.inr rfl))) (fun _ _ _ _ _ => pts_nil) (fun _ _ _ _ _ => (s_own h_law_row (by decide) hr rfl (by rfl) (a_cons (s_var (pv 0)) (a_cons (s_var (pv 1)) (a_cons (s_var (pv 2)) a_nil)))))) (by decide))
    (ss_one (c_ret (ps_ret (s_tup (a_cons (s_var (pv 1)) (a_cons (s_blt (pe_callTy call_tuple_of (by rfl) B.tuple (by decide +kernel) (a_cons (s_op op_addA o2_add (s_var (pv 3)) (s_lst (a_cons (s_ix ix_seq o2_ix (s_lst (a_cons (s_tup (a_cons s_str (a_cons (s_own h_law_next (by decide) hr rfl (by rfl) (a_cons (s_var (pv 0)) (a_cons s_int a_nil))) a_nil))) (a_cons (s_tup (a_cons s_str (a_cons (s_own h_law_next (by decide) hr rfl (by rfl) (a_cons (s_var (pv 0)) (a_cons (s_var (pv 2)) a_nil))) a_nil))) a_nil))) (s_op op_fdiv o2_div (s_own h_law_next (by decide) hr rfl (by rfl) (a_cons (s_var (pv 0)) (a_cons s_int a_nil))) s_int) (fun _ _ => rfl)) a_nil))) a_nil)) on_tup) a_nil))))))))))
abbrev s_law_region : Stmt := topS 16
theorem sc_law_region : FnScope ["code", "base", "mask", "found", "one"] ["code", "base", "mask"] (defScope s_law_region) := ⟨rfl, rfl, rfl, by decide +kernel, rfl, by decide +kernel, by decide +kernel⟩
noncomputable def g_law_region : ST :=
  (sSeq (sSet 3 (eLc (iSeq (e2 ixD (vr 0) (cn (.int 0)))) (.n 4) [4] (tAn (tB1 (e2 leD (e2 ixD (vr 4) (cn (.int 0))) (vr 1))) (tB1 (e2 ltD (e2 addD (vr 1) (vr 2)) (e2 addD (e2 ixD (vr 4) (cn (.int 0))) (e2 ixD (vr 4) (cn (.int 1))))))) (vr 4)))
    (sSeq (sIf (tB1 (e2 eqD (vr 3) (eLst aN))) (sRet (cn .non)) sSkip)
    (sRet (e2 ixD (vr 3) (cn (.int 0))))))
noncomputable def F_law_region : FN := fnB 5 3 g_law_region
theorem ok_law_region (B : Blt K w mg) {f : Addr} {fd : FuncData} (h : DefAt K mg "_law_region" s_law_region ["code", "base", "mask"] f fd)  : Keeps P w K mg base 1 "_law_region" ["code", "base", "mask"] F_law_region f fd :=
  keeps_of h sc_law_region fun cdv A outer s H E hr =>
    (ss_cons (c_setLc (ps_setLc (i := 3) (own := [("one", 4)]) (g := gT _ (.n 4)) (by rfl) sc_law_region.nd rfl rfl (sw_true rfl rfl rfl (by decide +kernel)) (i_seq (s_ix ix_seq o2_ix (s_var (pv 0)) s_int (fun _ _ => rfl))) (blkOk_by (own := [("one", 4)]) (N := ["code", "base", "mask", "found", "one"]) (sc := defScope s_law_region) (by decide +kernel)) (fun _ _ _ _ _ => (pg_name (i := 4) sc_law_region.nd rfl (by first | exact Or.inl rfl | exact Or.inr rfl))) (fun _ _ _ _ _ => pts_one (PW.pt (t_and (t_cmp op_le o2_le (s_ix ix_seq o2_ix (s_var (pv 4)) s_int (fun _ _ => rfl)) (s_var (pv 1)) (nomark _)) (t_and1 (t_cmp op_lt o2_lt (s_op op_addA o2_add (s_var (pv 1)) (s_var (pv 2))) (s_op op_addA o2_add (s_ix ix_seq o2_ix (s_var (pv 4)) s_int (fun _ _ => rfl)) (s_ix ix_seq o2_ix (s_var (pv 4)) s_int (fun _ _ => rfl))) (nomark _)))))) (fun _ _ _ _ _ => (s_var (pv 4)))) (by decide))
    (ss_cons (c_if (ps_if (t_cmp (op_eqA hr.units) o2_eq (s_var (pv 3)) (s_lst a_nil) (nomark _)) (ss_one (c_ret (ps_ret s_non))) ss_nil))
    (ss_one (c_ret (ps_ret (s_ix ix_seq o2_ix (s_var (pv 3)) s_int (fun _ _ => rfl)))))))
abbrev s_law_behind : Stmt := topS 17
theorem sc_law_behind : FnScope ["code", "r", "member", "row", "one", "public", "region"] ["code", "r", "member"] (defScope s_law_behind) := ⟨rfl, rfl, rfl, by decide +kernel, rfl, by decide +kernel, by decide +kernel⟩
noncomputable def g_law_behind : ST :=
  (sSeq (sSet 3 (e2 ixD (e2 ixD (vr 0) (cn (.int 1))) (vr 1)))
    (sSeq (sIf (tB1 (e2 eqD (e2 ixD (vr 3) (cn (.int 0))) (cn (.str "const")))) (sRet (eLc (iRg1 (cn (.int 16))) (.n 4) [4] (tO (tB1 (e2 (inD false) (vr 4) (vr 2))) (tB1 (e2 eqD (vr 4) (e2 ixD (vr 3) (cn (.int 1)))))) (vr 4))) sSkip)
    (sSeq (sIf (tB1 (e2 eqD (e2 ixD (vr 3) (cn (.int 0))) (cn (.str "op")))) (sSeq (sSet 5 (eAn (e2 (inD false) (e2 ixD (vr 3) (cn (.int 3))) (vr 2)) (e2 (inD false) (e2 ixD (vr 3) (cn (.int 4))) (vr 2))))
    (sRet (eLc (iRg1 (cn (.int 16))) (.n 4) [4] (tO (tAn (tB1 (e2 neD (vr 4) (e2 ixD (vr 3) (cn (.int 2))))) (tB1 (e2 (inD false) (vr 4) (vr 2)))) (tAn (tB1 (e2 eqD (vr 4) (e2 ixD (vr 3) (cn (.int 2))))) (tTl (vr 5)))) (vr 4)))) sSkip)
    (sSeq (sIf (tB1 (e2 eqD (e2 ixD (vr 3) (cn (.int 0))) (cn (.str "select")))) (sSeq (sSet 5 (eAn (e2 (inD false) (e2 ixD (vr 3) (cn (.int 2))) (vr 2)) (eAn (e2 (inD false) (e2 ixD (vr 3) (cn (.int 3))) (vr 2)) (e2 (inD false) (e2 ixD (vr 3) (cn (.int 4))) (vr 2)))))
    (sRet (eLc (iRg1 (cn (.int 16))) (.n 4) [4] (tO (tAn (tB1 (e2 neD (vr 4) (e2 ixD (vr 3) (cn (.int 1))))) (tB1 (e2 (inD false) (vr 4) (vr 2)))) (tAn (tB1 (e2 eqD (vr 4) (e2 ixD (vr 3) (cn (.int 1))))) (tTl (vr 5)))) (vr 4)))) sSkip)
    (sSeq (sIf (tB1 (e2 eqD (e2 ixD (vr 3) (cn (.int 0))) (cn (.str "load")))) (sSeq (sSet 6 (eCall 3 F_law_region (aC (vr 0) (aC (e2 ixD (vr 3) (cn (.int 3))) (aC (e2 ixD (vr 3) (cn (.int 4))) aN)))))
    (sSeq (sSet 5 (eAn (e2 isNotD (vr 6) (cn .non)) (e2 eqD (e2 ixD (vr 6) (cn (.int 2))) (cn (.str "public")))))
    (sRet (eLc (iRg1 (cn (.int 16))) (.n 4) [4] (tO (tAn (tB1 (e2 neD (vr 4) (e2 ixD (vr 3) (cn (.int 1))))) (tB1 (e2 (inD false) (vr 4) (vr 2)))) (tAn (tB1 (e2 eqD (vr 4) (e2 ixD (vr 3) (cn (.int 1))))) (tTl (vr 5)))) (vr 4))))) sSkip)
    (sRet (eB lstB (aC (vr 2) aN))))))))
noncomputable def F_law_behind : FN := fnB 7 3 g_law_behind
theorem ok_law_behind (B : Blt K w mg) {f : Addr} {fd : FuncData} (h : DefAt K mg "_law_behind" s_law_behind ["code", "r", "member"] f fd) {f0 : Addr} {fd0 : FuncData} (h_law_region : Keeps P w K mg base 1 "_law_region" ["code", "base", "mask"] F_law_region f0 fd0) : Keeps P w K mg base 2 "_law_behind" ["code", "r", "member"] F_law_behind f fd :=
  keeps_of h sc_law_behind fun cdv A outer s H E hr =>
    (ss_cons (c_set (ps_set (i := 3) sc_law_behind.nd rfl (by first | exact Or.inl rfl | exact Or.inr rfl) (s_ix ix_seq o2_ix (s_ix ix_seq o2_ix (s_var (pv 0)) s_int (fun _ _ => rfl)) (s_var (pv 1)) (fun _ _ => rfl))))
    (ss_cons (c_if (ps_if (t_cmp (op_eqA hr.units) o2_eq (s_ix ix_seq o2_ix (s_var (pv 3)) s_int (fun _ _ => rfl)) s_str (nomark _)) (ss_one (c_ret (ps_ret (s_lc (pe_lc (own := [("one", 4)]) (g := gT _ (.n 4)) (by rfl) sc_law_behind.nd (i_rg1 (pi_range1 (by rfl) B.range (a_cons s_int a_nil))) (blkOk_by (own := [("one", 4)]) (N := ["code", "r", "member", "row", "one", "public", "region"]) (sc := defScope s_law_behind) (by decide +kernel)) (fun _ _ _ _ _ => (pg_name (i := 4) sc_law_behind.nd rfl (by first | exact Or.inl rfl | exact Or.inr rfl))) (fun _ _ _ _ _ => pts_one (PW.pt (t_or (t_cmp op_in_seq (o2_in (neg := false)) (s_var (pv 4)) (s_var (pv 2)) (by rfl)) (t_or1 (t_cmp (op_eqA hr.units) o2_eq (s_var (pv 4)) (s_ix ix_seq o2_ix (s_var (pv 3)) s_int (fun _ _ => rfl)) (nomark _)))))) (fun _ _ _ _ _ => (s_var (pv 4)))) (by decide))))) ss_nil))
    (ss_cons (c_if (ps_if (t_cmp (op_eqA hr.units) o2_eq (s_ix ix_seq o2_ix (s_var (pv 3)) s_int (fun _ _ => rfl)) s_str (nomark _)) (ss_cons (c_set (ps_set (i := 5) sc_law_behind.nd rfl (by first | exact Or.inl rfl | exact Or.inr rfl) (s_and (s_cmp op_in_seq (o2_in (neg := false)) (s_ix ix_seq o2_ix (s_var (pv 3)) s_int (fun _ _ => rfl)) (s_var (pv 2)) (by rfl)) (s_one (s_cmp op_in_seq (o2_in (neg := false)) (s_ix ix_seq o2_ix (s_var (pv 3)) s_int (fun _ _ => rfl)) (s_var (pv 2)) (by rfl))))))
    (ss_one (c_ret (ps_ret (s_lc (pe_lc (own := [("one", 4)]) (g := gT _ (.n 4)) (by rfl) sc_law_behind.nd (i_rg1 (pi_range1 (by rfl) B.range (a_cons s_int a_nil))) (blkOk_by (own := [("one", 4)]) (N := ["code", "r", "member", "row", "one", "public", "region"]) (sc := defScope s_law_behind) (by decide +kernel)) (fun _ _ _ _ _ => (pg_name (i := 4) sc_law_behind.nd rfl (by first | exact Or.inl rfl | exact Or.inr rfl))) (fun _ _ _ _ _ => pts_one (PW.pt (t_or (PW.pt (t_and (t_cmp (op_neA hr.units) o2_ne (s_var (pv 4)) (s_ix ix_seq o2_ix (s_var (pv 3)) s_int (fun _ _ => rfl)) (nomark _)) (t_and1 (t_cmp op_in_seq (o2_in (neg := false)) (s_var (pv 4)) (s_var (pv 2)) (by rfl))))) (t_or1 (PW.pt (t_and (t_cmp (op_eqA hr.units) o2_eq (s_var (pv 4)) (s_ix ix_seq o2_ix (s_var (pv 3)) s_int (fun _ _ => rfl)) (nomark _)) (t_and1 (t_truth (s_var (pv 5)))))))))) (fun _ _ _ _ _ => (s_var (pv 4)))) (by decide)))))) ss_nil))
    (ss_cons (c_if (ps_if (t_cmp (op_eqA hr.units) o2_eq (s_ix ix_seq o2_ix (s_var (pv 3)) s_int (fun _ _ => rfl)) s_str (nomark _)) (ss_cons (c_set (ps_set (i := 5) sc_law_behind.nd rfl (by first | exact Or.inl rfl | exact Or.inr rfl) (s_and (s_cmp op_in_seq (o2_in (neg := false)) (s_ix ix_seq o2_ix (s_var (pv 3)) s_int (fun _ _ => rfl)) (s_var (pv 2)) (by rfl)) (s_and (s_cmp op_in_seq (o2_in (neg := false)) (s_ix ix_seq o2_ix (s_var (pv 3)) s_int (fun _ _ => rfl)) (s_var (pv 2)) (by rfl)) (s_one (s_cmp op_in_seq (o2_in (neg := false)) (s_ix ix_seq o2_ix (s_var (pv 3)) s_int (fun _ _ => rfl)) (s_var (pv 2)) (by rfl)))))))
    (ss_one (c_ret (ps_ret (s_lc (pe_lc (own := [("one", 4)]) (g := gT _ (.n 4)) (by rfl) sc_law_behind.nd (i_rg1 (pi_range1 (by rfl) B.range (a_cons s_int a_nil))) (blkOk_by (own := [("one", 4)]) (N := ["code", "r", "member", "row", "one", "public", "region"]) (sc := defScope s_law_behind) (by decide +kernel)) (fun _ _ _ _ _ => (pg_name (i := 4) sc_law_behind.nd rfl (by first | exact Or.inl rfl | exact Or.inr rfl))) (fun _ _ _ _ _ => pts_one (PW.pt (t_or (PW.pt (t_and (t_cmp (op_neA hr.units) o2_ne (s_var (pv 4)) (s_ix ix_seq o2_ix (s_var (pv 3)) s_int (fun _ _ => rfl)) (nomark _)) (t_and1 (t_cmp op_in_seq (o2_in (neg := false)) (s_var (pv 4)) (s_var (pv 2)) (by rfl))))) (t_or1 (PW.pt (t_and (t_cmp (op_eqA hr.units) o2_eq (s_var (pv 4)) (s_ix ix_seq o2_ix (s_var (pv 3)) s_int (fun _ _ => rfl)) (nomark _)) (t_and1 (t_truth (s_var (pv 5)))))))))) (fun _ _ _ _ _ => (s_var (pv 4)))) (by decide)))))) ss_nil))
    (ss_cons (c_if (ps_if (t_cmp (op_eqA hr.units) o2_eq (s_ix ix_seq o2_ix (s_var (pv 3)) s_int (fun _ _ => rfl)) s_str (nomark _)) (ss_cons (c_set (ps_set (i := 6) sc_law_behind.nd rfl (by first | exact Or.inl rfl | exact Or.inr rfl) (s_own h_law_region (by decide) hr rfl (by rfl) (a_cons (s_var (pv 0)) (a_cons (s_ix ix_seq o2_ix (s_var (pv 3)) s_int (fun _ _ => rfl)) (a_cons (s_ix ix_seq o2_ix (s_var (pv 3)) s_int (fun _ _ => rfl)) a_nil))))))
    (ss_cons (c_set (ps_set (i := 5) sc_law_behind.nd rfl (by first | exact Or.inl rfl | exact Or.inr rfl) (s_and (s_cmp op_isNotA o2_isNot (s_var (pv 6)) s_non (nomark _)) (s_one (s_cmp (op_eqA hr.units) o2_eq (s_ix ix_seq o2_ix (s_var (pv 6)) s_int (fun _ _ => rfl)) s_str (nomark _))))))
    (ss_one (c_ret (ps_ret (s_lc (pe_lc (own := [("one", 4)]) (g := gT _ (.n 4)) (by rfl) sc_law_behind.nd (i_rg1 (pi_range1 (by rfl) B.range (a_cons s_int a_nil))) (blkOk_by (own := [("one", 4)]) (N := ["code", "r", "member", "row", "one", "public", "region"]) (sc := defScope s_law_behind) (by decide +kernel)) (fun _ _ _ _ _ => (pg_name (i := 4) sc_law_behind.nd rfl (by first | exact Or.inl rfl | exact Or.inr rfl))) (fun _ _ _ _ _ => pts_one (PW.pt (t_or (PW.pt (t_and (t_cmp (op_neA hr.units) o2_ne (s_var (pv 4)) (s_ix ix_seq o2_ix (s_var (pv 3)) s_int (fun _ _ => rfl)) (nomark _)) (t_and1 (t_cmp op_in_seq (o2_in (neg := false)) (s_var (pv 4)) (s_var (pv 2)) (by rfl))))) (t_or1 (PW.pt (t_and (t_cmp (op_eqA hr.units) o2_eq (s_var (pv 4)) (s_ix ix_seq o2_ix (s_var (pv 3)) s_int (fun _ _ => rfl)) (nomark _)) (t_and1 (t_truth (s_var (pv 5)))))))))) (fun _ _ _ _ _ => (s_var (pv 4)))) (by decide))))))) ss_nil))
    (ss_one (c_ret (ps_ret (s_blt (pe_callTy call_list_of (by rfl) B.list (by decide +kernel) (a_cons (s_var (pv 2)) a_nil)) on_lst)))))))))
abbrev s_law_ways : Stmt := topS 18
theorem sc_law_ways : FnScope ["code", "r", "row"] ["code", "r"] (defScope s_law_ways) := ⟨rfl, rfl, rfl, by decide +kernel, rfl, by decide +kernel, by decide +kernel⟩
noncomputable def g_law_ways : ST :=
  (sSeq (sSet 2 (e2 ixD (e2 ixD (vr 0) (cn (.int 1))) (vr 1)))
    (sSeq (sIf (tB1 (e2 eqD (e2 ixD (vr 2) (cn (.int 0))) (cn (.str "stop")))) (sRet (eLst aN)) sSkip)
    (sSeq (sIf (tB1 (e2 eqD (e2 ixD (vr 2) (cn (.int 0))) (cn (.str "jump")))) (sRet (eLst (aC (e2 ixD (vr 2) (cn (.int 1))) aN))) sSkip)
    (sSeq (sIf (tAn (tB1 (e2 eqD (e2 ixD (vr 2) (cn (.int 0))) (cn (.str "branch")))) (tB1 (e2 neD (e2 ixD (vr 2) (cn (.int 2))) (e2 addD (vr 1) (cn (.int 1)))))) (sRet (eB sortB (aC (eLst (aC (e2 addD (vr 1) (cn (.int 1))) (aC (e2 ixD (vr 2) (cn (.int 2))) aN))) aN))) sSkip)
    (sRet (eLst (aC (e2 addD (vr 1) (cn (.int 1))) aN)))))))
noncomputable def F_law_ways : FN := fnB 3 2 g_law_ways
theorem ok_law_ways (B : Blt K w mg) {f : Addr} {fd : FuncData} (h : DefAt K mg "_law_ways" s_law_ways ["code", "r"] f fd)  : Keeps P w K mg base 1 "_law_ways" ["code", "r"] F_law_ways f fd :=
  keeps_of h sc_law_ways fun cdv A outer s H E hr =>
    (ss_cons (c_set (ps_set (i := 2) sc_law_ways.nd rfl (by first | exact Or.inl rfl | exact Or.inr rfl) (s_ix ix_seq o2_ix (s_ix ix_seq o2_ix (s_var (pv 0)) s_int (fun _ _ => rfl)) (s_var (pv 1)) (fun _ _ => rfl))))
    (ss_cons (c_if (ps_if (t_cmp (op_eqA hr.units) o2_eq (s_ix ix_seq o2_ix (s_var (pv 2)) s_int (fun _ _ => rfl)) s_str (nomark _)) (ss_one (c_ret (ps_ret (s_lst a_nil)))) ss_nil))
    (ss_cons (c_if (ps_if (t_cmp (op_eqA hr.units) o2_eq (s_ix ix_seq o2_ix (s_var (pv 2)) s_int (fun _ _ => rfl)) s_str (nomark _)) (ss_one (c_ret (ps_ret (s_lst (a_cons (s_ix ix_seq o2_ix (s_var (pv 2)) s_int (fun _ _ => rfl)) a_nil))))) ss_nil))
    (ss_cons (c_if (ps_if (PW.pt (t_and (t_cmp (op_eqA hr.units) o2_eq (s_ix ix_seq o2_ix (s_var (pv 2)) s_int (fun _ _ => rfl)) s_str (nomark _)) (t_and1 (t_cmp (op_neA hr.units) o2_ne (s_ix ix_seq o2_ix (s_var (pv 2)) s_int (fun _ _ => rfl)) (s_op op_addA o2_add (s_var (pv 1)) s_int) (nomark _))))) (ss_one (c_ret (ps_ret (s_blt (pe_callB cr_sortedI (by rfl) B.sorted (by decide +kernel) (a_cons (s_lst (a_cons (s_op op_addA o2_add (s_var (pv 1)) s_int) (a_cons (s_ix ix_seq o2_ix (s_var (pv 2)) s_int (fun _ _ => rfl)) a_nil))) a_nil)) on_sort)))) ss_nil))
    (ss_one (c_ret (ps_ret (s_lst (a_cons (s_op op_addA o2_add (s_var (pv 1)) s_int) a_nil)))))))))
abbrev s_law_greatest : Stmt := topS 19
theorem sc_law_greatest : FnScope ["code", "paper", "row", "turn", "before", "r", "behind", "way", "one", "member"] ["code"] (defScope s_law_greatest) := ⟨rfl, rfl, rfl, by decide +kernel, rfl, by decide +kernel, by decide +kernel⟩
noncomputable def g_law_greatest_b1 : ST :=
  (sLPut (eLc (iSeq (e2 ixD (vr 1) (vr 7))) (.n 8) [8] (tB1 (e2 (inD false) (vr 8) (vr 6))) (vr 8)) (vr 1) (vr 7))
noncomputable def g_law_greatest_b2 : ST :=
  (sSeq (sSet 6 (eCall 3 F_law_behind (aC (vr 0) (aC (vr 5) (aC (e2 ixD (vr 1) (vr 5)) aN)))))
    (sFor (.n 7) (iSeq (eCall 2 F_law_ways (aC (vr 0) (aC (vr 5) aN)))) g_law_greatest_b1))
noncomputable def g_law_greatest_b3 : ST :=
  (sSeq (sSet 4 (eB reprB (aC (vr 1) aN)))
    (sSeq (sFor (.n 5) (iRg1 (eB lenB (aC (vr 1) aN))) g_law_greatest_b2)
    (sIf (tB1 (e2 eqD (eB reprB (aC (vr 1) aN)) (vr 4))) sBk sSkip)))
noncomputable def g_law_greatest : ST :=
  (sSeq (sSet 1 (eLc (iSeq (e2 ixD (vr 0) (cn (.int 1)))) (.n 2) [2] yes (eLRg1 (cn (.int 16)))))
    (sSeq (sFor (.n 3) (iRg1 (cn (.int 400))) g_law_greatest_b3)
    (sRet (eB tupB (aC (eLc (iSeq (vr 1)) (.n 9) [9] yes (eB tupB (aC (vr 9) aN))) aN)))))
noncomputable def F_law_greatest : FN := fnB 10 1 g_law_greatest
theorem ok_law_greatest (B : Blt K w mg) {f : Addr} {fd : FuncData} (h : DefAt K mg "_law_greatest" s_law_greatest ["code"] f fd) {f0 : Addr} {fd0 : FuncData} (h_law_behind : Keeps P w K mg base 2 "_law_behind" ["code", "r", "member"] F_law_behind f0 fd0) {f1 : Addr} {fd1 : FuncData} (h_law_ways : Keeps P w K mg base 1 "_law_ways" ["code", "r"] F_law_ways f1 fd1) : KeepsG P w K mg base 3 "_law_greatest" ["code"] F_law_greatest f fd :=
  keepsG_of h sc_law_greatest fun cdv A outer s H E hG hr =>
    (ss_cons (c_setLc0 (ps_setLc (i := 1) (own := [("row", 2)]) (g := gT _ (.n 2)) (by rfl) sc_law_greatest.nd rfl rfl (sw_true rfl rfl rfl (by decide +kernel)) (i_seq (s_ix ix_seq o2_ix (s_var (pv 0)) s_int (fun _ _ => rfl))) (blkOk_by (own := [("row", 2)]) (N := ["code", "paper", "row", "turn", "before", "r", "behind", "way", "one", "member"]) (sc := defScope s_law_greatest) (by decide +kernel)) (fun _ _ _ _ _ => (pg_name (i := 2) sc_law_greatest.nd rfl (by first | exact Or.inl rfl | exact Or.inr rfl))) (fun _ _ _ _ _ => pts_nil) (fun _ _ _ _ _ => (s_lrg1 (pe_listRg rfl (by rfl) B.list (prg_1 (by rfl) B.range s_int))))) (by decide))
    (ss_cons (c_for (t := (.n 3)) (ps_for PassesOwn.never rfl (i_rg1 (pi_range1 (by rfl) B.range (a_cons s_int a_nil))) (pg_name (i := 3) sc_law_greatest.nd rfl (by first | exact Or.inl rfl | exact Or.inr rfl)) (ss_cons (c_set (ps_set (i := 4) sc_law_greatest.nd rfl (by first | exact Or.inl rfl | exact Or.inr rfl) (s_blt (pe_callB (call_repr hG hr) (by rfl) B.repr (by decide +kernel) (a_cons (s_var (pv 1)) a_nil)) on_repr)))
    (ss_cons (c_for (t := (.n 5)) (ps_for PassesOwn.never rfl (i_rg1 (pi_range1 (by rfl) B.range (a_cons (s_blt (pe_callB call_lenA (by rfl) B.len (by decide +kernel) (a_cons (s_var (pv 1)) a_nil)) on_len) a_nil))) (pg_name (i := 5) sc_law_greatest.nd rfl (by first | exact Or.inl rfl | exact Or.inr rfl)) (ss_cons (c_set (ps_set (i := 6) sc_law_greatest.nd rfl (by first | exact Or.inl rfl | exact Or.inr rfl) (s_own h_law_behind (by decide) hr rfl (by rfl) (a_cons (s_var (pv 0)) (a_cons (s_var (pv 5)) (a_cons (s_ix ix_seq o2_ix (s_var (pv 1)) (s_var (pv 5)) (fun _ _ => rfl)) a_nil))))))
    (ss_one (c_for (t := (.n 7)) (ps_for PassesOwn.never rfl (i_seq (s_own h_law_ways (by decide) hr rfl (by rfl) (a_cons (s_var (pv 0)) (a_cons (s_var (pv 5)) a_nil)))) (pg_name (i := 7) sc_law_greatest.nd rfl (by first | exact Or.inl rfl | exact Or.inr rfl)) (ss_one (c_lput (ps_asg (s_lc (pe_lc (own := [("one", 8)]) (g := gT _ (.n 8)) (by rfl) sc_law_greatest.nd (i_seq (s_ix ix_seq o2_ix (s_var (pv 1)) (s_var (pv 7)) (fun _ _ => rfl))) (blkOk_by (own := [("one", 8)]) (N := ["code", "paper", "row", "turn", "before", "r", "behind", "way", "one", "member"]) (sc := defScope s_law_greatest) (by decide +kernel)) (fun _ _ _ _ _ => (pg_name (i := 8) sc_law_greatest.nd rfl (by first | exact Or.inl rfl | exact Or.inr rfl))) (fun _ _ _ _ _ => pts_one (t_cmp op_in_seq (o2_in (neg := false)) (s_var (pv 8)) (s_var (pv 6)) (by rfl))) (fun _ _ _ _ _ => (s_var (pv 8)))) (by decide)) (pg_sub (s_var (pv 1)) (s_var (pv 7)) set_list))))))))))
    (ss_one (c_if (ps_if (t_cmp (op_eqA hr.units) o2_eq (s_blt (pe_callB (call_repr hG hr) (by rfl) B.repr (by decide +kernel) (a_cons (s_var (pv 1)) a_nil)) on_repr) (s_var (pv 4)) (nomark _)) (ss_one (c_bk ps_break)) ss_nil)))))))
    (ss_one (c_ret (ps_ret (s_blt (pe_callTy call_tuple_of (by rfl) B.tuple (by decide +kernel) (a_cons (s_lc0 (pe_lc (own := [("member", 9)]) (g := gT _ (.n 9)) (by rfl) sc_law_greatest.nd (i_seq (s_var (pv 1))) (blkOk_by (own := [("member", 9)]) (N := ["code", "paper", "row", "turn", "before", "r", "behind", "way", "one", "member"]) (sc := defScope s_law_greatest) (by decide +kernel)) (fun _ _ _ _ _ => (pg_name (i := 9) sc_law_greatest.nd rfl (by first | exact Or.inl rfl | exact Or.inr rfl))) (fun _ _ _ _ _ => pts_nil) (fun _ _ _ _ _ => (s_blt (pe_callTy call_tuple_of (by rfl) B.tuple (by decide +kernel) (a_cons (s_var (pv 9)) a_nil)) on_tup))) (by decide)) a_nil)) on_tup))))))
abbrev s_law_is_member : Stmt := topS 20
theorem sc_law_is_member : FnScope ["thing", "one"] ["thing"] (defScope s_law_is_member) := ⟨rfl, rfl, rfl, by decide +kernel, rfl, by decide +kernel, by decide +kernel⟩
noncomputable def g_law_is_member_b1 : ST :=
  (sIf (tO (tNo (tTl (eB isiB (aC (vr 1) (aC (cn (.ty "int")) aN))))) (tO (tTl (eB isiB (aC (vr 1) (aC (cn (.ty "bool")) aN)))) (tO (tB1 (e2 ltD (vr 1) (cn (.int 0)))) (tB1 (e2 gtD (vr 1) (cn (.int 15))))))) (sRet (cn (.bl false))) sSkip)
noncomputable def g_law_is_member : ST :=
  (sSeq (sIf (tNo (tTl (eB isiB (aC (vr 0) (aC (cn (.ty "tuple")) aN))))) (sRet (cn (.bl false))) sSkip)
    (sSeq (sFor (.n 1) (iSeq (vr 0)) g_law_is_member_b1)
    (sRet (eAn (e2 eqD (eB lstB (aC (vr 0) aN)) (eB sortTB (aC (vr 0) aN))) (e2 eqD (eB lenB (aC (eLc (iRg1 (cn (.int 16))) (.n 1) [1] (tB1 (e2 (inD false) (vr 1) (vr 0))) (vr 1)) aN)) (eB lenB (aC (vr 0) aN)))))))
noncomputable def F_law_is_member : FN := fnB 2 1 g_law_is_member
theorem ok_law_is_member (B : Blt K w mg) {f : Addr} {fd : FuncData} (h : DefAt K mg "_law_is_member" s_law_is_member ["thing"] f fd)  : Keeps P w K mg base 1 "_law_is_member" ["thing"] F_law_is_member f fd :=
  keeps_of h sc_law_is_member fun cdv A outer s H E hr =>
    (ss_cons (c_if (ps_if (t_not (t_truth (s_blt (pe_callB call_isi (by rfl) B.isinstance (by decide +kernel) (a_cons (s_var (pv 0)) (a_cons (s_ty (by rfl) B.tuple (by decide +kernel)) a_nil))) on_isi))) (ss_one (c_ret (ps_ret s_bl))) ss_nil))
    (ss_cons (c_for (t := (.n 1)) (ps_for PassesOwn.never rfl (i_seq (s_var (pv 0))) (pg_name (i := 1) sc_law_is_member.nd rfl (by first | exact Or.inl rfl | exact Or.inr rfl)) (ss_one (c_if (ps_if (PW.pt (t_or (t_not (t_truth (s_blt (pe_callB call_isi (by rfl) B.isinstance (by decide +kernel) (a_cons (s_var (pv 1)) (a_cons (s_ty (by rfl) B.int (by decide +kernel)) a_nil))) on_isi))) (t_or (t_truth (s_blt (pe_callB call_isi (by rfl) B.isinstance (by decide +kernel) (a_cons (s_var (pv 1)) (a_cons (s_ty (by rfl) B.bool (by decide +kernel)) a_nil))) on_isi)) (t_or (t_cmp op_lt o2_lt (s_var (pv 1)) s_int (nomark _)) (t_or1 (t_cmp op_gt o2_gt (s_var (pv 1)) s_int (nomark _))))))) (ss_one (c_ret (ps_ret s_bl))) ss_nil)))))
    (ss_one (c_ret (ps_ret (s_and (s_cmp (op_eqA hr.units) o2_eq (s_blt (pe_callTy call_list_of (by rfl) B.list (by decide +kernel) (a_cons (s_var (pv 0)) a_nil)) on_lst) (s_blt (pe_callB call_sortedTI (by rfl) B.sorted (by decide +kernel) (a_cons (s_var (pv 0)) a_nil)) on_sortT) (nomark _)) (s_one (s_cmp (op_eqA hr.units) o2_eq (s_blt (pe_callB call_lenA (by rfl) B.len (by decide +kernel) (a_cons (s_lc (pe_lc (own := [("one", 1)]) (g := gT _ (.n 1)) (by rfl) sc_law_is_member.nd (i_rg1 (pi_range1 (by rfl) B.range (a_cons s_int a_nil))) (blkOk_by (own := [("one", 1)]) (N := ["thing", "one"]) (sc := defScope s_law_is_member) (by decide +kernel)) (fun _ _ _ _ _ => (pg_name (i := 1) sc_law_is_member.nd rfl (by first | exact Or.inl rfl | exact Or.inr rfl))) (fun _ _ _ _ _ => pts_one (t_cmp op_in_seq (o2_in (neg := false)) (s_var (pv 1)) (s_var (pv 0)) (by rfl))) (fun _ _ _ _ _ => (s_var (pv 1)))) (by decide)) a_nil)) on_len) (s_blt (pe_callB call_lenA (by rfl) B.len (by decide +kernel) (a_cons (s_var (pv 0)) a_nil)) on_len) (nomark _)))))))))
abbrev s_law_holds : Stmt := topS 21
theorem sc_law_holds : FnScope ["code", "paper", "member", "r", "behind", "way", "one"] ["code", "paper"] (defScope s_law_holds) := ⟨rfl, rfl, rfl, by decide +kernel, rfl, by decide +kernel, by decide +kernel⟩
noncomputable def g_law_holds_b1 : ST :=
  (sIf (tB1 (e2 neD (eLc (iSeq (e2 ixD (vr 1) (vr 5))) (.n 6) [6] (tB1 (e2 (inD true) (vr 6) (vr 4))) (vr 6)) (eLst aN))) (sRet (cn (.bl false))) sSkip)
noncomputable def g_law_holds_b2 : ST :=
  (sSeq (sSet 4 (eCall 3 F_law_behind (aC (vr 0) (aC (vr 3) (aC (e2 ixD (vr 1) (vr 3)) aN)))))
    (sFor (.n 5) (iSeq (eCall 2 F_law_ways (aC (vr 0) (aC (vr 3) aN)))) g_law_holds_b1))
noncomputable def g_law_holds : ST :=
  (sSeq (sIf (tO (tNo (tTl (eB isiB (aC (vr 1) (aC (cn (.ty "tuple")) aN))))) (tB1 (e2 neD (eB lenB (aC (vr 1) aN)) (eB lenB (aC (e2 ixD (vr 0) (cn (.int 1))) aN))))) (sRet (cn (.bl false))) sSkip)
    (sSeq (sIf (tB1 (e2 neD (eLc (iSeq (vr 1)) (.n 2) [2] (tNo (tTl (eCall 1 F_law_is_member (aC (vr 2) aN)))) (vr 2)) (eLst aN))) (sRet (cn (.bl false))) sSkip)
    (sSeq (sFor (.n 3) (iRg1 (eB lenB (aC (vr 1) aN))) g_law_holds_b2)
    (sRet (cn (.bl true))))))
noncomputable def F_law_holds : FN := fnB 7 2 g_law_holds
theorem ok_law_holds (B : Blt K w mg) {f : Addr} {fd : FuncData} (h : DefAt K mg "_law_holds" s_law_holds ["code", "paper"] f fd) {f0 : Addr} {fd0 : FuncData} (h_law_is_member : Keeps P w K mg base 1 "_law_is_member" ["thing"] F_law_is_member f0 fd0) {f1 : Addr} {fd1 : FuncData} (h_law_behind : Keeps P w K mg base 2 "_law_behind" ["code", "r", "member"] F_law_behind f1 fd1) {f2 : Addr} {fd2 : FuncData} (h_law_ways : Keeps P w K mg base 1 "_law_ways" ["code", "r"] F_law_ways f2 fd2) : Keeps P w K mg base 3 "_law_holds" ["code", "paper"] F_law_holds f fd :=
  keeps_of h sc_law_holds fun cdv A outer s H E hr =>
    (ss_cons (c_if (ps_if (PW.pt (t_or (t_not (t_truth (s_blt (pe_callB call_isi (by rfl) B.isinstance (by decide +kernel) (a_cons (s_var (pv 1)) (a_cons (s_ty (by rfl) B.tuple (by decide +kernel)) a_nil))) on_isi))) (t_or1 (t_cmp (op_neA hr.units) o2_ne (s_blt (pe_callB call_lenA (by rfl) B.len (by decide +kernel) (a_cons (s_var (pv 1)) a_nil)) on_len) (s_blt (pe_callB call_lenA (by rfl) B.len (by decide +kernel) (a_cons (s_ix ix_seq o2_ix (s_var (pv 0)) s_int (fun _ _ => rfl)) a_nil)) on_len) (nomark _))))) (ss_one (c_ret (ps_ret s_bl))) ss_nil))
    (ss_cons (c_if (ps_if (t_cmp (op_neA hr.units) o2_ne (s_lc (pe_lc (own := [("member", 2)]) (g := gT _ (.n 2)) (by rfl) sc_law_holds.nd (i_seq (s_var (pv 1))) (blkOk_by (own := [("member", 2)]) (N := ["code", "paper", "member", "r", "behind", "way", "one"]) (sc := defScope s_law_holds) (by decide +kernel)) (fun _ _ _ _ _ => (pg_name (i := 2) sc_law_holds.nd rfl (by first | exact Or.inl rfl | exact Or.inr rfl))) (fun _ _ _ _ _ => pts_one (t_not (t_truth (s_own h_law_is_member (by decide) hr rfl (by rfl) (a_cons (s_var (pv 2)) a_nil))))) (fun _ _ _ _ _ => (s_var (pv 2)))) (by decide)) (s_lst a_nil) (nomark _)) (ss_one (c_ret (ps_ret s_bl))) ss_nil))
    (ss_cons (c_for (t := (.n 3)) (ps_for PassesOwn.never rfl (i_rg1 (pi_range1 (by rfl) B.range (a_cons (s_blt (pe_callB call_lenA (by rfl) B.len (by decide +kernel) (a_cons (s_var (pv 1)) a_nil)) on_len) a_nil))) (pg_name (i := 3) sc_law_holds.nd rfl (by first | exact Or.inl rfl | exact Or.inr rfl)) (ss_cons (c_set (ps_set (i := 4) sc_law_holds.nd rfl (by first | exact Or.inl rfl | exact Or.inr rfl) (s_own h_law_behind (by decide) hr rfl (by rfl) (a_cons (s_var (pv 0)) (a_cons (s_var (pv 3)) (a_cons (s_ix ix_seq o2_ix (s_var (pv 1)) (s_var (pv 3)) (fun _ _ => rfl)) a_nil))))))
    (ss_one (c_for (t := (.n 5)) (ps_for PassesOwn.never rfl (i_seq (s_own h_law_ways (by decide) hr rfl (by rfl) (a_cons (s_var (pv 0)) (a_cons (s_var (pv 3)) a_nil)))) (pg_name (i := 5) sc_law_holds.nd rfl (by first | exact Or.inl rfl | exact Or.inr rfl)) (ss_one (c_if (ps_if (t_cmp (op_neA hr.units) o2_ne (s_lc (pe_lc (own := [("one", 6)]) (g := gT _ (.n 6)) (by rfl) sc_law_holds.nd (i_seq (s_ix ix_seq o2_ix (s_var (pv 1)) (s_var (pv 5)) (fun _ _ => rfl))) (blkOk_by (own := [("one", 6)]) (N := ["code", "paper", "member", "r", "behind", "way", "one"]) (sc := defScope s_law_holds) (by decide +kernel)) (fun _ _ _ _ _ => (pg_name (i := 6) sc_law_holds.nd rfl (by first | exact Or.inl rfl | exact Or.inr rfl))) (fun _ _ _ _ _ => pts_one (t_cmp op_notIn_seq (o2_in (neg := true)) (s_var (pv 6)) (s_var (pv 4)) (by rfl))) (fun _ _ _ _ _ => (s_var (pv 6)))) (by decide)) (s_lst a_nil) (nomark _)) (ss_one (c_ret (ps_ret s_bl))) ss_nil)))))))))
    (ss_one (c_ret (ps_ret s_bl))))))
abbrev s_law_paper : Stmt := topS 22
theorem sc_law_paper : FnScope ["w", "greatest", "paper", "turn", "member", "some", "one", "at", "bad"] ["w", "greatest"] (defScope s_law_paper) := ⟨rfl, rfl, rfl, by decide +kernel, rfl, by decide +kernel, by decide +kernel⟩
noncomputable def g_law_paper_b1 : ST :=
  (sRet (eB tupB (aC (vr 2) aN)))
noncomputable def g_law_paper_b2 : ST :=
  (sSeq (sSet 5 (eLc (iRg1 (cn (.int 16))) (.n 6) [6] (tO (tAn (tB1 (e2 (inD false) (vr 6) (vr 4))) (tO (tB1 (e2 eqD (vr 3) (cn (.int 0)))) (tB1 (e2 gtD (eCall 2 F_law_next (aC (vr 0) (aC (cn (.int 9)) aN))) (cn (.int 0)))))) (tAn (tB1 (e2 eqD (vr 3) (cn (.int 2)))) (tB1 (e2 eqD (eCall 2 F_law_next (aC (vr 0) (aC (cn (.int 20)) aN))) (cn (.int 0)))))) (vr 6)))
    (sEx (eM "list" appM (vr 2) (aC (eB tupB (aC (vr 5) aN)) aN))))
noncomputable def g_law_paper_b3 : ST :=
  (sSeq (sIf (tB1 (e2 eqD (eCall 2 F_law_next (aC (vr 0) (aC (cn (.int 12)) aN))) (cn (.int 0)))) (sSet 2 (eSl (vr 2) (oS (cn (.int 1))) oN)) sSkip)
    g_law_paper_b1)
noncomputable def g_law_paper : ST :=
  (sSeq (sSet 2 (eLst aN))
    (sSeq (sSet 3 (eCall 2 F_law_next (aC (vr 0) (aC (cn (.int 4)) aN))))
    (sSeq (sFor (.n 4) (iSeq (vr 1)) g_law_paper_b2)
    (sSeq (sIf (tB1 (e2 eqD (vr 3) (cn (.int 3)))) (sSeq (sSet 7 (eCall 2 F_law_next (aC (vr 0) (aC (eB lenB (aC (vr 2) aN)) aN))))
    (sSeq (sSet 8 (eLst (aC (cn .non) (aC (eTup (aC (cn (.int 1)) (aC (cn (.int 1)) aN))) (aC (eTup (aC (cn (.int 2)) (aC (cn (.int 1)) aN))) (aC (eTup (aC (cn (.int 16)) aN)) (aC (eTup (aC (eNeg (cn (.int 1))) aN)) (aC (eTup (aC (cn (.bl true)) aN)) (aC (cn (.str "1")) (aC (eTup (aC (cn (.str "1")) aN)) (aC (eTup (aC (eTup aN) aN)) (aC (eTup aN) (aC (eTup (aC (cn (.int 0)) (aC (cn (.bl true)) aN))) (aC (eTup (aC (cn (.int 0)) (aC (cn (.int 16)) aN))) (aC (eTup (aC (cn (.int 0)) (aC (cn (.int 2)) (aC (cn (.int 1)) aN)))) (aC (eTup (aC (cn (.int 0)) (aC (cn (.int 1)) (aC (cn (.int 1)) aN)))) aN))))))))))))))))
    (sSeq (sSet 8 (e2 addD (vr 8) (eLst (aC (eTup (aC (cn (.int 1)) (aC (cn (.str "1")) aN))) (aC (eTup (aC (cn (.str "1")) (aC (cn (.int 2)) aN))) (aC (eTup (aC (cn .non) (aC (cn (.int 0)) aN))) (aC (eTup (aC (cn (.int 0)) (aC (cn .non) aN))) (aC (eTup (aC (eTup aN) (aC (cn (.int 1)) aN))) (aC (eTup (aC (cn (.int 0)) (aC (eTup (aC (cn (.int 1)) aN)) aN))) (aC (eTup (aC (cn (.bl false)) (aC (cn (.int 1)) aN))) (aC (eTup (aC (cn (.int 1)) (aC (eNeg (cn (.int 1))) aN))) aN)))))))))))
    (sLPut (e2 ixD (vr 8) (eCall 2 F_law_next (aC (vr 0) (aC (eB lenB (aC (vr 8) aN)) aN)))) (vr 2) (vr 7))))) sSkip)
    g_law_paper_b3))))
noncomputable def F_law_paper : FN := fnB 9 2 g_law_paper
theorem ok_law_paper (B : Blt K w mg) {f : Addr} {fd : FuncData} (h : DefAt K mg "_law_paper" s_law_paper ["w", "greatest"] f fd) {f0 : Addr} {fd0 : FuncData} (h_law_next : Keeps P w K mg base 1 "_law_next" ["w", "many"] F_law_next f0 fd0) : Keeps P w K mg base 2 "_law_paper" ["w", "greatest"] F_law_paper f fd :=
  keeps_of h sc_law_paper fun cdv A outer s H E hr =>
    (ss_cons (c_set (ps_set (i := 2) sc_law_paper.nd rfl (by first | exact Or.inl rfl | exact Or.inr rfl) (s_lst a_nil)))
    (ss_cons (c_set (ps_set (i := 3) sc_law_paper.nd rfl (by first | exact Or.inl rfl | exact Or.inr rfl) (s_own h_law_next (by decide) hr rfl (by rfl) (a_cons (s_var (pv 0)) (a_cons s_int a_nil)))))
    (ss_cons (c_for (t := (.n 4)) (ps_for PassesOwn.never rfl (i_seq (s_var (pv 1))) (pg_name (i := 4) sc_law_paper.nd rfl (by first | exact Or.inl rfl | exact Or.inr rfl)) (ss_cons (c_setLc (ps_setLc (i := 5) (own := [("one", 6)]) (g := gT _ (.n 6)) (by rfl) sc_law_paper.nd rfl rfl (sw_true rfl rfl rfl (by decide +kernel)) (i_rg1 (pi_range1 (by rfl) B.range (a_cons s_int a_nil))) (blkOk_by (own := [("one", 6)]) (N := ["w", "greatest", "paper", "turn", "member", "some", "one", "at", "bad"]) (sc := defScope s_law_paper) (by decide +kernel)) (fun _ _ _ _ _ => (pg_name (i := 6) sc_law_paper.nd rfl (by first | exact Or.inl rfl | exact Or.inr rfl))) (fun _ _ _ _ _ => pts_one (PW.pt (t_or (PW.pt (t_and (t_cmp op_in_seq (o2_in (neg := false)) (s_var (pv 6)) (s_var (pv 4)) (by rfl)) (t_and1 (PW.pt (t_or (t_cmp (op_eqA hr.units) o2_eq (s_var (pv 3)) s_int (nomark _)) (t_or1 (t_cmp op_gt o2_gt (s_own h_law_next (by decide) hr rfl (by rfl) (a_cons (s_var (pv 0)) (a_cons s_int a_nil))) s_int (nomark _)))))))) (t_or1 (PW.pt (t_and (t_cmp (op_eqA hr.units) o2_eq (s_var (pv 3)) s_int (nomark _)) (t_and1 (t_cmp (op_eqA hr.units) o2_eq (s_own h_law_next (by decide) hr rfl (by rfl) (a_cons (s_var (pv 0)) (a_cons s_int a_nil))) s_int (nomark _))))))))) (fun _ _ _ _ _ => (s_var (pv 6)))) (by decide))
    (ss_one (c_ex (ps_expr (s_meth (pe_bm PySem.F.plainAttrs_list PySem.F.slot_list_append PySem.F.type_list_append mt_append (s_var (pv 2)) (a_cons (s_blt (pe_callTy call_tuple_of (by rfl) B.tuple (by decide +kernel) (a_cons (s_var (pv 5)) a_nil)) on_tup) a_nil)) om_app)))))))
    (ss_cons (c_if (ps_if (t_cmp (op_eqA hr.units) o2_eq (s_var (pv 3)) s_int (nomark _)) (ss_cons (c_set (ps_set (i := 7) sc_law_paper.nd rfl (by first | exact Or.inl rfl | exact Or.inr rfl) (s_own h_law_next (by decide) hr rfl (by rfl) (a_cons (s_var (pv 0)) (a_cons (s_blt (pe_callB call_lenA (by rfl) B.len (by decide +kernel) (a_cons (s_var (pv 2)) a_nil)) on_len) a_nil)))))
    (ss_cons (c_set (ps_set (i := 8) sc_law_paper.nd rfl (by first | exact Or.inl rfl | exact Or.inr rfl) (s_lst (a_cons s_non (a_cons (s_tup (a_cons s_int (a_cons s_int a_nil))) (a_cons (s_tup (a_cons s_int (a_cons s_int a_nil))) (a_cons (s_tup (a_cons s_int a_nil)) (a_cons (s_tup (a_cons (s_neg s_int) a_nil)) (a_cons (s_tup (a_cons s_bl a_nil)) (a_cons s_str (a_cons (s_tup (a_cons s_str a_nil)) (a_cons (s_tup (a_cons (s_tup a_nil) a_nil)) (a_cons (s_tup a_nil) (a_cons (s_tup (a_cons s_int (a_cons s_bl a_nil))) (a_cons (s_tup (a_cons s_int (a_cons s_int a_nil))) (a_cons (s_tup (a_cons s_int (a_cons s_int (a_cons s_int a_nil)))) (a_cons (s_tup (a_cons s_int (a_cons s_int (a_cons s_int a_nil)))) a_nil)))))))))))))))))
    (ss_cons (c_set (ps_set (i := 8) sc_law_paper.nd rfl (by first | exact Or.inl rfl | exact Or.inr rfl) (s_op op_addA o2_add (s_var (pv 8)) (s_lst (a_cons (s_tup (a_cons s_int (a_cons s_str a_nil))) (a_cons (s_tup (a_cons s_str (a_cons s_int a_nil))) (a_cons (s_tup (a_cons s_non (a_cons s_int a_nil))) (a_cons (s_tup (a_cons s_int (a_cons s_non a_nil))) (a_cons (s_tup (a_cons (s_tup a_nil) (a_cons s_int a_nil))) (a_cons (s_tup (a_cons s_int (a_cons (s_tup (a_cons s_int a_nil)) a_nil))) (a_cons (s_tup (a_cons s_bl (a_cons s_int a_nil))) (a_cons (s_tup (a_cons s_int (a_cons (s_neg s_int) a_nil))) a_nil))))))))))))
    (ss_one (c_lput (ps_asg (s_ix ix_seq o2_ix (s_var (pv 8)) (s_own h_law_next (by decide) hr rfl (by rfl) (a_cons (s_var (pv 0)) (a_cons (s_blt (pe_callB call_lenA (by rfl) B.len (by decide +kernel) (a_cons (s_var (pv 8)) a_nil)) on_len) a_nil))) (fun _ _ => rfl)) (pg_sub (s_var (pv 2)) (s_var (pv 7)) set_list))))))) ss_nil))
    (ss_cons (c_if (ps_if (t_cmp (op_eqA hr.units) o2_eq (s_own h_law_next (by decide) hr rfl (by rfl) (a_cons (s_var (pv 0)) (a_cons s_int a_nil))) s_int (nomark _)) (ss_one (c_set (ps_set (i := 2) sc_law_paper.nd rfl (by first | exact Or.inl rfl | exact Or.inr rfl) (s_slice (s_var (pv 2)) (o_some s_int) o_none)))) ss_nil))
    (ss_one (c_ret (ps_ret (s_blt (pe_callTy call_tuple_of (by rfl) B.tuple (by decide +kernel) (a_cons (s_var (pv 2)) a_nil)) on_tup)))))))))
abbrev s_law_plain : Stmt := topS 23
theorem sc_law_plain : FnScope ["told", "due", "one"] ["told", "due"] (defScope s_law_plain) := ⟨rfl, rfl, rfl, by decide +kernel, rfl, by decide +kernel, by decide +kernel⟩
noncomputable def g_law_plain : ST :=
  (sRet (eAn (e2 eqD (vr 0) (vr 1)) (e2 eqD (eLc (iSeq (vr 0)) (.n 2) [2] (tTl (eB isiB (aC (vr 2) (aC (cn (.ty "bool")) aN)))) (vr 2)) (eLst aN))))
noncomputable def F_law_plain : FN := fnB 3 2 g_law_plain
theorem ok_law_plain (B : Blt K w mg) {f : Addr} {fd : FuncData} (h : DefAt K mg "_law_plain" s_law_plain ["told", "due"] f fd)  : Keeps P w K mg base 1 "_law_plain" ["told", "due"] F_law_plain f fd :=
  keeps_of h sc_law_plain fun cdv A outer s H E hr =>
    (ss_one (c_ret (ps_ret (s_and (s_cmp (op_eqA hr.units) o2_eq (s_var (pv 0)) (s_var (pv 1)) (nomark _)) (s_one (s_cmp (op_eqA hr.units) o2_eq (s_lc (pe_lc (own := [("one", 2)]) (g := gT _ (.n 2)) (by rfl) sc_law_plain.nd (i_seq (s_var (pv 0))) (blkOk_by (own := [("one", 2)]) (N := ["told", "due", "one"]) (sc := defScope s_law_plain) (by decide +kernel)) (fun _ _ _ _ _ => (pg_name (i := 2) sc_law_plain.nd rfl (by first | exact Or.inl rfl | exact Or.inr rfl))) (fun _ _ _ _ _ => pts_one (t_truth (s_blt (pe_callB call_isi (by rfl) B.isinstance (by decide +kernel) (a_cons (s_var (pv 2)) (a_cons (s_ty (by rfl) B.bool (by decide +kernel)) a_nil))) on_isi))) (fun _ _ _ _ _ => (s_var (pv 2)))) (by decide)) (s_lst a_nil) (nomark _)))))))
abbrev s_law : Stmt := topS 24
theorem sc_law : FnScope ["script", "w", "code", "greatest", "told", "r", "member", "one", "turn", "paper", "other"] ["script"] (defScope s_law) := ⟨rfl, rfl, rfl, by decide +kernel, rfl, by decide +kernel, by decide +kernel⟩
noncomputable def g_law_b1 : ST :=
  (sSeq (sSet 6 (eB tupB (aC (eLc (iRg1 (cn (.int 16))) (.n 7) [7] (tB1 (e2 eqD (eCall 2 F_law_next (aC (vr 1) (aC (cn (.int 2)) aN))) (cn (.int 0)))) (vr 7)) aN)))
    (sSeq (sIf (tO (tNo (tTl (eCall 2 F_law_plain (aC (e2 ixD (vr 4) (vr 5)) (aC (e2 ixD (vr 3) (vr 5)) aN))))) (tNo (tTl (eCall 2 F_law_plain (aC (eCall 2 F_ways (aC (vr 2) (aC (vr 5) aN))) (aC (eB tupB (aC (eCall 2 F_law_ways (aC (vr 2) (aC (vr 5) aN))) aN)) aN)))))) (sRet (cn (.bl false))) sSkip)
    (sIf (tNo (tTl (eCall 2 F_law_plain (aC (eCall 3 F_public_behind (aC (vr 2) (aC (vr 5) (aC (vr 6) aN)))) (aC (eB tupB (aC (eCall 3 F_law_behind (aC (vr 2) (aC (vr 5) (aC (vr 6) aN)))) aN)) aN))))) (sRet (cn (.bl false))) sSkip)))
noncomputable def g_law_b2 : ST :=
  (sSeq (sSet 9 (eCall 2 F_law_paper (aC (vr 1) (aC (vr 3) aN))))
    (sSeq (sSet 4 (eCall 2 F_holds (aC (vr 2) (aC (vr 9) aN))))
    (sSeq (sIf (tO (tNo (tTl (eB isiB (aC (vr 4) (aC (cn (.ty "bool")) aN))))) (tB1 (e2 neD (vr 4) (eCall 2 F_law_holds (aC (vr 2) (aC (vr 9) aN)))))) (sRet (cn (.bl false))) sSkip)
    (sIf (tAn (tTl (vr 4)) (tB1 (e2 neD (eLc (iRg1 (eB lenB (aC (vr 9) aN))) (.n 5) [5] (tB1 (e2 neD (eLc (iSeq (e2 ixD (vr 9) (vr 5))) (.n 7) [7] (tB1 (e2 (inD true) (vr 7) (e2 ixD (vr 3) (vr 5)))) (vr 7)) (eLst aN))) (vr 5)) (eLst aN)))) (sRet (cn (.bl false))) sSkip))))
noncomputable def g_law_b3 : ST :=
  (sIf (tB1 (e2 isNotD (eCall 2 F_holds (aC (vr 2) (aC (vr 10) aN))) (cn (.bl false)))) (sRet (cn (.bl false))) sSkip)
noncomputable def g_law : ST :=
  (sSeq (sSet 1 (eDct [((cn (.str "draws")), (eCall 2 F_law_draws (aC (vr 0) (aC (cn (.int 1100)) aN)))), ((cn (.str "at")), (cn (.int 0)))]))
    (sSeq (sSet 2 (eCall 1 F_law_code (aC (vr 1) aN)))
    (sSeq (sSet 3 (eCall 1 F_law_greatest (aC (vr 2) aN)))
    (sSeq (sSet 4 (eCall 1 F_greatest_paper (aC (vr 2) aN)))
    (sSeq (sIf (tO (tB1 (e2 neD (vr 4) (vr 3))) (tB1 (e2 isNotD (eCall 2 F_holds (aC (vr 2) (aC (vr 3) aN))) (cn (.bl true))))) (sRet (cn (.bl false))) sSkip)
    (sSeq (sFor (.n 5) (iRg1 (eB lenB (aC (e2 ixD (vr 2) (cn (.int 1))) aN))) g_law_b1)
    (sSeq (sFor (.n 8) (iRg1 (cn (.int 6))) g_law_b2)
    (sSeq (sFor (.n 10) (iSeq (eLst (aC (cn .non) (aC (eTup aN) (aC (cn (.str "paper")) (aC (cn (.int 3)) (aC (cn (.bl true)) (aC (e2 addD (vr 3) (eTup (aC (eTup aN) aN))) aN)))))))) g_law_b3)
    (sRet (cn (.bl true)))))))))))
noncomputable def F_law : FN := fnB 11 1 g_law
theorem ok_law (B : Blt K w mg) {f : Addr} {fd : FuncData} (h : DefAt K mg "law" s_law ["script"] f fd) {f0 : Addr} {fd0 : FuncData} (h_law_draws : Keeps P w K mg base 1 "_law_draws" ["script", "many"] F_law_draws f0 fd0) {f1 : Addr} {fd1 : FuncData} (h_law_code : Keeps P w K mg base 4 "_law_code" ["w"] F_law_code f1 fd1) {f2 : Addr} {fd2 : FuncData} (h_law_greatest : KeepsG P w K mg base 3 "_law_greatest" ["code"] F_law_greatest f2 fd2) {f3 : Addr} {fd3 : FuncData} (h_greatest_paper : Keeps P w K mg base 3 "greatest_paper" ["code"] F_greatest_paper f3 fd3) {f4 : Addr} {fd4 : FuncData} (h_holds : Keeps P w K mg base 3 "holds" ["code", "paper"] F_holds f4 fd4) {f5 : Addr} {fd5 : FuncData} (h_law_next : Keeps P w K mg base 1 "_law_next" ["w", "many"] F_law_next f5 fd5) {f6 : Addr} {fd6 : FuncData} (h_law_plain : Keeps P w K mg base 1 "_law_plain" ["told", "due"] F_law_plain f6 fd6) {f7 : Addr} {fd7 : FuncData} (h_law_ways : Keeps P w K mg base 1 "_law_ways" ["code", "r"] F_law_ways f7 fd7) {f8 : Addr} {fd8 : FuncData} (h_ways : Keeps P w K mg base 1 "ways" ["code", "r"] F_ways f8 fd8) {f9 : Addr} {fd9 : FuncData} (h_law_behind : Keeps P w K mg base 2 "_law_behind" ["code", "r", "member"] F_law_behind f9 fd9) {f10 : Addr} {fd10 : FuncData} (h_public_behind : Keeps P w K mg base 2 "public_behind" ["code", "r", "member"] F_public_behind f10 fd10) {f11 : Addr} {fd11 : FuncData} (h_law_paper : Keeps P w K mg base 2 "_law_paper" ["w", "greatest"] F_law_paper f11 fd11) {f12 : Addr} {fd12 : FuncData} (h_law_holds : Keeps P w K mg base 3 "_law_holds" ["code", "paper"] F_law_holds f12 fd12) : KeepsG P w K mg base 5 "law" ["script"] F_law f fd :=
  keepsG_of h sc_law fun cdv A outer s H E hG hr =>
    (ss_cons (c_set (ps_set (i := 1) sc_law.nd rfl (by first | exact Or.inl rfl | exact Or.inr rfl) (s_dctm (ppm_cons s_str (s_own h_law_draws (by decide) hr rfl (by rfl) (a_cons (s_var (pv 0)) (a_cons s_int a_nil))) (ppm_cons s_str s_int ppm_nil)) (by rfl) (by rfl) (fun z => by cases z) (by decide))))
    (ss_cons (c_set (ps_set (i := 2) sc_law.nd rfl (by first | exact Or.inl rfl | exact Or.inr rfl) (s_own h_law_code (by decide) hr rfl (by rfl) (a_cons (s_var (pv 1)) a_nil))))
    (ss_cons (c_set (ps_set (i := 3) sc_law.nd rfl (by first | exact Or.inl rfl | exact Or.inr rfl) (s_ownG h_law_greatest (by decide) hG hr rfl (by rfl) (a_cons (s_var (pv 2)) a_nil))))
    (ss_cons (c_set (ps_set (i := 4) sc_law.nd rfl (by first | exact Or.inl rfl | exact Or.inr rfl) (s_own h_greatest_paper (by decide) hr rfl (by rfl) (a_cons (s_var (pv 2)) a_nil))))
    (ss_cons (c_if (ps_if (PW.pt (t_or (t_cmp (op_neA hr.units) o2_ne (s_var (pv 4)) (s_var (pv 3)) (nomark _)) (t_or1 (t_cmp op_isNotA o2_isNot (s_own h_holds (by decide) hr rfl (by rfl) (a_cons (s_var (pv 2)) (a_cons (s_var (pv 3)) a_nil))) s_bl (nomark _))))) (ss_one (c_ret (ps_ret s_bl))) ss_nil))
    (ss_cons (c_for (t := (.n 5)) (ps_for PassesOwn.never rfl (i_rg1 (pi_range1 (by rfl) B.range (a_cons (s_blt (pe_callB call_lenA (by rfl) B.len (by decide +kernel) (a_cons (s_ix ix_seq o2_ix (s_var (pv 2)) s_int (fun _ _ => rfl)) a_nil)) on_len) a_nil))) (pg_name (i := 5) sc_law.nd rfl (by first | exact Or.inl rfl | exact Or.inr rfl)) (ss_cons (c_set (ps_set (i := 6) sc_law.nd rfl (by first | exact Or.inl rfl | exact Or.inr rfl) (s_blt (pe_callTy call_tuple_of (by rfl) B.tuple (by decide +kernel) (a_cons (s_lc (pe_lc (own := [("one", 7)]) (g := gT _ (.n 7)) (by rfl) sc_law.nd (i_rg1 (pi_range1 (by rfl) B.range (a_cons s_int a_nil))) (blkOk_by (own := [("one", 7)]) (N := ["script", "w", "code", "greatest", "told", "r", "member", "one", "turn", "paper", "other"]) (sc := defScope s_law) (by decide +kernel)) (fun _ _ _ _ _ => (pg_name (i := 7) sc_law.nd rfl (by first | exact Or.inl rfl | exact Or.inr rfl))) (fun _ _ _ _ _ => pts_one (t_cmp (op_eqA hr.units) o2_eq (s_own h_law_next (by decide) hr rfl (by rfl) (a_cons (s_var (pv 1)) (a_cons s_int a_nil))) s_int (nomark _))) (fun _ _ _ _ _ => (s_var (pv 7)))) (by decide)) a_nil)) on_tup)))
    (ss_cons (c_if (ps_if (PW.pt (t_or (t_not (t_truth (s_own h_law_plain (by decide) hr rfl (by rfl) (a_cons (s_ix ix_seq o2_ix (s_var (pv 4)) (s_var (pv 5)) (fun _ _ => rfl)) (a_cons (s_ix ix_seq o2_ix (s_var (pv 3)) (s_var (pv 5)) (fun _ _ => rfl)) a_nil))))) (t_or1 (t_not (t_truth (s_own h_law_plain (by decide) hr rfl (by rfl) (a_cons (s_own h_ways (by decide) hr rfl (by rfl) (a_cons (s_var (pv 2)) (a_cons (s_var (pv 5)) a_nil))) (a_cons (s_blt (pe_callTy call_tuple_of (by rfl) B.tuple (by decide +kernel) (a_cons (s_own h_law_ways (by decide) hr rfl (by rfl) (a_cons (s_var (pv 2)) (a_cons (s_var (pv 5)) a_nil))) a_nil)) on_tup) a_nil)))))))) (ss_one (c_ret (ps_ret s_bl))) ss_nil))
    (ss_one (c_if (ps_if (t_not (t_truth (s_own h_law_plain (by decide) hr rfl (by rfl) (a_cons (s_own h_public_behind (by decide) hr rfl (by rfl) (a_cons (s_var (pv 2)) (a_cons (s_var (pv 5)) (a_cons (s_var (pv 6)) a_nil)))) (a_cons (s_blt (pe_callTy call_tuple_of (by rfl) B.tuple (by decide +kernel) (a_cons (s_own h_law_behind (by decide) hr rfl (by rfl) (a_cons (s_var (pv 2)) (a_cons (s_var (pv 5)) (a_cons (s_var (pv 6)) a_nil)))) a_nil)) on_tup) a_nil))))) (ss_one (c_ret (ps_ret s_bl))) ss_nil)))))))
    (ss_cons (c_for (t := (.n 8)) (ps_for PassesOwn.never rfl (i_rg1 (pi_range1 (by rfl) B.range (a_cons s_int a_nil))) (pg_name (i := 8) sc_law.nd rfl (by first | exact Or.inl rfl | exact Or.inr rfl)) (ss_cons (c_set (ps_set (i := 9) sc_law.nd rfl (by first | exact Or.inl rfl | exact Or.inr rfl) (s_own h_law_paper (by decide) hr rfl (by rfl) (a_cons (s_var (pv 1)) (a_cons (s_var (pv 3)) a_nil)))))
    (ss_cons (c_set (ps_set (i := 4) sc_law.nd rfl (by first | exact Or.inl rfl | exact Or.inr rfl) (s_own h_holds (by decide) hr rfl (by rfl) (a_cons (s_var (pv 2)) (a_cons (s_var (pv 9)) a_nil)))))
    (ss_cons (c_if (ps_if (PW.pt (t_or (t_not (t_truth (s_blt (pe_callB call_isi (by rfl) B.isinstance (by decide +kernel) (a_cons (s_var (pv 4)) (a_cons (s_ty (by rfl) B.bool (by decide +kernel)) a_nil))) on_isi))) (t_or1 (t_cmp (op_neA hr.units) o2_ne (s_var (pv 4)) (s_own h_law_holds (by decide) hr rfl (by rfl) (a_cons (s_var (pv 2)) (a_cons (s_var (pv 9)) a_nil))) (nomark _))))) (ss_one (c_ret (ps_ret s_bl))) ss_nil))
    (ss_one (c_if (ps_if (PW.pt (t_and (t_truth (s_var (pv 4))) (t_and1 (t_cmp (op_neA hr.units) o2_ne (s_lc (pe_lc (own := [("r", 5)]) (g := gT _ (.n 5)) (by rfl) sc_law.nd (i_rg1 (pi_range1 (by rfl) B.range (a_cons (s_blt (pe_callB call_lenA (by rfl) B.len (by decide +kernel) (a_cons (s_var (pv 9)) a_nil)) on_len) a_nil))) (blkOk_by (own := [("r", 5)]) (N := ["script", "w", "code", "greatest", "told", "r", "member", "one", "turn", "paper", "other"]) (sc := defScope s_law) (by decide +kernel)) (fun _ _ _ _ _ => (pg_name (i := 5) sc_law.nd rfl (by first | exact Or.inl rfl | exact Or.inr rfl))) (fun _ _ _ _ _ => pts_one (t_cmp (op_neA hr.units) o2_ne (s_lc (pe_lc (own := [("one", 7)]) (g := gT _ (.n 7)) (by rfl) sc_law.nd (i_seq (s_ix ix_seq o2_ix (s_var (pv 9)) (s_var (pv 5)) (fun _ _ => rfl))) (blkOk_by (own := [("one", 7)]) (N := ["script", "w", "code", "greatest", "told", "r", "member", "one", "turn", "paper", "other"]) (by kernel_rfl)) (fun _ _ _ _ _ => (pg_name (i := 7) sc_law.nd rfl (by first | exact Or.inl rfl | exact Or.inr rfl))) (fun _ _ _ _ _ => pts_one (t_cmp op_notIn_seq (o2_in (neg := true)) (s_var (pv 7)) (s_ix ix_seq o2_ix (s_var (pv 3)) (s_var (pv 5)) (fun _ _ => rfl)) (by rfl))) (fun _ _ _ _ _ => (s_var (pv 7)))) (by decide)) (s_lst a_nil) (nomark _))) (fun _ _ _ _ _ => (s_var (pv 5)))) (by decide)) (s_lst a_nil) (nomark _))))) (ss_one (c_ret (ps_ret s_bl))) ss_nil))))))))
    (ss_cons (c_for (t := (.n 10)) (ps_for PassesOwn.never rfl (i_seq (s_lst (a_cons s_non (a_cons (s_tup a_nil) (a_cons s_str (a_cons s_int (a_cons s_bl (a_cons (s_op op_addA o2_add (s_var (pv 3)) (s_tup (a_cons (s_tup a_nil) a_nil))) a_nil)))))))) (pg_name (i := 10) sc_law.nd rfl (by first | exact Or.inl rfl | exact Or.inr rfl)) (ss_one (c_if (ps_if (t_cmp op_isNotA o2_isNot (s_own h_holds (by decide) hr rfl (by rfl) (a_cons (s_var (pv 2)) (a_cons (s_var (pv 10)) a_nil))) s_bl (nomark _)) (ss_one (c_ret (ps_ret s_bl))) ss_nil)))))
    (ss_one (c_ret (ps_ret s_bl)))))))))))
end
end My

set_option Elab.async false
set_option linter.all false
set_option maxRecDepth 100000
set_option maxHeartbeats 4000000
namespace My
open PySem PySem.Spec PyProof.Rows L2 Mi
local macro_rules | `(tactic| walk_at "mi") => `(tactic| try simp only [↓w_vr, ↓w_cn, ↓w_e2, ↓w_tup, ↓w_lst, ↓w_aN, ↓w_aC, ↓w_call, ↓w_B, ↓w_M, ↓w_oN, ↓w_oS, ↓w_sl, ↓w_B1, ↓w_Tl, ↓w_An, ↓w_Or, ↓w_No, ↓w_eAn, ↓w_eO, ↓w_eNo, ↓w_eNeg, ↓w_eIf, ↓w_ch, ↓w_Dn, ↓w_lRg1, ↓w_trg1, ↓w_yes, ↓ws_forS, ↓ws_forG, ↓w_lcS, ↓w_lcG, ↓w_dcS, ↓w_dcG, items_tup, items_rol, ↓ws_seq, ↓ws_skip, ↓ws_set, ↓ws_ex, ↓ws_ret, ↓ws_retN, ↓ws_bk, ↓ws_ct, ↓ws_if, ↓ws_asg, ↓ws_dput, ↓ws_daug, ↓ws_lput, ↓ws_aug, ↓wp_some, ↓wp_none, ↓wp_if, ↓wp_map, ↓wf_ok, ↓asI_int, ↓asBl_bl,
  List.getElem?_cons_zero, List.getElem?_cons_succ, List.set_cons_zero, List.set_cons_succ, opI_int, addD_int, mulD_int, intB_int, intB_bl, absB_int, lenB_rol, lenB_tup, ixD_rol, ixD_tup, atI0, atI1, atI2, atI3, atI4, asgT_n, tyQ, appQ, slQ, slD_tup, wipeE, List.length_cons, List.length_nil, List.length_map, true_and, and_true, decide_true, ↓reduceIte, bl_t, List.map_cons, List.map_nil, List.cons_append, List.nil_append, List.replicate_succ, List.replicate_zero, Nat.reduceAdd, Nat.reduceLeDiff, Int.reduceLT, Int.reduceLE, Int.reduceNeg, Int.reduceSub, eqD_str, eqD_int, neD_int, ofStr_eq, String.reduceEq, decide_false, decide_true, in_tupS, in_tints, flatD_str, flatD_int, List.all_cons, List.all_nil, List.any_cons, List.any_nil, eqF_str, Bool.and_true, Bool.and_self, Bool.or_false, Bool.or_true, Bool.true_or, Bool.false_or, Bool.false_eq_true, Bool.not_true, Bool.not_false, in_top, ixD_top, tupB_top, items_top, lenB_top, tru_bl, asgT_2, asgT_3, ↓w_pN, ↓w_pC, ↓w_Dct, ixD_tup, Int.cast_ofNat_Int, Int.reduceEq, ↓w_DGet2, ↓w_callV, ↓ws_laug, neD_str, ↓ws_forG2, lstB_tup, eqD_bl, neD_bl, isD_non, isD_ref, isD_tup, isD_int, isD_str, isD_bl, isNotD_non, isNotD_ref, isNotD_tup, isNotD_int, isNotD_str, isNotD_bl, isiT_tup, isiT_int, isiT_str, isiT_bl, isiT_non, ↓w_lcG2, ↓ws_forZ, ↓w_lcZ, asT_tup, addI_int, gtD_int, isi_tup_tuple, isi_tup_str, isi_tup_int, isi_tup_bool, isi_tup_list, isi_str_tuple, isi_str_str, isi_str_int, isi_str_bool, isi_str_list, isi_int_tuple, isi_int_str, isi_int_int, isi_int_bool, isi_int_list, isi_bl_tuple, isi_bl_str, isi_bl_int, isi_bl_bool, isi_bl_list, isi_non_tuple, isi_non_str, isi_non_int, isi_non_bool, isi_non_list])

/-! ### machine code and papers -/
def lab (b : Bool) : Str := if b then "secret" else "public"
structure Rg where
  base : Int
  size : Int
  sec : Bool
def Rg.enc (g : Rg) : D := .tup [.int g.base, .int g.size, .str (lab g.sec)]
inductive MR where
  | const (d n : Int) | op (g : Str) (d a b : Int) | select (d c a b : Int) | load (d a base mask : Int) | store (a base mask b : Int)
  | out (a : Int) | branch (a t : Int) | jump (t : Int) | stop (a : Int)
def MR.enc : MR → D
  | .const d n => .tup [.str "const", .int d, .int n]
  | .op g d a b => .tup [.str "op", .str g, .int d, .int a, .int b]
  | .select d c a b => .tup [.str "select", .int d, .int c, .int a, .int b]
  | .load d a x y => .tup [.str "load", .int d, .int a, .int x, .int y]
  | .store a x y b => .tup [.str "store", .int a, .int x, .int y, .int b]
  | .out a => .tup [.str "out", .int a]
  | .branch a t => .tup [.str "branch", .int a, .int t]
  | .jump t => .tup [.str "jump", .int t]
  | .stop a => .tup [.str "stop", .int a]
structure MC where
  regs : List Rg
  rows : List MR
def MC.enc (c : MC) : D := .tup [.tup (c.regs.map Rg.enc), .tup (c.rows.map MR.enc)]
abbrev R16 (x : Int) : Prop := 0 ≤ x ∧ x < 16
/-- a row that may stand at r among n -/
def MR.Ok (n : Nat) (r : Nat) : MR → Prop
  | .const d _ => R16 d ∧ r + 1 < n
  | .op _ d a b => R16 d ∧ R16 a ∧ R16 b ∧ r + 1 < n
  | .select d c a b => R16 d ∧ R16 c ∧ R16 a ∧ R16 b ∧ r + 1 < n
  | .load d a _ _ => R16 d ∧ R16 a ∧ r + 1 < n
  | .store a _ _ b => R16 a ∧ R16 b ∧ r + 1 < n
  | .out a => R16 a ∧ r + 1 < n
  | .branch a t => R16 a ∧ (0 ≤ t ∧ t < n) ∧ r + 1 < n
  | .jump t => 0 ≤ t ∧ t < n
  | .stop a => R16 a
structure MC.Ok (c : MC) : Prop where
  n1 : 1 ≤ c.rows.length
  n2 : c.rows.length ≤ 3000
  g1 : c.regs.length ≤ 1000
  row : ∀ (r : Nat) (m : MR), c.rows[r]? = some m → m.Ok c.rows.length r
/-- the region of a span -/
def MC.region (c : MC) (x y : Int) : Option Rg := c.regs.find? fun g => decide (g.base ≤ x) && decide (x + y < g.base + g.size)
def optRg : Option Rg → D
  | none => .non
  | some g => g.enc
def isPub : Option Rg → Bool
  | none => false
  | some g => !g.sec
def A16 : List Int := [0, 1, 2, 3, 4, 5, 6, 7, 8, 9, 10, 11, 12, 13, 14, 15]
theorem mem16 {x : Int} : x ∈ A16 ↔ R16 x := by
  unfold A16 R16
  simp only [List.mem_cons, List.not_mem_nil, or_false]
  omega
/-- the ascending list of registers with a property -/
def cmf (p : Int → Bool) : List Int := A16.filter p
def Can (L : List Int) : Prop := L = cmf fun x => decide (x ∈ L)
theorem mem_cmf {p : Int → Bool} {x : Int} : x ∈ cmf p ↔ R16 x ∧ p x = true := by unfold cmf; rw [List.mem_filter, mem16]
theorem can_cmf (p : Int → Bool) : Can (cmf p) := by
  unfold Can cmf
  refine List.filter_congr fun x hx => ?_
  rw [Bool.eq_iff_iff, decide_eq_true_iff, List.mem_filter]
  exact ⟨fun h => ⟨hx, h⟩, fun h => h.2⟩
theorem Can.mem {L : List Int} (h : Can L) {x : Int} (hx : x ∈ L) : R16 x := by rw [h] at hx; exact (mem_cmf.mp hx).1
theorem cmf_congr {p q : Int → Bool} (h : ∀ x, R16 x → p x = q x) : cmf p = cmf q := List.filter_congr fun x hx => h x (mem16.mp hx)
theorem can_eq {L M : List Int} (h : Can L) (h' : Can M) (e : ∀ x, x ∈ L ↔ x ∈ M) : L = M := by
  rw [h, h']
  exact cmf_congr fun x _ => by rw [Bool.eq_iff_iff, decide_eq_true_iff, decide_eq_true_iff]; exact e x
theorem A16_len : A16.length = 16 := rfl
theorem cmf_len (p : Int → Bool) : (cmf p).length ≤ 16 := List.length_filter_le p A16
theorem Can.len {L : List Int} (h : Can L) : L.length ≤ 16 := by rw [h]; exact cmf_len _
theorem cmf_sorted (p : Int → Bool) : (cmf p).Pairwise (· < ·) := List.Pairwise.filter _ (by decide)
theorem cmf_nodup (p : Int → Bool) : (cmf p).Nodup := (cmf_sorted p).imp fun h => by omega
theorem can_filter {L : List Int} (h : Can L) (q : Int → Bool) : L.filter q = cmf fun x => decide (x ∈ L) && q x := by
  conv => lhs; rw [h]
  unfold cmf
  rw [List.filter_filter]
  refine List.filter_congr fun x _ => ?_
  rw [Bool.and_comm]
/-- sorting what was made of a member -/
theorem sort_cmf {L : List Int} {p : Int → Bool} (hn : L.Nodup) (h : ∀ x, x ∈ L ↔ R16 x ∧ p x = true) : sortI L = cmf p := by
  refine (sort_uniq ((List.perm_ext_iff_of_nodup (cmf_nodup p) hn).mpr fun x => ?_) ((cmf_sorted p).imp fun h => by omega)).symm
  rw [mem_cmf, h]
/-- the register that a row writes, and whether it is public then -/
def MR.wr : MR → Option Int
  | .const d _ => some d
  | .op _ d _ _ => some d
  | .select d _ _ _ => some d
  | .load d _ _ _ => some d
  | _ => none
def pubW (c : MC) (L : List Int) : MR → Bool
  | .const _ _ => true
  | .op _ _ a b => decide (a ∈ L) && decide (b ∈ L)
  | .select _ c a b => decide (c ∈ L) && (decide (a ∈ L) && decide (b ∈ L))
  | .load _ _ x y => isPub (c.region x y)
  | _ => true
def behR (c : MC) (m : MR) (L : List Int) : List Int := cmf fun x => match m.wr with
  | some d => if x = d then pubW c L m else decide (x ∈ L)
  | none => decide (x ∈ L)
def nextR (r : Nat) : MR → List Int
  | .stop _ => []
  | .jump t => [t]
  | .branch _ t => if t = (r : Int) + 1 then [(r : Int) + 1] else if t < (r : Int) + 1 then [t, (r : Int) + 1] else [(r : Int) + 1, t]
  | _ => [(r : Int) + 1]
theorem behR_can (c : MC) (m : MR) (L : List Int) : Can (behR c m L) := can_cmf _
theorem nextR_ok {n r : Nat} {m : MR} (h : m.Ok n r) : ∀ t ∈ nextR r m, 0 ≤ t ∧ t < n := by
  intro t ht
  cases m <;> simp only [nextR, MR.Ok] at ht h
  case jump t' => rw [List.mem_singleton.mp ht]; exact h
  case stop => cases ht
  case branch a u =>
    split at ht
    · rw [List.mem_singleton.mp ht]; omega
    · split at ht
      · rcases List.mem_cons.mp ht with rfl | ht
        · exact h.2.1
        · rw [List.mem_singleton.mp ht]; omega
      · rcases List.mem_cons.mp ht with rfl | ht
        · omega
        · rw [List.mem_singleton.mp ht]; exact h.2.1
  all_goals (rw [List.mem_singleton.mp ht]; omega)
theorem code_ix0 {c : MC} {s : S} : ixD c.enc (.int 0) s = some (.tup (c.regs.map Rg.enc), s) := by
  unfold MC.enc
  rw [ixD_tup, atI0]; rfl
theorem code_ix1 {c : MC} {s : S} : ixD c.enc (.int 1) s = some (.tup (c.rows.map MR.enc), s) := by
  unfold MC.enc
  rw [ixD_tup, atI1]; rfl
theorem region_ok {c : MC} {x y : Int} {s : S} {Q : D → S → Prop} (k : Q (optRg (c.region x y)) s) : WF (F_region_of [c.enc, .int x, .int y] s) Q := by
  unfold F_region_of
  refine (wf_fn (by rfl)).mpr ?_
  unfold g_region_of MC.enc
  walk_at "mi"
  refine fs_tup (fun i env st => st = s ∧ (∃ x3, env = [some (.tup [.tup (c.regs.map Rg.enc), .tup (c.rows.map MR.enc)]), some (.int x), some (.int y), x3]) ∧ c.region x y = (c.regs.drop i).find? fun g => decide (g.base ≤ x) && decide (x + y < g.base + g.size)) ⟨rfl, ⟨_, rfl⟩, rfl⟩ ?_ ?_
  · rintro i d env st hi ⟨rfl, ⟨x3, rfl⟩, hf⟩
    rw [List.getElem?_map] at hi
    cases hg : c.regs[i]? with
    | none => rw [hg] at hi; cases hi
    | some g =>
      rw [hg] at hi; cases hi
      rw [asgT_n, wp_some]
      unfold g_region_of_b1 Rg.enc
      walk_at "mi"
      have hd : c.regs.drop i = g :: c.regs.drop (i + 1) := by
        rw [List.drop_eq_getElem_cons (List.getElem?_eq_some_iff.mp hg).1, (List.getElem?_eq_some_iff.mp hg).2]
      rw [hd, List.find?_cons] at hf
      by_cases c1 : g.base ≤ x
      · simp only [c1, ↓reduceIte]
        by_cases c2 : x + y < g.base + g.size
        · simp only [c2, ↓reduceIte]
          rw [decide_eq_true c1, decide_eq_true c2] at hf
          rw [show c.region x y = some g from hf] at k
          exact k
        · simp only [c2, ↓reduceIte]
          rw [decide_eq_true c1, decide_eq_false c2] at hf
          exact ⟨⟨_, rfl⟩, hf⟩
      · simp only [c1, ↓reduceIte]
        rw [decide_eq_false c1] at hf
        exact ⟨⟨_, rfl⟩, by simpa using hf⟩
  · rintro env st ⟨rfl, ⟨x3, rfl⟩, hf⟩
    rw [List.length_map, List.drop_length] at hf
    have hf : c.region x y = none := hf
    rw [hf] at k
    walk_at "mi"
    exact k
theorem ways_ok {c : MC} {r : Nat} {m : MR} {s : S} {Q : D → S → Prop} (hm : c.rows[r]? = some m) (k : ∀ s', Gr s s' → Q (.tup ((nextR r m).map D.int)) s') : WF (F_ways [c.enc, .int (r : Int)] s) Q := by
  unfold F_ways
  refine (wf_fn (by rfl)).mpr ?_
  unfold g_ways MC.enc
  have hix : atI (c.rows.map MR.enc) (r : Int) = some m.enc := atI_nat' (by rw [List.getElem?_map, hm]; rfl)
  walk_at "mi"
  rw [hix]
  walk_at "mi"
  cases m with
  | branch a t =>
    unfold MR.enc
    walk_at "mi"
    have e : keyed [(D.int ((r : Int) + 1), D.bl true), (D.int t, D.bl true)] = some ([(Sum.inl ((r : Int) + 1), D.bl true), (Sum.inl t, D.bl true)] : List (Key × D)) := rfl
    rw [e]
    walk_at "mi"
    by_cases c1 : t = (r : Int) + 1
    · have e2 : mergeD [] ([(Sum.inl ((r : Int) + 1), D.bl true), (Sum.inl t, D.bl true)] : List (Key × D)) = keysL [(r : Int) + 1] := by
        subst c1
        show putD (keysL [(r : Int) + 1]) (Sum.inl ((r : Int) + 1)) (D.bl true) = _
        rw [put_keys]; unfold addL; simp
      rw [e2, sortD_L top_get (by simp)]
      walk_at "mi"
      rw [show sortI [(r : Int) + 1] = [(r : Int) + 1] from sort_one]
      have en : nextR r (.branch a t) = [(r : Int) + 1] := by simp only [nextR, c1, ↓reduceIte]
      rw [en] at k
      exact k _ ((Gr.app _ _).trans (Gr.app _ _))
    · have e2 : mergeD [] ([(Sum.inl ((r : Int) + 1), D.bl true), (Sum.inl t, D.bl true)] : List (Key × D)) = keysL [(r : Int) + 1, t] := by
        show putD (keysL [(r : Int) + 1]) (Sum.inl t) (D.bl true) = _
        rw [put_keys]; unfold addL; rw [if_neg (by simpa using c1)]; rfl
      rw [e2, sortD_L top_get (by simp)]
      walk_at "mi"
      have hs : sortI [(r : Int) + 1, t] = if t < (r : Int) + 1 then [t, (r : Int) + 1] else [(r : Int) + 1, t] := by
        split
        · exact (sort_uniq (List.Perm.swap _ _ _) (by simp; omega)).symm
        · exact (sort_uniq (List.Perm.refl _) (by simp; omega)).symm
      rw [hs]
      have en : nextR r (.branch a t) = if t < (r : Int) + 1 then [t, (r : Int) + 1] else [(r : Int) + 1, t] := by simp only [nextR, c1, ↓reduceIte]
      rw [en] at k
      exact k _ ((Gr.app _ _).trans (Gr.app _ _))
  | _ =>
    unfold MR.enc
    walk_at "mi"
    exact k _ (Gr.refl _)
end My

set_option Elab.async false
set_option linter.all false
set_option maxRecDepth 100000
set_option maxHeartbeats 4000000
namespace My
open PySem PySem.Spec PyProof.Rows L2 Mi
local macro_rules | `(tactic| walk_at "mi") => `(tactic| try simp only [↓w_vr, ↓w_cn, ↓w_e2, ↓w_tup, ↓w_lst, ↓w_aN, ↓w_aC, ↓w_call, ↓w_B, ↓w_M, ↓w_oN, ↓w_oS, ↓w_sl, ↓w_B1, ↓w_Tl, ↓w_An, ↓w_Or, ↓w_No, ↓w_eAn, ↓w_eO, ↓w_eNo, ↓w_eNeg, ↓w_eIf, ↓w_ch, ↓w_Dn, ↓w_lRg1, ↓w_trg1, ↓w_yes, ↓ws_forS, ↓ws_forG, ↓w_lcS, ↓w_lcG, ↓w_dcS, ↓w_dcG, items_tup, items_rol, ↓ws_seq, ↓ws_skip, ↓ws_set, ↓ws_ex, ↓ws_ret, ↓ws_retN, ↓ws_bk, ↓ws_ct, ↓ws_if, ↓ws_asg, ↓ws_dput, ↓ws_daug, ↓ws_lput, ↓ws_aug, ↓wp_some, ↓wp_none, ↓wp_if, ↓wp_map, ↓wf_ok, ↓asI_int, ↓asBl_bl,
  List.getElem?_cons_zero, List.getElem?_cons_succ, List.set_cons_zero, List.set_cons_succ, opI_int, addD_int, mulD_int, intB_int, intB_bl, absB_int, lenB_rol, lenB_tup, ixD_rol, ixD_tup, atI0, atI1, atI2, atI3, atI4, asgT_n, tyQ, appQ, slQ, slD_tup, wipeE, List.length_cons, List.length_nil, List.length_map, true_and, and_true, decide_true, ↓reduceIte, bl_t, List.map_cons, List.map_nil, List.cons_append, List.nil_append, List.replicate_succ, List.replicate_zero, Nat.reduceAdd, Nat.reduceLeDiff, Int.reduceLT, Int.reduceLE, Int.reduceNeg, Int.reduceSub, eqD_str, eqD_int, neD_int, ofStr_eq, String.reduceEq, decide_false, decide_true, in_tupS, in_tints, flatD_str, flatD_int, List.all_cons, List.all_nil, List.any_cons, List.any_nil, eqF_str, Bool.and_true, Bool.and_self, Bool.or_false, Bool.or_true, Bool.true_or, Bool.false_or, Bool.false_eq_true, Bool.not_true, Bool.not_false, in_top, ixD_top, tupB_top, items_top, lenB_top, tru_bl, asgT_2, asgT_3, ↓w_pN, ↓w_pC, ↓w_Dct, ixD_tup, Int.cast_ofNat_Int, Int.reduceEq, ↓w_DGet2, ↓w_callV, ↓ws_laug, neD_str, ↓ws_forG2, lstB_tup, eqD_bl, neD_bl, isD_non, isD_ref, isD_tup, isD_int, isD_str, isD_bl, isNotD_non, isNotD_ref, isNotD_tup, isNotD_int, isNotD_str, isNotD_bl, isiT_tup, isiT_int, isiT_str, isiT_bl, isiT_non, ↓w_lcG2, ↓ws_forZ, ↓w_lcZ, asT_tup, addI_int, gtD_int, isi_tup_tuple, isi_tup_str, isi_tup_int, isi_tup_bool, isi_tup_list, isi_str_tuple, isi_str_str, isi_str_int, isi_str_bool, isi_str_list, isi_int_tuple, isi_int_str, isi_int_int, isi_int_bool, isi_int_list, isi_bl_tuple, isi_bl_str, isi_bl_int, isi_bl_bool, isi_bl_list, isi_non_tuple, isi_non_str, isi_non_int, isi_non_bool, isi_non_list])

theorem in_seq {neg : Bool} {d : D} {L : List Int} {a : Int} {s : S} (h : itemsD d s = some (L.map D.int)) : inD neg (.int a) d s = some (.bl (if neg then !decide (a ∈ L) else decide (a ∈ L)), s) := by
  simp only [inD, h]
  rw [if_pos (by rw [flat_ints]; rfl), Mi.any_ints]
theorem items_gr {d : D} {X : List D} {s s' : S} (hG : Gr s s') (h : itemsD d s = some X) : itemsD d s' = some X := by
  cases d <;> first | exact h | skip
  rename_i p
  have h : (match s[p]? with | some (.lst ds) => some ds | _ => none) = some X := h
  split at h
  · rename_i ds e
    cases h
    exact items_ref (hG.get e)
  · cases h
theorem items_fr {d : D} {X : List D} {s s' : S} {pw : Nat} (hG : Fr pw s s') (hn : ∀ p, d = .ref p → p ≠ pw) (h : itemsD d s = some X) : itemsD d s' = some X := by
  cases d <;> first | exact h | skip
  rename_i p
  have h : (match s[p]? with | some (.lst ds) => some ds | _ => none) = some X := h
  split at h
  · rename_i ds e
    cases h
    exact items_ref (hG.get e (hn p rfl))
  · cases h
theorem eqD_nil {p q k : Nat} {as : List D} {pa : List PyData} {s : S} (h : s[p]? = some (.lst as)) (h' : s[q]? = some (.lst [])) (e : as.mapM (toP 59 s) = some pa) (sa : shAll k pa) (hk : k < 64) : eqD (.ref p) (.ref q) s = some (.bl pa.isEmpty, s) := by
  have := eqB_lst (bs := []) (pb := []) h h' e rfl sa (fun _ z => by cases z) hk
  unfold eqD
  rw [this, eqv_nil]
theorem mem_tl {d b : D} : True := True.intro
/-- the tail of public_behind: the register w is public or not, all else as ahead -/
theorem behind_tail {codeD : D} {r : Int} {L : List Int} {rowD kindD : D} {w : Int} {b : Bool} {x7 x8 x9 : Option D} {s : S} {Q : D → S → Prop} {B C : Mi.Env → S → Prop} (hL : Can L) (hw : R16 w)
    (k : ∀ s', Gr s s' → Q (.tup ((cmf fun x => if x = w then b else decide (x ∈ L)).map D.int)) s') :
    WS g_public_behind_b2 [some codeD, some (.int r), some (.tup (L.map D.int)), some rowD, some kindD, some (.int w), some (.bl b), x7, x8, x9] s (fun _ s' => Q .non s') Q B C := by
  unfold g_public_behind_b2
  walk_at "mi"
  have h16 := hL.len
  refine cs_map (xs := L) D.int (fun x => if (!decide (x = w)) = true then some (D.int x) else none) (fun st => st = s) okD_tup (by omega) rfl ?_ ?_
  · rintro x st hx rfl _
    walk_at "mi"
    by_cases c : x = w
    · simp only [c, decide_true, Bool.not_true, Bool.false_eq_true, ↓reduceIte]; exact ⟨okD_tup, True.intro⟩
    · simp only [c, decide_false, Bool.not_false, ↓reduceIte]; exact ⟨okD_tup, True.intro⟩
  · rintro st rfl _
    rw [fm_if (P := fun x => !decide (x = w))]
    walk_at "mi"
    unfold g_public_behind_b1
    have hsl : (L.filter fun x => !decide (x = w)).length ≤ 16 := Nat.le_trans (List.length_filter_le _ _) h16
    have hnd : (L.filter fun x => !decide (x = w)).Nodup := by rw [hL]; exact (cmf_nodup _).filter _
    cases b with
    | false =>
      simp only [Bool.false_eq_true, ↓reduceIte]
      walk_at "mi"
      rw [sort_ref top_get]
      walk_at "mi"
      rw [sort_cmf (p := fun x => if x = w then false else decide (x ∈ L)) hnd fun x => ?_]
      · exact k _ ((Gr.app _ _).trans (Gr.app _ _))
      · rw [List.mem_filter]
        by_cases c : x = w
        · simp [c]
        · simp only [c, decide_false, Bool.not_false, ↓reduceIte, decide_eq_true_eq, and_true]
          exact ⟨fun h => ⟨hL.mem h, h⟩, fun h => h.2⟩
    | true =>
      simp only [↓reduceIte]
      walk_at "mi"
      refine ⟨by omega, ?_⟩
      have e : (L.filter fun x => !decide (x = w)).map D.int ++ [D.int w] = ((L.filter fun x => !decide (x = w)) ++ [w]).map D.int := by rw [List.map_append]; rfl
      rw [e, sort_ref top_get]
      walk_at "mi"
      rw [sort_cmf (p := fun x => if x = w then true else decide (x ∈ L)) ?_ fun x => ?_]
      · exact k _ ((Gr.app _ _).trans (Gr.app _ _))
      · rw [List.nodup_append]
        refine ⟨hnd, by simp, fun a ha b hb z => ?_⟩
        rw [List.mem_singleton.mp hb] at z
        have := (List.mem_filter.mp ha).2
        rw [z] at this
        simp at this
      · rw [List.mem_append, List.mem_filter, List.mem_singleton]
        by_cases c : x = w
        · subst c; simp; exact hw
        · simp only [c, decide_false, Bool.not_false, and_true, or_false, ↓reduceIte, decide_eq_true_eq]
          exact ⟨fun h => ⟨hL.mem h, h⟩, fun h => h.2⟩
theorem behind_ok {c : MC} {r n : Nat} {m : MR} {L : List Int} {s : S} {Q : D → S → Prop} (hm : c.rows[r]? = some m) (ho : m.Ok n r) (hL : Can L) (k : ∀ s', Gr s s' → Q (.tup ((behR c m L).map D.int)) s') : WF (F_public_behind [c.enc, .int (r : Int), .tup (L.map D.int)] s) Q := by
  unfold F_public_behind
  refine (wf_fn (by rfl)).mpr ?_
  unfold g_public_behind
  have hix : atI (c.rows.map MR.enc) (r : Int) = some m.enc := atI_nat' (by rw [List.getElem?_map, hm]; rfl)
  walk_at "mi"
  rw [code_ix1]
  walk_at "mi"
  rw [hix]
  walk_at "mi"
  have ends : m.wr = none → Q (.tup (L.map D.int)) s := fun e => by
    have : behR c m L = L := by
      conv => rhs; rw [hL]
      unfold behR
      rw [e]
    have := k s (Gr.refl _)
    rw [‹behR c m L = L›] at this
    exact this
  cases m with
  | const d v =>
    unfold MR.enc
    walk_at "mi"
    exact behind_tail hL ho.1 fun s' hG => k s' hG
  | op g d a b =>
    unfold MR.enc
    walk_at "mi"
    have hk : ∀ s', Gr s s' → Q (.tup ((cmf fun x => if x = d then (decide (a ∈ L) && decide (b ∈ L)) else decide (x ∈ L)).map D.int)) s' := k
    by_cases c1 : a ∈ L
    · simp only [c1, decide_true, ↓reduceIte]
      simp only [c1, decide_true, Bool.true_and] at hk
      exact behind_tail hL ho.1 hk
    · simp only [c1, decide_false, Bool.false_eq_true, ↓reduceIte]
      simp only [c1, decide_false, Bool.false_and] at hk
      exact behind_tail hL ho.1 hk
  | select d c' a b =>
    unfold MR.enc
    walk_at "mi"
    rw [show Mi.cutD [D.str "select", .int d, .int c', .int a, .int b] (some 2) none = [c', a, b].map D.int from by kernel_rfl]
    have hk : ∀ s', Gr s s' → Q (.tup ((cmf fun x => if x = d then (decide (c' ∈ L) && (decide (a ∈ L) && decide (b ∈ L))) else decide (x ∈ L)).map D.int)) s' := k
    refine cs_map (xs := [c', a, b]) D.int (fun x => some (D.bl (decide (x ∈ L)))) (fun st => st = s) okD_tup (by simp) rfl ?_ ?_
    · rintro x st hx rfl _
      walk_at "mi"
      exact okD_tup
    · rintro st rfl _
      rw [fm_all, all_ref top_get]
      walk_at "mi"
      refine behind_tail hL ho.1 fun s' hG => ?_
      have := hk s' ((Gr.app _ _).trans hG)
      simpa using this
  | load d a x y =>
    unfold MR.enc
    walk_at "mi"
    have hk : ∀ s', Gr s s' → Q (.tup ((cmf fun z => if z = d then isPub (c.region x y) else decide (z ∈ L)).map D.int)) s' := k
    refine region_ok ?_
    walk_at "mi"
    cases hr : c.region x y with
    | none =>
      rw [hr] at hk
      unfold optRg
      walk_at "mi"
      exact behind_tail hL ho.1 hk
    | some g =>
      rw [hr] at hk
      unfold optRg Rg.enc
      walk_at "mi"
      refine behind_tail hL ho.1 fun s' hG => ?_
      have := hk s' hG
      have e : (decide ((lab g.sec) = ("public" : Str))) = isPub (some g) := by
        obtain ⟨x0, y0, sc⟩ := g
        cases sc <;> rfl
      rw [e]
      exact this
  | store a x y b =>
    unfold MR.enc
    walk_at "mi"
    rw [tupB_tup]
    walk_at "mi"
    exact ends rfl
  | out a =>
    unfold MR.enc
    walk_at "mi"
    rw [tupB_tup]
    walk_at "mi"
    exact ends rfl
  | branch a t =>
    unfold MR.enc
    walk_at "mi"
    rw [tupB_tup]
    walk_at "mi"
    exact ends rfl
  | jump t =>
    unfold MR.enc
    walk_at "mi"
    rw [tupB_tup]
    walk_at "mi"
    exact ends rfl
  | stop a =>
    unfold MR.enc
    walk_at "mi"
    rw [tupB_tup]
    walk_at "mi"
    exact ends rfl
end My

set_option Elab.async false
set_option linter.all false
set_option maxRecDepth 100000
set_option maxHeartbeats 4000000
namespace My
open PySem PySem.Spec PyProof.Rows L2 Mi
local macro_rules | `(tactic| walk_at "mi") => `(tactic| try simp only [↓w_vr, ↓w_cn, ↓w_e2, ↓w_tup, ↓w_lst, ↓w_aN, ↓w_aC, ↓w_call, ↓w_B, ↓w_M, ↓w_oN, ↓w_oS, ↓w_sl, ↓w_B1, ↓w_Tl, ↓w_An, ↓w_Or, ↓w_No, ↓w_eAn, ↓w_eO, ↓w_eNo, ↓w_eNeg, ↓w_eIf, ↓w_ch, ↓w_Dn, ↓w_lRg1, ↓w_trg1, ↓w_yes, ↓ws_forS, ↓ws_forG, ↓w_lcS, ↓w_lcG, ↓w_dcS, ↓w_dcG, items_tup, items_rol, ↓ws_seq, ↓ws_skip, ↓ws_set, ↓ws_ex, ↓ws_ret, ↓ws_retN, ↓ws_bk, ↓ws_ct, ↓ws_if, ↓ws_asg, ↓ws_dput, ↓ws_daug, ↓ws_lput, ↓ws_aug, ↓wp_some, ↓wp_none, ↓wp_if, ↓wp_map, ↓wf_ok, ↓asI_int, ↓asBl_bl,
  List.getElem?_cons_zero, List.getElem?_cons_succ, List.set_cons_zero, List.set_cons_succ, opI_int, addD_int, mulD_int, intB_int, intB_bl, absB_int, lenB_rol, lenB_tup, ixD_rol, ixD_tup, atI0, atI1, atI2, atI3, atI4, asgT_n, tyQ, appQ, slQ, slD_tup, wipeE, List.length_cons, List.length_nil, List.length_map, true_and, and_true, decide_true, ↓reduceIte, bl_t, List.map_cons, List.map_nil, List.cons_append, List.nil_append, List.replicate_succ, List.replicate_zero, Nat.reduceAdd, Nat.reduceLeDiff, Int.reduceLT, Int.reduceLE, Int.reduceNeg, Int.reduceSub, eqD_str, eqD_int, neD_int, ofStr_eq, String.reduceEq, decide_false, decide_true, in_tupS, in_tints, flatD_str, flatD_int, List.all_cons, List.all_nil, List.any_cons, List.any_nil, eqF_str, Bool.and_true, Bool.and_self, Bool.or_false, Bool.or_true, Bool.true_or, Bool.false_or, Bool.false_eq_true, Bool.not_true, Bool.not_false, in_top, ixD_top, tupB_top, items_top, lenB_top, tru_bl, asgT_2, asgT_3, ↓w_pN, ↓w_pC, ↓w_Dct, ixD_tup, Int.cast_ofNat_Int, Int.reduceEq, ↓w_DGet2, ↓w_callV, ↓ws_laug, neD_str, ↓ws_forG2, lstB_tup, eqD_bl, neD_bl, isD_non, isD_ref, isD_tup, isD_int, isD_str, isD_bl, isNotD_non, isNotD_ref, isNotD_tup, isNotD_int, isNotD_str, isNotD_bl, isiT_tup, isiT_int, isiT_str, isiT_bl, isiT_non, ↓w_lcG2, ↓ws_forZ, ↓w_lcZ, asT_tup, addI_int, gtD_int, isi_tup_tuple, isi_tup_str, isi_tup_int, isi_tup_bool, isi_tup_list, isi_str_tuple, isi_str_str, isi_str_int, isi_str_bool, isi_str_list, isi_int_tuple, isi_int_str, isi_int_int, isi_int_bool, isi_int_list, isi_bl_tuple, isi_bl_str, isi_bl_int, isi_bl_bool, isi_bl_list, isi_non_tuple, isi_non_str, isi_non_int, isi_non_bool, isi_non_list])

/-! ### the law's own regions, registers behind a row, ways -/
def Rg.pd (g : Rg) : PyData := .tuple [.int g.base, .int g.size, .str (lab g.sec)]
theorem toP_rg {s : S} (g : Rg) : toP 59 s g.enc = some g.pd := rfl
theorem sh_rg (gs : List Rg) : shAll 1 (gs.map Rg.pd) := by
  intro p hp
  obtain ⟨g, _, rfl⟩ := List.mem_map.mp hp
  obtain ⟨x, y, sc⟩ := g
  cases sc <;> exact ⟨by kernel_rfl, Nat.le_refl 1⟩
theorem law_region_ok {c : MC} {x y : Int} {s : S} {Q : D → S → Prop} (hg : c.regs.length ≤ 1000) (k : ∀ s', Gr s s' → Q (optRg (c.region x y)) s') : WF (F_law_region [c.enc, .int x, .int y] s) Q := by
  unfold F_law_region
  refine (wf_fn (by rfl)).mpr ?_
  unfold g_law_region
  walk_at "mi"
  rw [code_ix0]
  walk_at "mi"
  refine cs_map (xs := c.regs) Rg.enc (fun g => if (decide (g.base ≤ x) && decide (x + y < g.base + g.size)) = true then some g.enc else none) (fun st => st = s) okD_tup (by omega) rfl ?_ ?_
  · rintro g st hx rfl _
    unfold Rg.enc
    walk_at "mi"
    by_cases c1 : g.base ≤ x
    · simp only [c1, decide_true, Bool.true_and, ↓reduceIte]
      walk_at "mi"
      by_cases c2 : x + y < g.base + g.size
      · simp only [c2, ↓reduceIte]; first | exact okD_tup | trivial | simp [okT, okD_tup]
      · simp only [c2, ↓reduceIte]; first | exact okD_tup | trivial | simp [okT, okD_tup]
    · simp only [c1, decide_false, Bool.false_and, Bool.false_eq_true, ↓reduceIte]
      first | exact okD_tup | trivial | simp [okT, okD_tup]
  · rintro st rfl _
    rw [fm_if (P := fun g : Rg => decide (g.base ≤ x) && decide (x + y < g.base + g.size))]
    walk_at "mi"
    have e := mapM_map (toP 59 ((st ++ [O.lst ((c.regs.filter fun g => decide (g.base ≤ x) && decide (x + y < g.base + g.size)).map Rg.enc)]) ++ [O.lst []])) Rg.enc Rg.pd (fun g => toP_rg g) (c.regs.filter fun g => decide (g.base ≤ x) && decide (x + y < g.base + g.size))
    rw [eqD_nil (old_get top_get) top_get e (sh_rg _) (by decide)]
    walk_at "mi"
    have hr : c.region x y = (c.regs.filter fun g => decide (g.base ≤ x) && decide (x + y < g.base + g.size)).head? := by rw [List.head?_filter]; rfl
    generalize c.regs.filter (fun g => decide (g.base ≤ x) && decide (x + y < g.base + g.size)) = fs at *
    rw [hr] at k
    cases fs with
    | nil =>
      simp only [List.map_nil, List.isEmpty_nil, ↓reduceIte]
      exact k _ ((Gr.app _ _).trans (Gr.app _ _))
    | cons g fs =>
      simp only [List.map_cons, List.isEmpty_cons, Bool.false_eq_true, ↓reduceIte]
      rw [ixD_ref (old_get top_get)]
      walk_at "mi"
      exact k _ ((Gr.app _ _).trans (Gr.app _ _))
theorem rng16 : rng 0 (16 : Int).toNat = A16.map D.int := rfl
/-- a comprehension over the sixteen registers -/
theorem cs16 {c : EB} {env : Mi.Env} {vs : List Nat} {i : Nat} {s : S} {Q : D → S → Prop} (p : Int → Bool) (hs : ∀ x, R16 x → WB c ((wipeE env vs).set i (some (.int x))) s fun k s1 => k = p x ∧ s1 = s) (hi : ∀ x, (((wipeE env vs).set i (some (.int x))))[i]? = some (some (D.int x)))
    (k : ∀ s', Gr s s' → s'[s.length]? = some (.lst ((cmf p).map D.int)) → Q (.ref s.length) s') : CS (.n i) vs c (vr i) okT env (rng 0 (16 : Int).toNat) s Q := by
  rw [rng16]
  refine cs_map (xs := A16) D.int (fun x => if p x = true then some (D.int x) else none) (fun st => st = s) True.intro (by decide) rfl ?_ ?_
  · rintro x st hx rfl _
    rw [asgT_n, wp_some]
    obtain ⟨b, s1, e, h1, h2⟩ := hs x (mem16.mp hx)
    subst h1 h2
    refine ⟨p x, s1, e, ?_⟩
    cases p x with
    | true =>
      rw [if_pos rfl, w_vr, hi x, wp_some, wp_some]
      exact ⟨True.intro, rfl, rfl⟩
    | false => exact ⟨True.intro, rfl, rfl⟩
  · rintro st rfl _
    rw [fm_if (P := p)]
    exact k _ (Gr.app _ _) top_get
theorem law_behind_ok {c : MC} {r n : Nat} {m : MR} {md : D} {L : List Int} {s : S} {Q : D → S → Prop} (hg : c.regs.length ≤ 1000) (hm : c.rows[r]? = some m) (ho : m.Ok n r) (hL : Can L) (hi : itemsD md s = some (L.map D.int))
    (k : ∀ q s', Gr s s' → s.length ≤ q → s'[q]? = some (.lst ((behR c m L).map D.int)) → Q (.ref q) s') : WF (F_law_behind [c.enc, .int (r : Int), md] s) Q := by
  unfold F_law_behind
  refine (wf_fn (by rfl)).mpr ?_
  unfold g_law_behind
  have hix : atI (c.rows.map MR.enc) (r : Int) = some m.enc := atI_nat' (by rw [List.getElem?_map, hm]; rfl)
  walk_at "mi"
  rw [code_ix1]
  walk_at "mi"
  rw [hix]
  walk_at "mi"
  have ends : m.wr = none → WP (lstB [md] s) fun p => Q p.1 p.2 := fun e => by
    have e1 : behR c m L = L := by
      conv => rhs; rw [hL]
      unfold behR
      rw [e]
    rw [e1] at k
    have : lstB [md] s = some (.ref s.length, s ++ [.lst (L.map D.int)]) := by
      unfold lstB
      show (itemsD md s).map _ = _
      rw [hi]; rfl
    rw [this, wp_some]
    exact k _ _ (Gr.app _ _) (Nat.le_refl _) top_get
  cases m with
  | const d v =>
    unfold MR.enc
    walk_at "mi"
    refine cs16 (fun x => if x = d then true else decide (x ∈ L)) (fun x hx => ?_) (fun x => rfl) fun s' hG h => k _ _ hG (Nat.le_refl _) h
    walk_at "mi"
    rw [in_seq hi]
    walk_at "mi"
    by_cases c1 : x ∈ L <;> by_cases c2 : x = d <;> simp [c1, c2]
  | op g d a b =>
    unfold MR.enc
    walk_at "mi"
    rw [in_seq hi]
    walk_at "mi"
    have key : ∀ (pb : Bool) (env : Mi.Env), env = [some c.enc, some (.int (r : Int)), some md, some (.tup [.str "op", .str g, .int d, .int a, .int b]), none, some (.bl pb), none] → pb = (decide (a ∈ L) && decide (b ∈ L)) →
        CS (.n 4) [4] (tO (tAn (tB1 (e2 neD (vr 4) (e2 ixD (vr 3) (cn (.int 2))))) (tB1 (e2 (inD false) (vr 4) (vr 2)))) (tAn (tB1 (e2 eqD (vr 4) (e2 ixD (vr 3) (cn (.int 2))))) (tTl (vr 5)))) (vr 4) okT env (rng 0 (16 : Int).toNat) s Q := by
      rintro pb env rfl hp
      refine cs16 (fun x => if x = d then pb else decide (x ∈ L)) (fun x hx => ?_) (fun x => rfl) fun s' hG h => k _ _ hG (Nat.le_refl _) (by rw [h, hp]; rfl)
      walk_at "mi"
      rw [in_seq hi]
      walk_at "mi"
      by_cases c1 : x ∈ L <;> by_cases c2 : x = d <;> cases pb <;> simp [c1, c2]
    by_cases c1 : a ∈ L
    · simp only [c1, decide_true, ↓reduceIte]
      rw [in_seq hi]
      walk_at "mi"
      exact key _ _ rfl (by simp [c1])
    · simp only [c1, decide_false, Bool.false_eq_true, ↓reduceIte]
      exact key _ _ rfl (by simp [c1])
  | select d c' a b =>
    unfold MR.enc
    walk_at "mi"
    rw [in_seq hi]
    walk_at "mi"
    have key : ∀ (pb : Bool) (env : Mi.Env), env = [some c.enc, some (.int (r : Int)), some md, some (.tup [.str "select", .int d, .int c', .int a, .int b]), none, some (.bl pb), none] → pb = (decide (c' ∈ L) && (decide (a ∈ L) && decide (b ∈ L))) →
        CS (.n 4) [4] (tO (tAn (tB1 (e2 neD (vr 4) (e2 ixD (vr 3) (cn (.int 1))))) (tB1 (e2 (inD false) (vr 4) (vr 2)))) (tAn (tB1 (e2 eqD (vr 4) (e2 ixD (vr 3) (cn (.int 1))))) (tTl (vr 5)))) (vr 4) okT env (rng 0 (16 : Int).toNat) s Q := by
      rintro pb env rfl hp
      refine cs16 (fun x => if x = d then pb else decide (x ∈ L)) (fun x hx => ?_) (fun x => rfl) fun s' hG h => k _ _ hG (Nat.le_refl _) (by rw [h, hp]; rfl)
      walk_at "mi"
      rw [in_seq hi]
      walk_at "mi"
      by_cases c1 : x ∈ L <;> by_cases c2 : x = d <;> cases pb <;> simp [c1, c2]
    by_cases c1 : c' ∈ L
    · simp only [c1, decide_true, ↓reduceIte]
      rw [in_seq hi]
      walk_at "mi"
      by_cases c2 : a ∈ L
      · simp only [c2, decide_true, ↓reduceIte]
        rw [in_seq hi]
        walk_at "mi"
        exact key _ _ rfl (by simp [c1, c2])
      · simp only [c2, decide_false, Bool.false_eq_true, ↓reduceIte]
        exact key _ _ rfl (by simp [c1, c2])
    · simp only [c1, decide_false, Bool.false_eq_true, ↓reduceIte]
      exact key _ _ rfl (by simp [c1])
  | load d a x y =>
    unfold MR.enc
    walk_at "mi"
    refine law_region_ok hg fun s1 hG1 => ?_
    have hi1 := items_gr hG1 hi
    walk_at "mi"
    have key : ∀ (pb : Bool) (env : Mi.Env) (x6 : D), env = [some c.enc, some (.int (r : Int)), some md, some (.tup [.str "load", .int d, .int a, .int x, .int y]), none, some (.bl pb), some x6] → pb = isPub (c.region x y) →
        CS (.n 4) [4] (tO (tAn (tB1 (e2 neD (vr 4) (e2 ixD (vr 3) (cn (.int 1))))) (tB1 (e2 (inD false) (vr 4) (vr 2)))) (tAn (tB1 (e2 eqD (vr 4) (e2 ixD (vr 3) (cn (.int 1))))) (tTl (vr 5)))) (vr 4) okT env (rng 0 (16 : Int).toNat) s1 Q := by
      rintro pb env x6 rfl hp
      refine cs16 (fun x => if x = d then pb else decide (x ∈ L)) (fun x hx => ?_) (fun x => rfl) fun s' hG h => k _ _ (hG1.trans hG) hG1.1 (by rw [h, hp]; rfl)
      walk_at "mi"
      rw [in_seq hi1]
      walk_at "mi"
      by_cases c1 : x ∈ L <;> by_cases c2 : x = d <;> cases pb <;> simp [c1, c2]
    cases hr : c.region x y with
    | none =>
      unfold optRg
      walk_at "mi"
      exact key _ _ _ rfl (by rw [hr]; rfl)
    | some g =>
      unfold optRg Rg.enc
      walk_at "mi"
      refine key _ _ _ rfl (by
        rw [hr]
        obtain ⟨x0, y0, sc⟩ := g
        cases sc <;> rfl)
  | store a x y b =>
    unfold MR.enc
    walk_at "mi"
    exact ends rfl
  | out a =>
    unfold MR.enc
    walk_at "mi"
    exact ends rfl
  | branch a t =>
    unfold MR.enc
    walk_at "mi"
    exact ends rfl
  | jump t =>
    unfold MR.enc
    walk_at "mi"
    exact ends rfl
  | stop a =>
    unfold MR.enc
    walk_at "mi"
    exact ends rfl
theorem law_ways_ok {c : MC} {r : Nat} {m : MR} {s : S} {Q : D → S → Prop} (hm : c.rows[r]? = some m) (k : ∀ q s', Gr s s' → s.length ≤ q → s'[q]? = some (.lst ((nextR r m).map D.int)) → Q (.ref q) s') : WF (F_law_ways [c.enc, .int (r : Int)] s) Q := by
  unfold F_law_ways
  refine (wf_fn (by rfl)).mpr ?_
  unfold g_law_ways
  have hix : atI (c.rows.map MR.enc) (r : Int) = some m.enc := atI_nat' (by rw [List.getElem?_map, hm]; rfl)
  walk_at "mi"
  rw [code_ix1]
  walk_at "mi"
  rw [hix]
  walk_at "mi"
  cases m with
  | branch a t =>
    unfold MR.enc
    walk_at "mi"
    by_cases c1 : t = (r : Int) + 1
    · have en : nextR r (.branch a t) = [(r : Int) + 1] := by simp only [nextR, c1, ↓reduceIte]
      rw [en] at k
      simp only [c1, decide_true, Bool.not_true, Bool.false_eq_true, ↓reduceIte]
      exact k _ _ (Gr.app _ _) (Nat.le_refl _) top_get
    · have en : nextR r (.branch a t) = if t < (r : Int) + 1 then [t, (r : Int) + 1] else [(r : Int) + 1, t] := by simp only [nextR, c1, ↓reduceIte]
      rw [en] at k
      simp only [c1, decide_false, Bool.not_false, ↓reduceIte]
      have e : [D.int ((r : Int) + 1), D.int t] = [(r : Int) + 1, t].map D.int := rfl
      rw [e, sort_ref top_get]
      walk_at "mi"
      have hs : sortI [(r : Int) + 1, t] = if t < (r : Int) + 1 then [t, (r : Int) + 1] else [(r : Int) + 1, t] := by
        split
        · exact (sort_uniq (List.Perm.swap _ _ _) (by simp; omega)).symm
        · exact (sort_uniq (List.Perm.refl _) (by simp; omega)).symm
      rw [hs]
      exact k _ _ ((Gr.app _ _).trans (Gr.app _ _)) (by rw [List.length_append]; omega) top_get
  | _ =>
    unfold MR.enc
    walk_at "mi"
    exact k _ _ (Gr.app _ _) (Nat.le_refl _) top_get
end My

set_option Elab.async false
set_option linter.all false
set_option maxRecDepth 100000
set_option maxHeartbeats 4000000
namespace My
open PySem PySem.Spec PyProof.Rows L2 Mi
local macro_rules | `(tactic| walk_at "mi") => `(tactic| try simp only [↓w_vr, ↓w_cn, ↓w_e2, ↓w_tup, ↓w_lst, ↓w_aN, ↓w_aC, ↓w_call, ↓w_B, ↓w_M, ↓w_oN, ↓w_oS, ↓w_sl, ↓w_B1, ↓w_Tl, ↓w_An, ↓w_Or, ↓w_No, ↓w_eAn, ↓w_eO, ↓w_eNo, ↓w_eNeg, ↓w_eIf, ↓w_ch, ↓w_Dn, ↓w_lRg1, ↓w_trg1, ↓w_yes, ↓ws_forS, ↓ws_forG, ↓w_lcS, ↓w_lcG, ↓w_dcS, ↓w_dcG, items_tup, items_rol, ↓ws_seq, ↓ws_skip, ↓ws_set, ↓ws_ex, ↓ws_ret, ↓ws_retN, ↓ws_bk, ↓ws_ct, ↓ws_if, ↓ws_asg, ↓ws_dput, ↓ws_daug, ↓ws_lput, ↓ws_aug, ↓wp_some, ↓wp_none, ↓wp_if, ↓wp_map, ↓wf_ok, ↓asI_int, ↓asBl_bl,
  List.getElem?_cons_zero, List.getElem?_cons_succ, List.set_cons_zero, List.set_cons_succ, opI_int, addD_int, mulD_int, intB_int, intB_bl, absB_int, lenB_rol, lenB_tup, ixD_rol, ixD_tup, atI0, atI1, atI2, atI3, atI4, asgT_n, tyQ, appQ, slQ, slD_tup, wipeE, List.length_cons, List.length_nil, List.length_map, true_and, and_true, decide_true, ↓reduceIte, bl_t, List.map_cons, List.map_nil, List.cons_append, List.nil_append, List.replicate_succ, List.replicate_zero, Nat.reduceAdd, Nat.reduceLeDiff, Int.reduceLT, Int.reduceLE, Int.reduceNeg, Int.reduceSub, eqD_str, eqD_int, neD_int, ofStr_eq, String.reduceEq, decide_false, decide_true, in_tupS, in_tints, flatD_str, flatD_int, List.all_cons, List.all_nil, List.any_cons, List.any_nil, eqF_str, Bool.and_true, Bool.and_self, Bool.or_false, Bool.or_true, Bool.true_or, Bool.false_or, Bool.false_eq_true, Bool.not_true, Bool.not_false, in_top, ixD_top, tupB_top, items_top, lenB_top, tru_bl, asgT_2, asgT_3, ↓w_pN, ↓w_pC, ↓w_Dct, ixD_tup, Int.cast_ofNat_Int, Int.reduceEq, ↓w_DGet2, ↓w_callV, ↓ws_laug, neD_str, ↓ws_forG2, lstB_tup, eqD_bl, neD_bl, isD_non, isD_ref, isD_tup, isD_int, isD_str, isD_bl, isNotD_non, isNotD_ref, isNotD_tup, isNotD_int, isNotD_str, isNotD_bl, isiT_tup, isiT_int, isiT_str, isiT_bl, isiT_non, ↓w_lcG2, ↓ws_forZ, ↓w_lcZ, asT_tup, addI_int, gtD_int, isi_tup_tuple, isi_tup_str, isi_tup_int, isi_tup_bool, isi_tup_list, isi_str_tuple, isi_str_str, isi_str_int, isi_str_bool, isi_str_list, isi_int_tuple, isi_int_str, isi_int_int, isi_int_bool, isi_int_list, isi_bl_tuple, isi_bl_str, isi_bl_int, isi_bl_bool, isi_bl_list, isi_non_tuple, isi_non_str, isi_non_int, isi_non_bool, isi_non_list])

/-! ### papers: the order, what holds, what takes away -/
abbrev Pa := List (List Int)
def pat (P : Pa) (r : Nat) : List Int := (P[r]?).getD []
structure PaOk (c : MC) (P : Pa) : Prop where
  len : P.length = c.rows.length
  can : ∀ L ∈ P, Can L
def LeP (P P' : Pa) : Prop := P.length = P'.length ∧ ∀ r x, x ∈ pat P r → x ∈ pat P' r
def Closed1 (c : MC) (P : Pa) (r : Nat) (m : MR) : Prop := ∀ t ∈ nextR r m, ∀ x ∈ pat P t.toNat, x ∈ behR c m (pat P r)
def HoldsP (c : MC) (P : Pa) : Prop := ∀ (r : Nat) (m : MR), c.rows[r]? = some m → Closed1 c P r m
def meet (B : List Int) (t : Nat) (P : Pa) : Pa := P.set t ((pat P t).filter fun x => decide (x ∈ B))
def tot (P : Pa) : Nat := (P.map List.length).sum
theorem can_nil : Can [] := by unfold Can; decide
theorem can_all : Can A16 := by unfold Can; decide
theorem pat_of {P : Pa} {r : Nat} {L : List Int} (h : P[r]? = some L) : pat P r = L := by unfold pat; rw [h]; rfl
theorem PaOk.pat {c : MC} {P : Pa} (h : PaOk c P) (r : Nat) : Can (pat P r) := by
  unfold My.pat
  cases e : P[r]? with
  | none => exact can_nil
  | some L => exact h.can L (List.mem_of_getElem? e)
theorem behR_mono {c : MC} {m : MR} {L L' : List Int} (h : ∀ x ∈ L, x ∈ L') {x : Int} (hx : x ∈ behR c m L) : x ∈ behR c m L' := by
  unfold behR at hx ⊢
  rw [mem_cmf] at hx ⊢
  refine ⟨hx.1, ?_⟩
  replace hx := hx.2
  have hd : ∀ y, decide (y ∈ L) = true → decide (y ∈ L') = true := fun y z => decide_eq_true (h y (of_decide_eq_true z))
  have hp : pubW c L m = true → pubW c L' m = true := by
    cases m <;> simp only [pubW, Bool.and_eq_true] <;> intro z
    all_goals first | exact z | exact ⟨hd _ z.1, hd _ z.2⟩ | exact ⟨hd _ z.1, hd _ z.2.1, hd _ z.2.2⟩
  generalize m.wr = o at *
  cases o with
  | none => exact hd x hx
  | some d =>
    dsimp only at hx ⊢
    by_cases c1 : x = d
    · rw [if_pos c1] at hx ⊢; exact hp hx
    · rw [if_neg c1] at hx ⊢; exact hd x hx
theorem LeP.refl (P : Pa) : LeP P P := ⟨rfl, fun _ _ h => h⟩
theorem LeP.trans {P P1 P2 : Pa} (a : LeP P P1) (b : LeP P1 P2) : LeP P P2 := ⟨a.1.trans b.1, fun r x h => b.2 r x (a.2 r x h)⟩
theorem pat_meet {B : List Int} {t r : Nat} {P : Pa} : pat (meet B t P) r = if t = r ∧ t < P.length then (pat P t).filter (fun x => decide (x ∈ B)) else pat P r := by
  unfold meet
  show ((P.set t _)[r]?).getD [] = _
  rw [List.getElem?_set]
  by_cases c1 : t = r
  · subst c1
    by_cases c2 : t < P.length
    · rw [if_pos rfl, if_pos c2, if_pos ⟨rfl, c2⟩]; rfl
    · rw [if_pos rfl, if_neg c2, if_neg fun z => c2 z.2]
      unfold pat; rw [List.getElem?_eq_none (by omega)]
  · rw [if_neg c1, if_neg fun z => c1 z.1]; rfl
theorem meet_len {B : List Int} {t : Nat} {P : Pa} : (meet B t P).length = P.length := List.length_set
theorem meet_le (B : List Int) (t : Nat) (P : Pa) : LeP (meet B t P) P := by
  refine ⟨meet_len, fun r x h => ?_⟩
  rw [pat_meet] at h
  split at h
  · rename_i e
    rw [← e.1]
    exact (List.mem_filter.mp h).1
  · exact h
theorem meet_ok {c : MC} {B : List Int} {t : Nat} {P : Pa} (h : PaOk c P) : PaOk c (meet B t P) := by
  refine ⟨meet_len.trans h.len, fun L hL => ?_⟩
  rcases List.mem_or_eq_of_mem_set hL with z | z
  · exact h.can L z
  · rw [z, can_filter (h.pat t)]
    exact can_cmf _
theorem pat_out {P : Pa} {r : Nat} (h : P.length ≤ r) : pat P r = [] := by unfold pat; rw [List.getElem?_eq_none h]; rfl
/-- P was made of P0 by taking away nothing that a paper that holds has -/
structure Shr (c : MC) (P0 P : Pa) : Prop where
  ok : PaOk c P
  le : LeP P P0
  keep : ∀ H, HoldsP c H → LeP H P0 → LeP H P
theorem Shr.refl {c : MC} {P : Pa} (h : PaOk c P) : Shr c P P := ⟨h, LeP.refl P, fun _ _ h => h⟩
theorem Shr.trans {c : MC} {P P1 P2 : Pa} (a : Shr c P P1) (b : Shr c P1 P2) : Shr c P P2 := ⟨b.ok, b.le.trans a.le, fun H h z => b.keep H h (a.keep H h z)⟩
theorem Shr.meet {c : MC} {P1 P : Pa} {r : Nat} {m : MR} {t : Int} (h : Shr c P1 P) (hm : c.rows[r]? = some m) (ht : t ∈ nextR r m) : Shr c P1 (meet (behR c m (My.pat P1 r)) t.toNat P) := by
  refine ⟨meet_ok h.ok, (meet_le _ _ _).trans h.le, fun H hh hl => ?_⟩
  have hP := h.keep H hh hl
  refine ⟨hP.1.trans meet_len.symm, fun r' x hx => ?_⟩
  rw [pat_meet]
  split
  · rename_i e
    rw [List.mem_filter]
    rw [← e.1] at hx
    exact ⟨hP.2 _ _ hx, decide_eq_true (behR_mono (hl.2 r) (hh r m hm t ht x hx))⟩
  · exact hP.2 _ _ hx
theorem len_sub {L M : List Int} (h : Can L) (h' : Can M) (e : ∀ x ∈ L, x ∈ M) : L.length ≤ M.length ∧ (L.length = M.length → L = M) := by
  have hs : L.Sublist M := by
    have e1 : L = M.filter fun x => decide (x ∈ L) := by
      refine can_eq h (by rw [can_filter h']; exact can_cmf _) fun x => ?_
      rw [List.mem_filter]
      exact ⟨fun z => ⟨e x z, decide_eq_true z⟩, fun z => of_decide_eq_true z.2⟩
    rw [e1]
    exact List.filter_sublist
  exact ⟨hs.length_le, fun z => hs.eq_of_length z⟩
theorem pat_cons0 {L : List Int} {P : Pa} : pat (L :: P) 0 = L := rfl
theorem pat_cons {L : List Int} {P : Pa} {r : Nat} : pat (L :: P) (r + 1) = pat P r := rfl
theorem le_tot0 : ∀ {P P' : Pa}, (∀ L ∈ P, Can L) → (∀ L ∈ P', Can L) → LeP P P' → tot P ≤ tot P' ∧ (tot P = tot P' → P = P')
  | [], [], _, _, _ => ⟨Nat.le_refl _, fun _ => rfl⟩
  | [], _ :: _, _, _, h => nomatch h.1
  | _ :: _, [], _, _, h => nomatch h.1
  | L :: P, L' :: P', h1, h2, h => by
    have i1 := le_tot0 (P := P) (P' := P') (fun x hx => h1 x (List.mem_cons_of_mem _ hx)) (fun x hx => h2 x (List.mem_cons_of_mem _ hx)) ⟨Nat.succ.inj h.1, fun r x hx => h.2 (r + 1) x hx⟩
    have i2 := len_sub (h1 L List.mem_cons_self) (h2 L' List.mem_cons_self) (fun x hx => h.2 0 x hx)
    have e1 : tot (L :: P) = L.length + tot P := by simp [tot]
    have e2 : tot (L' :: P') = L'.length + tot P' := by simp [tot]
    rw [e1, e2]
    refine ⟨by omega, fun z => ?_⟩
    rw [i1.2 (by omega), i2.2 (by omega)]
theorem le_tot {c : MC} {P P' : Pa} (h1 : PaOk c P) (h2 : PaOk c P') (h : LeP P P') : tot P ≤ tot P' ∧ (tot P = tot P' → P = P') := le_tot0 h1.can h2.can h
theorem le_anti {c : MC} {P P' : Pa} (h1 : PaOk c P) (h2 : PaOk c P') (h : LeP P P') (h' : LeP P' P) : P = P' := (le_tot h1 h2 h).2 (Nat.le_antisymm (le_tot h1 h2 h).1 (le_tot h2 h1 h').1)
theorem tot_le0 : ∀ {P : Pa}, (∀ L ∈ P, Can L) → tot P ≤ 16 * P.length
  | [], _ => Nat.le_refl _
  | L :: P, h => by
    have i1 := tot_le0 (P := P) fun x hx => h x (List.mem_cons_of_mem _ hx)
    have i2 := (h L List.mem_cons_self).len
    have e1 : tot (L :: P) = L.length + tot P := by simp [tot]
    rw [e1, List.length_cons]; omega
theorem tot_le {c : MC} {P : Pa} (h : PaOk c P) : tot P ≤ 16 * c.rows.length := by rw [← h.len]; exact tot_le0 h.can
def full (c : MC) : Pa := List.replicate c.rows.length A16
theorem full_ok (c : MC) : PaOk c (full c) := ⟨List.length_replicate, fun L hL => by rw [List.eq_of_mem_replicate hL]; exact can_all⟩
theorem le_full {c : MC} {P : Pa} (h : PaOk c P) : LeP P (full c) := by
  refine ⟨h.len.trans (full_ok c).len.symm, fun r x hx => ?_⟩
  by_cases c1 : r < c.rows.length
  · rw [pat_of (L := A16) (by unfold full; rw [List.getElem?_replicate, if_pos c1]), mem16]
    exact (h.pat r).mem hx
  · rw [pat_out (by rw [h.len]; omega)] at hx
    cases hx
structure Great (c : MC) (G : Pa) : Prop where
  shr : Shr c (full c) G
  hold : HoldsP c G
theorem Great.uniq {c : MC} {G G' : Pa} (h : Great c G) (h' : Great c G') : G = G' :=
  le_anti h.shr.ok h'.shr.ok (h'.shr.keep G h.hold (le_full h.shr.ok)) (h.shr.keep G' h'.hold (le_full h'.shr.ok))
theorem Great.top {c : MC} {G P : Pa} (h : Great c G) (hp : PaOk c P) (hh : HoldsP c P) : LeP P G := h.shr.keep P hh (le_full hp)
/-- what holds is not made smaller -/
theorem Shr.stay {c : MC} {P P' : Pa} (h : Shr c P P') (ok : PaOk c P) (hh : HoldsP c P) : P' = P := le_anti h.ok ok h.le (h.keep P hh (LeP.refl P))
theorem LeP.sub_of_eq {c : MC} {P0 P P' : Pa} (a : Shr c P0 P) (b : LeP P' P) (ok0 : PaOk c P0) (e : P' = P0) : P = P0 := le_anti a.ok ok0 a.le (e ▸ b)
theorem tot_lt {c : MC} {P P' : Pa} (h : Shr c P P') (ok : PaOk c P) (n : P' ≠ P) : tot P' < tot P := by
  have := le_tot h.ok ok h.le
  rcases Nat.lt_or_eq_of_le this.1 with z | z
  · exact z
  · exact absurd (this.2 z) n
/-- one round over all rows: what is kept on the way -/
structure Rnd (c : MC) (P0 P : Pa) (i : Nat) : Prop where
  shr : Shr c P0 P
  cl : P = P0 → ∀ (r : Nat) (m : MR), r < i → c.rows[r]? = some m → Closed1 c P0 r m
theorem Rnd.zero {c : MC} {P0 : Pa} (h : PaOk c P0) : Rnd c P0 P0 0 := ⟨Shr.refl h, fun _ _ _ z => absurd z (Nat.not_lt_zero _)⟩
theorem Rnd.step {c : MC} {P0 P P' : Pa} {i : Nat} {m : MR} (ok0 : PaOk c P0) (h : Rnd c P0 P i) (hm : c.rows[i]? = some m) (hs : Shr c P P') (hc : ∀ t ∈ nextR i m, ∀ x ∈ pat P' t.toNat, x ∈ behR c m (pat P i)) : Rnd c P0 P' (i + 1) := by
  refine ⟨h.shr.trans hs, fun e r m' hr hm' => ?_⟩
  have eP : P = P0 := LeP.sub_of_eq h.shr hs.le ok0 e
  by_cases c1 : r = i
  · subst c1
    rw [hm] at hm'; cases hm'
    rw [e, eP] at hc
    exact hc
  · exact h.cl eP r m' (by omega) hm'
theorem Rnd.done {c : MC} {P0 P : Pa} (h : Rnd c P0 P c.rows.length) (e : P = P0) : HoldsP c P0 := fun r m hm => h.cl e r m (List.getElem?_eq_some_iff.mp hm).1 hm
/-- after k rounds -/
theorem rounds {c : MC} {P P' : Pa} {k : Nat} (ok : PaOk c P) (h : HoldsP c P ∨ tot P + k ≤ 16 * c.rows.length) (hr : Rnd c P P' c.rows.length) : HoldsP c P' ∨ tot P' + (k + 1) ≤ 16 * c.rows.length := by
  rcases h with h | h
  · rw [hr.shr.stay ok h]; exact .inl h
  · by_cases e : P' = P
    · rw [e]; exact .inl (hr.done e)
    · have := tot_lt hr.shr ok e
      exact .inr (by omega)
end My

set_option Elab.async false
set_option linter.all false
set_option maxRecDepth 100000
set_option maxHeartbeats 4000000
namespace My
open PySem PySem.Spec PyProof.Rows L2 Mi
local macro_rules | `(tactic| walk_at "mi") => `(tactic| try simp only [↓w_vr, ↓w_cn, ↓w_e2, ↓w_tup, ↓w_lst, ↓w_aN, ↓w_aC, ↓w_call, ↓w_B, ↓w_M, ↓w_oN, ↓w_oS, ↓w_sl, ↓w_B1, ↓w_Tl, ↓w_An, ↓w_Or, ↓w_No, ↓w_eAn, ↓w_eO, ↓w_eNo, ↓w_eNeg, ↓w_eIf, ↓w_ch, ↓w_Dn, ↓w_lRg1, ↓w_trg1, ↓w_yes, ↓ws_forS, ↓ws_forG, ↓w_lcS, ↓w_lcG, ↓w_dcS, ↓w_dcG, items_tup, items_rol, ↓ws_seq, ↓ws_skip, ↓ws_set, ↓ws_ex, ↓ws_ret, ↓ws_retN, ↓ws_bk, ↓ws_ct, ↓ws_if, ↓ws_asg, ↓ws_dput, ↓ws_daug, ↓ws_lput, ↓ws_aug, ↓wp_some, ↓wp_none, ↓wp_if, ↓wp_map, ↓wf_ok, ↓asI_int, ↓asBl_bl,
  List.getElem?_cons_zero, List.getElem?_cons_succ, List.set_cons_zero, List.set_cons_succ, opI_int, addD_int, mulD_int, intB_int, intB_bl, absB_int, lenB_rol, lenB_tup, ixD_rol, ixD_tup, atI0, atI1, atI2, atI3, atI4, asgT_n, tyQ, appQ, slQ, slD_tup, wipeE, List.length_cons, List.length_nil, List.length_map, true_and, and_true, decide_true, ↓reduceIte, bl_t, List.map_cons, List.map_nil, List.cons_append, List.nil_append, List.replicate_succ, List.replicate_zero, Nat.reduceAdd, Nat.reduceLeDiff, Int.reduceLT, Int.reduceLE, Int.reduceNeg, Int.reduceSub, eqD_str, eqD_int, neD_int, ofStr_eq, String.reduceEq, decide_false, decide_true, in_tupS, in_tints, flatD_str, flatD_int, List.all_cons, List.all_nil, List.any_cons, List.any_nil, eqF_str, Bool.and_true, Bool.and_self, Bool.or_false, Bool.or_true, Bool.true_or, Bool.false_or, Bool.false_eq_true, Bool.not_true, Bool.not_false, in_top, ixD_top, tupB_top, items_top, lenB_top, tru_bl, asgT_2, asgT_3, ↓w_pN, ↓w_pC, ↓w_Dct, ixD_tup, Int.cast_ofNat_Int, Int.reduceEq, ↓w_DGet2, ↓w_callV, ↓ws_laug, neD_str, ↓ws_forG2, lstB_tup, eqD_bl, neD_bl, isD_non, isD_ref, isD_tup, isD_int, isD_str, isD_bl, isNotD_non, isNotD_ref, isNotD_tup, isNotD_int, isNotD_str, isNotD_bl, isiT_tup, isiT_int, isiT_str, isiT_bl, isiT_non, ↓w_lcG2, ↓ws_forZ, ↓w_lcZ, asT_tup, addI_int, gtD_int, isi_tup_tuple, isi_tup_str, isi_tup_int, isi_tup_bool, isi_tup_list, isi_str_tuple, isi_str_str, isi_str_int, isi_str_bool, isi_str_list, isi_int_tuple, isi_int_str, isi_int_int, isi_int_bool, isi_int_list, isi_bl_tuple, isi_bl_str, isi_bl_int, isi_bl_bool, isi_bl_list, isi_non_tuple, isi_non_str, isi_non_int, isi_non_bool, isi_non_list])

/-! ### the text of a paper -/
theorem textFrom_len2 : ∀ (ts : List Str) (k : Nat) (acc : Str), (textFrom k acc ts).length = acc.length + (ts.map (·.length)).sum + 2 * (ts.length - if k > 0 then 0 else 1)
  | [], k, acc => by show acc.length = _; simp
  | t :: r, k, acc => by
    have e : (acc ++ (if k > 0 then ", " else "" : String) ++ t).length = acc.length + (if k > 0 then 2 else 0) + t.length := by
      rw [strLen_append, strLen_append]
      split
      · rw [show Str.length ((", " : String) : Str) = 2 from by decide +kernel]
      · rw [show Str.length (("" : String) : Str) = 0 from by decide +kernel]
    have h := textFrom_len2 r (k + 1) (acc ++ (if k > 0 then ", " else "" : String) ++ t)
    show (textFrom (k + 1) (acc ++ (if k > 0 then ", " else "" : String) ++ t) r).length = _
    rw [h, e, if_pos (Nat.succ_pos k)]
    simp only [List.map_cons, List.sum_cons, List.length_cons]
    split <;> omega
theorem listText_len2 (ts : List Str) : (listText ts).length = (ts.map (·.length)).sum + 2 * (ts.length - 1) + 2 := by
  unfold listText
  rw [strLen_append, textFrom_len2, if_neg (Nat.lt_irrefl 0), show Str.length ("[" : Str) = 1 from by decide +kernel, show Str.length ("]" : Str) = 1 from by decide +kernel]
  omega
theorem shownAll_map (xs : List PyData) : PyData.shownAll xs = xs.map PyData.shown := by
  induction xs with
  | nil => rfl
  | cons x xs ih => show PyData.shown x :: PyData.shownAll xs = _; rw [ih]; rfl
def wI (x : Int) : Nat := (PyData.int x).shown.length
def wL (L : List Int) : Nat := (PyData.list (L.map PyData.int)).shown.length
def paP (P : Pa) : PyData := .list (P.map fun L => .list (L.map PyData.int))
def wP (P : Pa) : Nat := (paP P).shown.length
theorem wL_eq (L : List Int) : wL L = (L.map wI).sum + 2 * (L.length - 1) + 2 := by
  show (listText (PyData.shownAll (L.map PyData.int))).length = _
  rw [listText_len2, shownAll_map, List.map_map, List.map_map]
  simp only [List.length_map]
  rfl
theorem wP_eq (P : Pa) : wP P = (P.map wL).sum + 2 * (P.length - 1) + 2 := by
  show (listText (PyData.shownAll (P.map _))).length = _
  rw [listText_len2, shownAll_map, List.map_map, List.map_map]
  simp only [List.length_map]
  rfl
theorem wI_16 : ∀ x ∈ A16, 1 ≤ wI x ∧ wI x ≤ 2 := by decide +kernel
theorem sum_sub {L M : List Int} (h : L.Sublist M) : (∀ x ∈ M, 1 ≤ wI x) → (L.map wI).sum + M.length ≤ (M.map wI).sum + L.length := by
  induction h with
  | slnil => intro _; exact Nat.le_refl _
  | cons a h ih =>
    intro q
    have := ih fun x hx => q x (List.mem_cons_of_mem _ hx)
    have := q a List.mem_cons_self
    simp only [List.map_cons, List.sum_cons, List.length_cons]
    omega
  | cons_cons a h ih =>
    intro q
    have := ih fun x hx => q x (List.mem_cons_of_mem _ hx)
    simp only [List.map_cons, List.sum_cons, List.length_cons]
    omega
theorem can_sub {L M : List Int} (h : Can L) (h' : Can M) (e : ∀ x ∈ L, x ∈ M) : L.Sublist M := by
  have e1 : L = M.filter fun x => decide (x ∈ L) := by
    refine can_eq h (by rw [can_filter h']; exact can_cmf _) fun x => ?_
    rw [List.mem_filter]
    exact ⟨fun z => ⟨e x z, decide_eq_true z⟩, fun z => of_decide_eq_true z.2⟩
  rw [e1]
  exact List.filter_sublist
theorem wL_sub {L M : List Int} (h : Can L) (h' : Can M) (e : ∀ x ∈ L, x ∈ M) : wL L ≤ wL M ∧ (wL L = wL M → L = M) := by
  have hs := can_sub h h' e
  have q := sum_sub hs fun x hx => (wI_16 x (mem16.mpr (h'.mem hx))).1
  have l := hs.length_le
  rw [wL_eq, wL_eq]
  refine ⟨by omega, fun z => hs.eq_of_length ?_⟩
  cases M with
  | nil => exact Nat.le_antisymm l (Nat.zero_le _)
  | cons a M => simp only [List.length_cons] at *; omega
theorem wL_le {L : List Int} (h : Can L) : wL L ≤ 66 := by
  rw [wL_eq]
  have l := h.len
  have : ∀ M : List Int, (∀ x ∈ M, wI x ≤ 2) → (M.map wI).sum ≤ 2 * M.length := by
    intro M
    induction M with
    | nil => intro _; exact Nat.le_refl _
    | cons a M ih =>
      intro q
      have := ih fun x hx => q x (List.mem_cons_of_mem _ hx)
      have := q a List.mem_cons_self
      simp only [List.map_cons, List.sum_cons, List.length_cons]
      omega
  have := this L fun x hx => (wI_16 x (mem16.mpr (h.mem hx))).2
  omega
theorem wP_sub0 : ∀ {P P' : Pa}, (∀ L ∈ P, Can L) → (∀ L ∈ P', Can L) → LeP P P' → (P.map wL).sum ≤ (P'.map wL).sum ∧ ((P.map wL).sum = (P'.map wL).sum → P = P')
  | [], [], _, _, _ => ⟨Nat.le_refl _, fun _ => rfl⟩
  | [], _ :: _, _, _, h => nomatch h.1
  | _ :: _, [], _, _, h => nomatch h.1
  | L :: P, L' :: P', h1, h2, h => by
    have i1 := wP_sub0 (P := P) (P' := P') (fun x hx => h1 x (List.mem_cons_of_mem _ hx)) (fun x hx => h2 x (List.mem_cons_of_mem _ hx)) ⟨Nat.succ.inj h.1, fun r x hx => h.2 (r + 1) x hx⟩
    have i2 := wL_sub (h1 L List.mem_cons_self) (h2 L' List.mem_cons_self) (fun x hx => h.2 0 x hx)
    simp only [List.map_cons, List.sum_cons]
    refine ⟨by omega, fun z => ?_⟩
    rw [i1.2 (by omega), i2.2 (by omega)]
theorem shown_eq {c : MC} {P P' : Pa} (h : PaOk c P) (h' : PaOk c P') (l : LeP P P') (e : (paP P).shown = (paP P').shown) : P = P' := by
  have e1 : wP P = wP P' := congrArg Str.length e
  rw [wP_eq, wP_eq, l.1] at e1
  exact (wP_sub0 h.can h'.can l).2 (by omega)
theorem noDict0 : ∀ L : List Int, PyData.hasDictAll (L.map PyData.int) = false
  | [] => rfl
  | a :: L => by show (false || PyData.hasDictAll (L.map _)) = false; rw [Bool.false_or]; exact noDict0 L
theorem noDict : ∀ P : Pa, (paP P).hasDict = false
  | [] => rfl
  | L :: P => by
    show (PyData.hasDictAll (L.map PyData.int) || PyData.hasDictAll (P.map _)) = false
    rw [noDict0 L, Bool.false_or]; exact noDict P
theorem repr_okP {c : MC} {P : Pa} (h : PaOk c P) (hn : c.rows.length ≤ 3000) : reprOk (paP P) = true := by
  have h1 : (paP P).showable = true := by
    show PyData.showableAll _ = true
    have : ∀ Q : Pa, (∀ L ∈ Q, Can L) → PyData.showableAll (Q.map fun L => PyData.list (L.map PyData.int)) = true := by
      intro Q
      induction Q with
      | nil => intro _; rfl
      | cons L Q ih =>
        intro q
        show (PyData.showableAll (L.map PyData.int) && PyData.showableAll (Q.map _)) = true
        rw [ih fun x hx => q x (List.mem_cons_of_mem _ hx), Bool.and_true]
        have hm : ∀ x ∈ L, x ∈ A16 := fun x hx => mem16.mpr ((q L List.mem_cons_self).mem hx)
        generalize L = L at hm
        induction L with
        | nil => rfl
        | cons a L ih2 =>
          show (PyData.showable (.int a) && PyData.showableAll (L.map _)) = true
          rw [ih2 fun x hx => hm x (List.mem_cons_of_mem _ hx), Bool.and_true]
          have : ∀ x ∈ A16, PyData.showable (.int x) = true := by decide +kernel
          exact this a (hm a List.mem_cons_self)
    exact this P h.can
  have h2 : (paP P).hasDict = false := noDict P
  have h3 : (paP P).depth ≤ 40 := by
    have : PyData.depthAll (P.map fun L => PyData.list (L.map PyData.int)) ≤ 2 := depAll (k := 2) fun p hp => by
      obtain ⟨L, _, rfl⟩ := List.mem_map.mp hp
      have hq : shAll 0 (L.map PyData.int) := fun x hx => by
        obtain ⟨a, _, rfl⟩ := List.mem_map.mp hx
        exact ⟨rfl, Nat.le_refl 0⟩
      refine ⟨?_, ?_⟩
      · show PyData.canLayAll0 _ = true
        exact canAll hq
      · have := depAll hq
        show PyData.depthAll _ + 1 ≤ 2
        omega
    show PyData.depthAll _ + 1 ≤ 40
    omega
  have h4 : (paP P).shown.length ≤ 16777216 := by
    show wP P ≤ _
    rw [wP_eq]
    have : ∀ Q : Pa, (∀ L ∈ Q, Can L) → (Q.map wL).sum ≤ 66 * Q.length := by
      intro Q
      induction Q with
      | nil => intro _; exact Nat.le_refl _
      | cons L Q ih =>
        intro q
        have := ih fun x hx => q x (List.mem_cons_of_mem _ hx)
        have := wL_le (q L List.mem_cons_self)
        simp only [List.map_cons, List.sum_cons, List.length_cons]
        omega
    have := this P h.can
    have := h.len
    omega
  unfold reprOk
  rw [h1, h2, decide_eq_true h3, decide_eq_true h4]; rfl
end My

set_option Elab.async false
set_option linter.all false
set_option maxRecDepth 100000
set_option maxHeartbeats 4000000
namespace My
open PySem PySem.Spec PyProof.Rows L2 Mi
local macro_rules | `(tactic| walk_at "mi") => `(tactic| try simp only [↓w_vr, ↓w_cn, ↓w_e2, ↓w_tup, ↓w_lst, ↓w_aN, ↓w_aC, ↓w_call, ↓w_B, ↓w_M, ↓w_oN, ↓w_oS, ↓w_sl, ↓w_B1, ↓w_Tl, ↓w_An, ↓w_Or, ↓w_No, ↓w_eAn, ↓w_eO, ↓w_eNo, ↓w_eNeg, ↓w_eIf, ↓w_ch, ↓w_Dn, ↓w_lRg1, ↓w_trg1, ↓w_yes, ↓ws_forS, ↓ws_forG, ↓w_lcS, ↓w_lcG, ↓w_dcS, ↓w_dcG, items_tup, items_rol, ↓ws_seq, ↓ws_skip, ↓ws_set, ↓ws_ex, ↓ws_ret, ↓ws_retN, ↓ws_bk, ↓ws_ct, ↓ws_if, ↓ws_asg, ↓ws_dput, ↓ws_daug, ↓ws_lput, ↓ws_aug, ↓wp_some, ↓wp_none, ↓wp_if, ↓wp_map, ↓wf_ok, ↓asI_int, ↓asBl_bl,
  List.getElem?_cons_zero, List.getElem?_cons_succ, List.set_cons_zero, List.set_cons_succ, opI_int, addD_int, mulD_int, intB_int, intB_bl, absB_int, lenB_rol, lenB_tup, ixD_rol, ixD_tup, atI0, atI1, atI2, atI3, atI4, asgT_n, tyQ, appQ, slQ, slD_tup, wipeE, List.length_cons, List.length_nil, List.length_map, true_and, and_true, decide_true, ↓reduceIte, bl_t, List.map_cons, List.map_nil, List.cons_append, List.nil_append, List.replicate_succ, List.replicate_zero, Nat.reduceAdd, Nat.reduceLeDiff, Int.reduceLT, Int.reduceLE, Int.reduceNeg, Int.reduceSub, eqD_str, eqD_int, neD_int, ofStr_eq, String.reduceEq, decide_false, decide_true, in_tupS, in_tints, flatD_str, flatD_int, List.all_cons, List.all_nil, List.any_cons, List.any_nil, eqF_str, Bool.and_true, Bool.and_self, Bool.or_false, Bool.or_true, Bool.true_or, Bool.false_or, Bool.false_eq_true, Bool.not_true, Bool.not_false, in_top, ixD_top, tupB_top, items_top, lenB_top, tru_bl, asgT_2, asgT_3, ↓w_pN, ↓w_pC, ↓w_Dct, ixD_tup, Int.cast_ofNat_Int, Int.reduceEq, ↓w_DGet2, ↓w_callV, ↓ws_laug, neD_str, ↓ws_forG2, lstB_tup, eqD_bl, neD_bl, isD_non, isD_ref, isD_tup, isD_int, isD_str, isD_bl, isNotD_non, isNotD_ref, isNotD_tup, isNotD_int, isNotD_str, isNotD_bl, isiT_tup, isiT_int, isiT_str, isiT_bl, isiT_non, ↓w_lcG2, ↓ws_forZ, ↓w_lcZ, asT_tup, addI_int, gtD_int, isi_tup_tuple, isi_tup_str, isi_tup_int, isi_tup_bool, isi_tup_list, isi_str_tuple, isi_str_str, isi_str_int, isi_str_bool, isi_str_list, isi_int_tuple, isi_int_str, isi_int_int, isi_int_bool, isi_int_list, isi_bl_tuple, isi_bl_str, isi_bl_int, isi_bl_bool, isi_bl_list, isi_non_tuple, isi_non_str, isi_non_int, isi_non_bool, isi_non_list])

/-! ### papers as lists in the store -/
structure PL (s : S) (p : Nat) (P : Pa) : Prop where
  ex : ∃ qs : List Nat, s[p]? = some (.lst (qs.map D.ref)) ∧ qs.length = P.length ∧ ∀ i q, qs[i]? = some q → q ≠ p ∧ s[q]? = some (.lst ((pat P i).map D.int))
theorem PL.gr {s s' : S} {p : Nat} {P : Pa} (h : PL s p P) (G : Gr s s') : PL s' p P :=
  let ⟨qs, h1, h2, h3⟩ := h.ex
  ⟨qs, G.get h1, h2, fun i q e => ⟨(h3 i q e).1, G.get (h3 i q e).2⟩⟩
theorem PL.len {s : S} {p : Nat} {P : Pa} (h : PL s p P) : lenB [.ref p] s = some (.int (P.length : Int), s) := by
  obtain ⟨qs, h1, h2, h3⟩ := h.ex
  rw [lenB_ref h1, List.length_map, h2]
theorem PL.lt {s : S} {p : Nat} {P : Pa} (h : PL s p P) : p < s.length := let ⟨_, h1, _, _⟩ := h.ex; (List.getElem?_eq_some_iff.mp h1).1
theorem PL.ix {s : S} {p : Nat} {P : Pa} {t : Int} (h : PL s p P) (h0 : 0 ≤ t) (ht : t < P.length) : ∃ q, ixD (.ref p) (.int t) s = some (.ref q, s) ∧ q ≠ p ∧ s[q]? = some (.lst ((pat P t.toNat).map D.int)) := by
  obtain ⟨qs, h1, h2, h3⟩ := h.ex
  have hl : t.toNat < qs.length := by omega
  have hq : qs[t.toNat]? = some qs[t.toNat] := List.getElem?_eq_some_iff.mpr ⟨hl, rfl⟩
  refine ⟨qs[t.toNat], ?_, (h3 _ _ hq).1, (h3 _ _ hq).2⟩
  rw [ixD_ref h1]
  have : atI (qs.map D.ref) t = some (.ref qs[t.toNat]) := by
    have e : t = ((t.toNat : Nat) : Int) := by omega
    conv => lhs; rw [e]
    refine atI_nat' ?_
    rw [List.getElem?_map, hq]; rfl
  rw [this]; rfl
theorem pat_set {P : Pa} {t r : Nat} {L : List Int} (ht : t < P.length) : pat (P.set t L) r = if t = r then L else pat P r := by
  show ((P.set t L)[r]?).getD [] = _
  rw [List.getElem?_set]
  by_cases c1 : t = r
  · rw [if_pos c1, if_pos ht, if_pos c1]; rfl
  · rw [if_neg c1, if_neg c1]; rfl
theorem PL.put {s : S} {p q : Nat} {P : Pa} {t : Int} {L : List Int} (h : PL s p P) (h0 : 0 ≤ t) (ht : t < P.length) (hq : s[q]? = some (.lst (L.map D.int))) (hn : q ≠ p) :
    ∃ s', setLD (.ref p) (.int t) (.ref q) s = some s' ∧ PL s' p (P.set t.toNat L) ∧ Fr p s s' := by
  obtain ⟨qs, h1, h2, h3⟩ := h.ex
  refine ⟨_, setL_of h1 h0 (by rw [List.length_map, h2]; exact ht), ⟨qs.set t.toNat q, ?_, by rw [List.length_set, List.length_set]; exact h2, fun i q' e => ?_⟩, (Fr.refl p s).set (.inl rfl)⟩
  · rw [← List.map_set, List.getElem?_set_self (List.getElem?_eq_some_iff.mp h1).1]
  · rw [List.getElem?_set] at e
    rw [pat_set (by omega)]
    by_cases c1 : t.toNat = i
    · rw [if_pos c1] at e
      split at e
      · cases e
        rw [if_pos c1]
        exact ⟨hn, by rw [List.getElem?_set_ne (fun z => hn z.symm)]; exact hq⟩
      · cases e
    · rw [if_neg c1] at e
      rw [if_neg c1]
      have := h3 i q' e
      exact ⟨this.1, by rw [List.getElem?_set_ne (fun z => this.1 z.symm)]; exact this.2⟩
theorem PL.dat {s : S} {p : Nat} {P : Pa} (h : PL s p P) : toP 60 s (.ref p) = some (paP P) := by
  obtain ⟨qs, h1, h2, h3⟩ := h.ex
  have e : (qs.map D.ref).mapM (toP 59 s) = some (P.map fun L => PyData.list (L.map PyData.int)) := by
    have key : ∀ (zs : List Nat) (R : Pa), zs.length = R.length → (∀ (i z : Nat), zs[i]? = some z → s[z]? = some (.lst ((pat R i).map D.int))) → (zs.map D.ref).mapM (Mi.toP 59 s) = some (R.map fun L => PyData.list (L.map PyData.int)) := by
      intro zs
      induction zs with
      | nil =>
        intro R hl _
        cases R with
        | nil => rfl
        | cons => cases hl
      | cons z zs ih =>
        intro R hl q
        cases R with
        | nil => cases hl
        | cons L R =>
          have a1 : Mi.toP 59 s (.ref z) = some (PyData.list (L.map PyData.int)) := by
            show (match s[z]? with | some (.lst ds) => (ds.mapM (Mi.toP 58 s)).map PyData.list | _ => none) = _
            rw [q 0 z rfl]
            show ((L.map D.int).mapM (Mi.toP 58 s)).map PyData.list = _
            rw [mapM_map (Mi.toP 58 s) D.int PyData.int (fun _ => rfl) L]; rfl
          rw [List.map_cons, List.mapM_cons, a1, ih R (Nat.succ.inj hl) fun i x hx => q (i + 1) x hx]; rfl
    exact key qs P h2 fun i z hz => (h3 i z hz).2
  show (match s[p]? with | some (.lst ds) => (ds.mapM (Mi.toP 59 s)).map PyData.list | _ => none) = _
  rw [h1]
  show ((qs.map D.ref).mapM (Mi.toP 59 s)).map PyData.list = _
  rw [e]; rfl
theorem PL.repr {c : MC} {s : S} {p : Nat} {P : Pa} (h : PL s p P) (ok : PaOk c P) (hn : c.rows.length ≤ 3000) : reprB [.ref p] s = some (.str (paP P).shown, s) := by
  unfold reprB
  simp only [h.dat, repr_okP ok hn, ↓reduceIte]
/-- [one for one in xs if one in ys] -/
theorem cs_in {neg : Bool} {i ib : Nat} {ok : S → Prop} {env : Mi.Env} {L B : List Int} {bd : D} {s : S} {Q : D → S → Prop} (hok : ok s) (hl : L.length ≤ 16777216) (hi : ∀ x : Int, (((wipeE env [i])).set i (some (.int x)))[i]? = some (some (D.int x)))
    (hb : ∀ x : Int, (((wipeE env [i])).set i (some (.int x)))[ib]? = some (some bd)) (hB : itemsD bd s = some (B.map D.int))
    (k : Q (.ref s.length) (s ++ [.lst ((L.filter fun x => if neg then !decide (x ∈ B) else decide (x ∈ B)).map D.int)])) : CS (.n i) [i] (tB1 (e2 (inD neg) (vr i) (vr ib))) (vr i) ok env (L.map D.int) s Q := by
  refine cs_map (xs := L) D.int (fun x => if (if neg then !decide (x ∈ B) else decide (x ∈ B)) = true then some (D.int x) else none) (fun st => st = s) hok hl rfl ?_ ?_
  · rintro x st hx rfl hk
    simp only [asgT_n, wp_some, w_B1, w_e2, w_vr, hi x, hb x, in_seq hB, asBl_bl]
    generalize (if neg = true then !decide (x ∈ B) else decide (x ∈ B)) = z
    cases z with
    | true => simpa using hk
    | false => simpa using hk
  · rintro st rfl _
    rw [fm_if (P := fun x => if neg then !decide (x ∈ B) else decide (x ∈ B))]
    exact k

theorem lg_round {c : MC} (ok : c.Ok) {p : Nat} {P : Pa} {y2 y3 y4 y5 y6 y7 y8 y9 : Option D} {st : S} {N : Mi.Env → S → Prop} {Rt : D → S → Prop} {B C : Mi.Env → S → Prop} (hp : PL st p P) (hP : PaOk c P)
    (k : ∀ (xr xb xw : Option D) st' P', Fr p st st' → PL st' p P' → Rnd c P P' c.rows.length → N [some c.enc, some (.ref p), y2, y3, y4, xr, xb, xw, y8, y9] st') :
    FS (.n 5) g_law_greatest_b2 okT (rng 0 P.length) [some c.enc, some (.ref p), y2, y3, y4, y5, y6, y7, y8, y9] st N Rt B C := by
  have hn := hP.len
  have n2 := ok.n2
  refine fs_rng (fun i env st' => (∃ xr xb xw : Option D, env = [some c.enc, some (.ref p), y2, y3, y4, xr, xb, xw, y8, y9]) ∧ ∃ P', Fr p st st' ∧ PL st' p P' ∧ Rnd c P P' i) ⟨⟨_, _, _, rfl⟩, P, Fr.refl p st, hp, Rnd.zero hP⟩ ?_ ?_
  · rintro i env st1 hi ⟨⟨xr, xb, xw, rfl⟩, P1, hF1, hp1, hR1⟩
    have hl1 : P1.length = c.rows.length := hR1.shr.ok.len
    rw [asgT_n, wp_some]
    unfold g_law_greatest_b2
    walk_at "mi"
    obtain ⟨m, hm⟩ : ∃ m, c.rows[i]? = some m := ⟨_, List.getElem?_eq_some_iff.mpr ⟨by omega, rfl⟩⟩
    obtain ⟨q1, e1, n1, hq1⟩ := hp1.ix (t := (i : Int)) (by omega) (by omega)
    rw [e1]
    walk_at "mi"
    rw [Int.toNat_natCast] at hq1
    refine law_behind_ok ok.g1 hm (ok.row i m hm) (hR1.shr.ok.pat i) (items_ref hq1) fun qb st2 hG2 hqb hb => ?_
    walk_at "mi"
    refine law_ways_ok hm fun qw st3 hG3 hqw hw => ?_
    walk_at "mi"
    rw [items_ref hw]
    walk_at "mi"
    have hp3 := hp1.gr (hG2.trans hG3)
    have pb : qb ≠ p := fun z => by have := hp1.lt; omega
    have pw : qw ≠ p := fun z => by have := hp1.lt; have := hG2.1; omega
    have hb3 := hG3.get hb
    refine fs_inv (fun j env st4 => (∃ x : Option D, env = [some c.enc, some (.ref p), y2, y3, y4, some (.int (i : Int)), some (.ref qb), x, y8, y9]) ∧ ∃ P', Fr p st3 st4 ∧ PL st4 p P' ∧ Shr c P1 P' ∧ ∀ t ∈ (nextR i m).take j, ∀ x ∈ pat P' t.toNat, x ∈ behR c m (pat P1 i)) (okD_ref.mpr hw) ⟨⟨_, rfl⟩, P1, Fr.refl p st3, hp3, Shr.refl hR1.shr.ok, fun t ht => by simp at ht⟩ ?_ ?_
    · rintro j d env st4 hj ⟨⟨x, rfl⟩, P4, hF4, hp4, hS4, hc4⟩ hok
      rw [List.getElem?_map] at hj
      cases ht : (nextR i m)[j]? with
      | none => rw [ht] at hj; cases hj
      | some t =>
        rw [ht] at hj; cases hj
        have tm := List.mem_of_getElem? ht
        have t0 := nextR_ok (ok.row i m hm) t tm
        have hl4 : P4.length = c.rows.length := hS4.ok.len
        rw [asgT_n, wp_some]
        unfold g_law_greatest_b1
        walk_at "mi"
        obtain ⟨q4, e4, n4, hq4⟩ := hp4.ix t0.1 (by omega)
        rw [e4]
        walk_at "mi"
        rw [items_ref hq4]
        walk_at "mi"
        have hb4 := hF4.get hb3 pb
        refine cs_in (neg := false) (okD_ref.mpr hq4) (Nat.le_trans (hS4.ok.pat _).len (by decide)) (fun x => rfl) (fun x => rfl) (items_ref hb4) ?_
        walk_at "mi"
        have hp5 := hp4.gr (Gr.app st4 [O.lst (((pat P4 t.toNat).filter fun x => decide (x ∈ behR c m (pat P1 i))).map D.int)])
        obtain ⟨s', e5, hp6, hF6⟩ := hp5.put t0.1 (by omega) top_get (fun z => by have := hp4.lt; omega)
        rw [e5]
        walk_at "mi"
        have hF7 : Fr p st4 s' := (Gr.app _ _).fr.trans hF6
        refine ⟨okD_ref.mpr (hF7.get (okD_ref.mp hok) pw), ⟨_, rfl⟩, P4.set t.toNat _, hF4.trans hF7, hp6, hS4.meet hm tm, fun t' ht' x hx => ?_⟩
        have hx : x ∈ pat (meet (behR c m (pat P1 i)) t.toNat P4) t'.toNat := hx
        rw [List.take_add_one, ht, Option.toList_some] at ht'
        rcases List.mem_append.mp ht' with z | z
        · exact hc4 t' z x ((meet_le _ _ _).2 _ x hx)
        · rw [List.mem_singleton.mp z, pat_meet, if_pos ⟨rfl, by omega⟩, List.mem_filter] at hx
          exact of_decide_eq_true hx.2
    · rintro env st4 ⟨⟨x, rfl⟩, P4, hF4, hp4, hS4, hc4⟩ hok
      rw [List.length_map, List.take_length] at hc4
      exact ⟨⟨_, _, _, rfl⟩, P4, hF1.trans ((hG2.trans hG3).fr.trans hF4), hp4, hR1.step hP hm hS4 hc4⟩
  · rintro env st1 ⟨⟨xr, xb, xw, rfl⟩, P1, hF1, hp1, hR1⟩
    exact k _ _ _ st1 P1 hF1 hp1 (by rw [hn] at hR1; exact hR1)

end My

set_option Elab.async false
set_option linter.all false
set_option maxRecDepth 100000
set_option maxHeartbeats 4000000
namespace My
open PySem PySem.Spec PyProof.Rows L2 Mi
local macro_rules | `(tactic| walk_at "mi") => `(tactic| try simp only [↓w_vr, ↓w_cn, ↓w_e2, ↓w_tup, ↓w_lst, ↓w_aN, ↓w_aC, ↓w_call, ↓w_B, ↓w_M, ↓w_oN, ↓w_oS, ↓w_sl, ↓w_B1, ↓w_Tl, ↓w_An, ↓w_Or, ↓w_No, ↓w_eAn, ↓w_eO, ↓w_eNo, ↓w_eNeg, ↓w_eIf, ↓w_ch, ↓w_Dn, ↓w_lRg1, ↓w_trg1, ↓w_yes, ↓ws_forS, ↓ws_forG, ↓w_lcS, ↓w_lcG, ↓w_dcS, ↓w_dcG, items_tup, items_rol, ↓ws_seq, ↓ws_skip, ↓ws_set, ↓ws_ex, ↓ws_ret, ↓ws_retN, ↓ws_bk, ↓ws_ct, ↓ws_if, ↓ws_asg, ↓ws_dput, ↓ws_daug, ↓ws_lput, ↓ws_aug, ↓wp_some, ↓wp_none, ↓wp_if, ↓wp_map, ↓wf_ok, ↓asI_int, ↓asBl_bl,
  List.getElem?_cons_zero, List.getElem?_cons_succ, List.set_cons_zero, List.set_cons_succ, opI_int, addD_int, mulD_int, intB_int, intB_bl, absB_int, lenB_rol, lenB_tup, ixD_rol, ixD_tup, atI0, atI1, atI2, atI3, atI4, asgT_n, tyQ, appQ, slQ, slD_tup, wipeE, List.length_cons, List.length_nil, List.length_map, true_and, and_true, decide_true, ↓reduceIte, bl_t, List.map_cons, List.map_nil, List.cons_append, List.nil_append, List.replicate_succ, List.replicate_zero, Nat.reduceAdd, Nat.reduceLeDiff, Int.reduceLT, Int.reduceLE, Int.reduceNeg, Int.reduceSub, eqD_str, eqD_int, neD_int, ofStr_eq, String.reduceEq, decide_false, decide_true, in_tupS, in_tints, flatD_str, flatD_int, List.all_cons, List.all_nil, List.any_cons, List.any_nil, eqF_str, Bool.and_true, Bool.and_self, Bool.or_false, Bool.or_true, Bool.true_or, Bool.false_or, Bool.false_eq_true, Bool.not_true, Bool.not_false, in_top, ixD_top, tupB_top, items_top, lenB_top, tru_bl, asgT_2, asgT_3, ↓w_pN, ↓w_pC, ↓w_Dct, ixD_tup, Int.cast_ofNat_Int, Int.reduceEq, ↓w_DGet2, ↓w_callV, ↓ws_laug, neD_str, ↓ws_forG2, lstB_tup, eqD_bl, neD_bl, isD_non, isD_ref, isD_tup, isD_int, isD_str, isD_bl, isNotD_non, isNotD_ref, isNotD_tup, isNotD_int, isNotD_str, isNotD_bl, isiT_tup, isiT_int, isiT_str, isiT_bl, isiT_non, ↓w_lcG2, ↓ws_forZ, ↓w_lcZ, asT_tup, addI_int, gtD_int, isi_tup_tuple, isi_tup_str, isi_tup_int, isi_tup_bool, isi_tup_list, isi_str_tuple, isi_str_str, isi_str_int, isi_str_bool, isi_str_list, isi_int_tuple, isi_int_str, isi_int_int, isi_int_bool, isi_int_list, isi_bl_tuple, isi_bl_str, isi_bl_int, isi_bl_bool, isi_bl_list, isi_non_tuple, isi_non_str, isi_non_int, isi_non_bool, isi_non_list])

/-! ### the law's greatest paper -/
def tupP (P : Pa) : D := .tup (P.map fun L => .tup (L.map D.int))
/-- tuple([tuple(member) for member in paper]) -/
theorem cs_tuples {i : Nat} {env : Mi.Env} {p : Nat} {P : Pa} {s : S} {Q : D → S → Prop} {qs : List Nat} (h1 : s[p]? = some (.lst (qs.map D.ref))) (h2 : qs.length = P.length) (h3 : ∀ (j q : Nat), qs[j]? = some q → q ≠ p ∧ s[q]? = some (.lst ((pat P j).map D.int))) (hl : P.length ≤ 16777216)
    (hi : ∀ x : D, (((wipeE env [i])).set i (some x))[i]? = some (some x)) (k : ∀ s', Gr s s' → s'[s.length]? = some (.lst (P.map fun L => .tup (L.map D.int))) → Q (.ref s.length) s') : CS (.n i) [i] yes (eB tupB (aC (vr i) aN)) (okD (.ref p) (qs.map D.ref)) env (qs.map D.ref) s Q := by
  refine cs_inv (fun j ys st => st = s ∧ ys = (P.take j).map fun L => D.tup (L.map D.int)) (okD_ref.mpr h1) (by rw [List.length_map]; omega) ⟨rfl, rfl⟩ ?_ ?_
  · rintro j d ys st hj ⟨rfl, rfl⟩ hok
    rw [List.getElem?_map] at hj
    cases hq : qs[j]? with
    | none => rw [hq] at hj; cases hj
    | some q =>
      rw [hq] at hj; cases hj
      have hlt := (List.getElem?_eq_some_iff.mp hq).1
      have hP : P[j]? = some (P[j]'(by omega)) := List.getElem?_eq_some_iff.mpr ⟨by omega, rfl⟩
      have hpt := pat_of hP
      have := (h3 j q hq).2
      rw [hpt] at this
      simp only [asgT_n, wp_some, w_yes, ↓reduceIte, w_B, w_aC, w_aN, w_vr, hi, tupB_ref this]
      refine ⟨okD_ref.mpr h1, trivial, ?_⟩
      rw [List.take_add_one, hP, Option.toList_some, List.map_append]; rfl
  · rintro ys st ⟨rfl, rfl⟩ _
    rw [List.length_map, h2, List.take_length]
    exact k _ (Gr.app _ _) top_get
theorem law_greatest_ok {c : MC} {s : S} {Q : D → S → Prop} (ok : c.Ok) (hn : 16 * c.rows.length < 400) (k : ∀ s' G, Gr s s' → Great c G → Q (tupP G) s') : WF (F_law_greatest [c.enc] s) Q := by
  unfold F_law_greatest
  refine (wf_fn (by rfl)).mpr ?_
  unfold g_law_greatest
  have n2 := ok.n2
  walk_at "mi"
  rw [code_ix1]
  walk_at "mi"
  refine cs_tup (fun i ys st => Gr s st ∧ ∃ qs : List Nat, ys = qs.map D.ref ∧ qs.length = i ∧ ∀ (j q : Nat), qs[j]? = some q → st[q]? = some (.lst (A16.map D.int))) (by rw [List.length_map]; omega) ⟨Gr.refl s, [], rfl, rfl, fun j q h => by simp at h⟩ ?_ ?_
  · rintro i d ys st hi ⟨hG, qs, rfl, hl, hq⟩
    walk_at "mi"
    refine ⟨hG.trans (Gr.app _ _), qs ++ [st.length], by rw [List.map_append]; rfl, by rw [List.length_append, hl]; rfl, fun j q h => ?_⟩
    rw [List.getElem?_append] at h
    split at h
    · exact old_get (hq j q h)
    · have : q = st.length := by
        rename_i z
        cases hj : j - qs.length with
        | zero => rw [hj] at h; cases h; rfl
        | succ => rw [hj] at h; cases h
      subst this
      exact top_get
  · rintro ys st ⟨hG, qs, rfl, hl, hq⟩
    rw [List.length_map] at hl
    walk_at "mi"
    have hp0 : PL (st ++ [O.lst (qs.map D.ref)]) st.length (full c) := by
      refine ⟨qs, top_get, hl.trans (full_ok c).len.symm, fun i q e => ?_⟩
      have := hq i q e
      refine ⟨fun z => by have := (List.getElem?_eq_some_iff.mp this).1; omega, ?_⟩
      rw [pat_of (L := A16) (by
        have := (List.getElem?_eq_some_iff.mp e).1
        unfold full; rw [List.getElem?_replicate, if_pos (by omega)])]
      exact old_get this
    have hG0 : Gr s (st ++ [O.lst (qs.map D.ref)]) := hG.trans (Gr.app _ _)
    have hpl : s.length ≤ st.length := hG.1
    generalize st ++ [O.lst (qs.map D.ref)] = st0 at hp0 hG0
    generalize st.length = p at hp0 hpl
    have fin : ∀ (x2 x3 x4 x5 x6 x7 x8 x9 : Option D) (env : Mi.Env) (st1 : S) (G : Pa), env = [some c.enc, some (.ref p), x2, x3, x4, x5, x6, x7, x8, x9] → Gr s st1 → PL st1 p G → Great c G → WP env[1]? fun o => WP o fun d => WP (itemsD d st1) fun ds => CS (T.n 9) [9] yes (eB tupB (aC (vr 9) aN)) (okD d ds) env ds st1 fun d s1 => WP (tupB [d] s1) fun p => Q p.1 p.2 := by
      rintro x2 x3 x4 x5 x6 x7 x8 x9 env st1 G rfl hG1 hp1 hg
      obtain ⟨qs, h1, h2, h3⟩ := hp1.ex
      have := hg.shr.ok.len
      walk_at "mi"
      rw [items_ref h1]
      walk_at "mi"
      refine cs_tuples h1 h2 h3 (by omega) (fun x => rfl) fun s' hG2 hs => ?_
      walk_at "mi"
      rw [tupB_ref hs]
      walk_at "mi"
      exact k _ G (hG1.trans hG2) hg
    refine fs_rng (fun i env st1 => (∃ x2 x3 x4 x5 x6 x7 x8 x9 : Option D, env = [some c.enc, some (.ref p), x2, x3, x4, x5, x6, x7, x8, x9]) ∧ Gr s st1 ∧ ∃ P, PL st1 p P ∧ Shr c (full c) P ∧ (HoldsP c P ∨ tot P + i ≤ 16 * c.rows.length)) ⟨⟨_, _, _, _, _, _, _, _, rfl⟩, hG0, full c, hp0, Shr.refl (full_ok c), .inr (by have := tot_le (full_ok c); omega)⟩ ?_ ?_
    · rintro i env st1 hi ⟨⟨x2, x3, x4, x5, x6, x7, x8, x9, rfl⟩, hG1, P, hp1, hS, hH⟩
      rw [asgT_n, wp_some]
      unfold g_law_greatest_b3
      walk_at "mi"
      rw [hp1.repr hS.ok n2]
      walk_at "mi"
      rw [hp1.len]
      walk_at "mi"
      have hl1 := hS.ok.len
      refine ⟨by omega, ?_⟩
      rw [Int.toNat_natCast]
      refine lg_round ok hp1 hS.ok fun xr xb xw st2 P2 hF2 hp2 hR2 => ?_
      walk_at "mi"
      rw [hp2.repr hR2.shr.ok n2]
      walk_at "mi"
      have hG2 : Gr s st2 := ⟨Nat.le_trans hG1.1 hF2.1, fun q hq => by rw [hF2.2 q (Nat.lt_of_lt_of_le hq hG1.1) (by omega)]; exact hG1.2 q hq⟩
      by_cases ce : (paP P2).shown = (paP P).shown
      · have eP := shown_eq hR2.shr.ok hS.ok hR2.shr.le ce
        simp only [ce, decide_true, ↓reduceIte]
        obtain ⟨o1, e1, d1, e2, z⟩ := fin x2 (some (D.int (i : Int))) (some (D.str (paP P).shown)) xr xb xw x8 x9 _ st2 P2 rfl hG2 hp2 ⟨hS.trans hR2.shr, by rw [eP]; exact hR2.done eP⟩
        cases e1
        cases e2
        exact z
      · simp only [ce, decide_false, Bool.false_eq_true, ↓reduceIte]
        walk_at "mi"
        exact ⟨⟨_, _, _, _, _, _, _, _, rfl⟩, hG2, P2, hp2, hS.trans hR2.shr, rounds hS.ok hH hR2⟩
    · rintro env st1 ⟨⟨x2, x3, x4, x5, x6, x7, x8, x9, rfl⟩, hG1, P, hp1, hS, hH⟩
      refine fin _ _ _ _ _ _ _ _ _ st1 P rfl hG1 hp1 ⟨hS, ?_⟩
      rcases hH with h | h
      · exact h
      · have e : (Int.toNat 400) = 400 := rfl
        rw [e] at h
        omega
end My

set_option Elab.async false
set_option linter.all false
set_option maxRecDepth 100000
set_option maxHeartbeats 4000000
namespace My
open PySem PySem.Spec PyProof.Rows L2 Mi
local macro_rules | `(tactic| walk_at "mi") => `(tactic| try simp only [↓w_vr, ↓w_cn, ↓w_e2, ↓w_tup, ↓w_lst, ↓w_aN, ↓w_aC, ↓w_call, ↓w_B, ↓w_M, ↓w_oN, ↓w_oS, ↓w_sl, ↓w_B1, ↓w_Tl, ↓w_An, ↓w_Or, ↓w_No, ↓w_eAn, ↓w_eO, ↓w_eNo, ↓w_eNeg, ↓w_eIf, ↓w_ch, ↓w_Dn, ↓w_lRg1, ↓w_trg1, ↓w_yes, ↓ws_forS, ↓ws_forG, ↓w_lcS, ↓w_lcG, ↓w_dcS, ↓w_dcG, items_tup, items_rol, ↓ws_seq, ↓ws_skip, ↓ws_set, ↓ws_ex, ↓ws_ret, ↓ws_retN, ↓ws_bk, ↓ws_ct, ↓ws_if, ↓ws_asg, ↓ws_dput, ↓ws_daug, ↓ws_lput, ↓ws_aug, ↓wp_some, ↓wp_none, ↓wp_if, ↓wp_map, ↓wf_ok, ↓asI_int, ↓asBl_bl,
  List.getElem?_cons_zero, List.getElem?_cons_succ, List.set_cons_zero, List.set_cons_succ, opI_int, addD_int, mulD_int, intB_int, intB_bl, absB_int, lenB_rol, lenB_tup, ixD_rol, ixD_tup, atI0, atI1, atI2, atI3, atI4, asgT_n, tyQ, appQ, slQ, slD_tup, wipeE, List.length_cons, List.length_nil, List.length_map, true_and, and_true, decide_true, ↓reduceIte, bl_t, List.map_cons, List.map_nil, List.cons_append, List.nil_append, List.replicate_succ, List.replicate_zero, Nat.reduceAdd, Nat.reduceLeDiff, Int.reduceLT, Int.reduceLE, Int.reduceNeg, Int.reduceSub, eqD_str, eqD_int, neD_int, ofStr_eq, String.reduceEq, decide_false, decide_true, in_tupS, in_tints, flatD_str, flatD_int, List.all_cons, List.all_nil, List.any_cons, List.any_nil, eqF_str, Bool.and_true, Bool.and_self, Bool.or_false, Bool.or_true, Bool.true_or, Bool.false_or, Bool.false_eq_true, Bool.not_true, Bool.not_false, in_top, ixD_top, tupB_top, items_top, lenB_top, tru_bl, asgT_2, asgT_3, ↓w_pN, ↓w_pC, ↓w_Dct, ixD_tup, Int.cast_ofNat_Int, Int.reduceEq, ↓w_DGet2, ↓w_callV, ↓ws_laug, neD_str, ↓ws_forG2, lstB_tup, eqD_bl, neD_bl, isD_non, isD_ref, isD_tup, isD_int, isD_str, isD_bl, isNotD_non, isNotD_ref, isNotD_tup, isNotD_int, isNotD_str, isNotD_bl, isiT_tup, isiT_int, isiT_str, isiT_bl, isiT_non, ↓w_lcG2, ↓ws_forZ, ↓w_lcZ, asT_tup, addI_int, gtD_int, isi_tup_tuple, isi_tup_str, isi_tup_int, isi_tup_bool, isi_tup_list, isi_str_tuple, isi_str_str, isi_str_int, isi_str_bool, isi_str_list, isi_int_tuple, isi_int_str, isi_int_int, isi_int_bool, isi_int_list, isi_bl_tuple, isi_bl_str, isi_bl_int, isi_bl_bool, isi_bl_list, isi_non_tuple, isi_non_str, isi_non_int, isi_non_bool, isi_non_list])

/-! ### members, and what holds -/
theorem cs_true {t : T} {vs : List Nat} {e : EX} {env : Mi.Env} {s : S} {Q : D → S → Prop} {α : Type} {xs : List α} (en : α → D) {ok : S → Prop} (hok : ok s) (hl : xs.length ≤ 16777216) (hs : ∀ x ∈ xs, WP (asgT t (en x) (wipeE env vs)) fun e1 => W e e1 s fun y s2 => y = .bl true ∧ s2 = s)
    (k : ∀ s', Gr s s' → Mi.allB [.ref s.length] s' = some (.bl true, s') → Q (.ref s.length) s') : CS t vs yes e ok env (xs.map en) s Q := by
  refine cs_map (xs := xs) en (fun _ => some (D.bl true)) (fun st => st = s) hok hl rfl ?_ ?_
  · rintro x st hx rfl hk
    refine WP.mono (hs x hx) fun e1 h => ?_
    rw [w_yes, if_pos rfl]
    exact WF.mono h fun y s2 q => by obtain ⟨rfl, rfl⟩ := q; exact ⟨hk, rfl, rfl⟩
  · rintro st rfl _
    refine k _ (Gr.app _ _) ?_
    rw [fm_all (fun _ => true), all_ref top_get]
    have : ((xs.map fun _ => true).all id) = true := by rw [List.all_eq_true]; intro b hb; obtain ⟨_, _, rfl⟩ := List.mem_map.mp hb; rfl
    rw [this]
theorem cut1 (L : List Int) : Mi.cutD (L.map D.int) (some 1) none = (L.drop 1).map D.int := by
  rw [show Mi.cutD (L.map D.int) (some 1) none = (L.map D.int).drop 1 from cutD_drop (n := 1), List.map_drop]
theorem zipT_map (L M : List Int) : zipT (L.map D.int) (M.map D.int) = (L.zip M).map fun ab => D.tup [.int ab.1, .int ab.2] := by
  unfold zipT
  rw [List.zipWith_map, List.zip, List.map_zipWith]
theorem zip_lt : ∀ {L : List Int}, L.Pairwise (· < ·) → ∀ ab ∈ L.zip (L.drop 1), ab.1 < ab.2
  | [], _, ab, h => by cases h
  | [_], _, ab, h => by cases h
  | a :: b :: L, hp, ab, h => by
    rcases List.mem_cons.mp h with rfl | h
    · exact (List.pairwise_cons.mp hp).1 b List.mem_cons_self
    · exact zip_lt (L := b :: L) (List.pairwise_cons.mp hp).2 ab h
theorem Can.sorted {L : List Int} (h : Can L) : L.Pairwise (· < ·) := by rw [h]; exact cmf_sorted _
theorem is_member_ok {L : List Int} {s : S} {Q : D → S → Prop} (h : Can L) (k : ∀ s', Gr s s' → Q (.bl true) s') : WF (F_is_member [.tup (L.map D.int)] s) Q := by
  unfold F_is_member
  refine (wf_fn (by rfl)).mpr ?_
  unfold g_is_member
  have hl := h.len
  walk_at "mi"
  refine cs_true D.int okD_tup (by omega) (fun x hx => ?_) fun s1 hG1 h1 => ?_
  · walk_at "mi"
  rw [h1]
  walk_at "mi"
  refine cs_true D.int okD_tup (by omega) (fun x hx => ?_) fun s2 hG2 h2 => ?_
  · have hx := h.mem hx
    unfold dv_REGISTERS
    walk_at "mi"
    rw [if_pos hx.1, decide_eq_true hx.2]
  rw [h2]
  walk_at "mi"
  rw [cut1, zipT_map]
  refine cs_true (fun ab : Int × Int => D.tup [.int ab.1, .int ab.2]) True.intro (by rw [List.length_zip]; omega) (fun ab hab => ?_) fun s3 hG3 h3 => ?_
  · walk_at "mi"
    rw [decide_eq_true (zip_lt h.sorted ab hab)]
  rw [h3]
  walk_at "mi"
  exact k _ (hG1.trans (hG2.trans hG3))
theorem atP {P : Pa} {r : Nat} (hr : r < P.length) : atI (P.map fun L => D.tup (L.map D.int)) (r : Int) = some (.tup ((pat P r).map D.int)) := by
  refine atI_nat' ?_
  rw [List.getElem?_map, List.getElem?_eq_getElem hr, pat_of (List.getElem?_eq_getElem hr)]; rfl
theorem atPz {P : Pa} {t : Int} (h0 : 0 ≤ t) (ht : t < P.length) : atI (P.map fun L => D.tup (L.map D.int)) t = some (.tup ((pat P t.toNat).map D.int)) := by
  have := atP (P := P) (r := t.toNat) (by omega)
  rwa [show ((t.toNat : Nat) : Int) = t from by omega] at this
theorem holds_ok {c : MC} {P : Pa} {s : S} {Q : D → S → Prop} (ok : c.Ok) (hP : PaOk c P) (k : ∀ s' b, Gr s s' → (b = true ↔ HoldsP c P) → Q (.bl b) s') : WF (F_holds [c.enc, tupP P] s) Q := by
  unfold F_holds tupP
  refine (wf_fn (by rfl)).mpr ?_
  unfold g_holds
  have hn := hP.len
  have n2 := ok.n2
  walk_at "mi"
  rw [code_ix1]
  walk_at "mi"
  simp only [hn, neD_int, decide_true, Bool.not_true, ↓reduceIte]
  walk_at "mi"
  refine cs_inv (fun i ys st => Gr s st ∧ ys = (List.replicate i true).map D.bl) okD_tup (by rw [List.length_map]; omega) ⟨Gr.refl s, rfl⟩ ?_ ?_
  · rintro i d ys st hi ⟨hG, rfl⟩ _
    rw [List.getElem?_map] at hi
    cases hL : P[i]? with
    | none => rw [hL] at hi; cases hi
    | some L =>
      rw [hL] at hi; cases hi
      walk_at "mi"
      refine is_member_ok (hP.can L (List.mem_of_getElem? hL)) fun s' hG' => ?_
      exact ⟨okD_tup, hG.trans hG', by rw [List.map_replicate, ← List.replicate_succ']; rfl⟩
  rintro ys st ⟨hG, rfl⟩ _
  rw [List.length_map, all_ref top_get]
  have e1 : ((List.replicate P.length true).all id) = true := by
    rw [List.all_eq_true]; intro b hb; rw [List.eq_of_mem_replicate hb]; rfl
  rw [e1]
  walk_at "mi"
  refine ⟨by omega, ?_⟩
  rw [Int.toNat_natCast]
  have hG0 := hG.trans (Gr.app st [O.lst ((List.replicate P.length true).map D.bl)])
  generalize (st ++ [O.lst ((List.replicate P.length true).map D.bl)]) = st0 at hG0
  refine fs_rng (fun i env st1 => (∃ x2 x3 x4 x5 x6 : Option D, env = [some c.enc, some (.tup (P.map fun L => .tup (L.map D.int))), x2, x3, x4, x5, x6]) ∧ Gr s st1 ∧ ∀ (r : Nat) (m : MR), r < i → c.rows[r]? = some m → Closed1 c P r m) ⟨⟨_, _, _, _, _, rfl⟩, hG0, fun r m z => absurd z (Nat.not_lt_zero r)⟩ ?_ ?_
  · rintro i env st1 hi ⟨⟨x2, x3, x4, x5, x6, rfl⟩, hG1, hc⟩
    rw [asgT_n, wp_some]
    unfold g_holds_b2
    walk_at "mi"
    obtain ⟨m, hm⟩ : ∃ m, c.rows[i]? = some m := ⟨_, List.getElem?_eq_some_iff.mpr ⟨by omega, rfl⟩⟩
    have ho := ok.row i m hm
    rw [atP (by omega)]
    walk_at "mi"
    refine behind_ok hm ho (hP.pat i) fun st2 hG2 => ?_
    walk_at "mi"
    refine ways_ok hm fun st3 hG3 => ?_
    walk_at "mi"
    refine fs_tup (fun j env st4 => (∃ x5 x6 : Option D, env = [some c.enc, some (.tup (P.map fun L => .tup (L.map D.int))), x2, some (.int (i : Int)), some (.tup ((behR c m (pat P i)).map D.int)), x5, x6]) ∧ Gr s st4 ∧ ∀ t ∈ (nextR i m).take j, ∀ x ∈ pat P t.toNat, x ∈ behR c m (pat P i)) ⟨⟨_, _, rfl⟩, hG1.trans (hG2.trans hG3), fun t ht => by simp at ht⟩ ?_ ?_
    · rintro j d env st4 hj ⟨⟨x5, x6, rfl⟩, hG4, hc4⟩
      rw [List.getElem?_map] at hj
      cases ht : (nextR i m)[j]? with
      | none => rw [ht] at hj; cases hj
      | some t =>
        rw [ht] at hj; cases hj
        have t0 := nextR_ok ho t (List.mem_of_getElem? ht)
        rw [asgT_n, wp_some]
        unfold g_holds_b1
        walk_at "mi"
        rw [atPz t0.1 (by omega)]
        walk_at "mi"
        have hl := (hP.pat t.toNat).len
        refine cs_map (xs := pat P t.toNat) D.int (fun x => some (D.bl (decide (x ∈ behR c m (pat P i))))) (fun st => st = st4) okD_tup (by omega) rfl ?_ ?_
        · rintro x st hx rfl _
          walk_at "mi"
          exact okD_tup
        · rintro st rfl _
          rw [fm_all, all_ref top_get]
          walk_at "mi"
          by_cases ca : ∀ x ∈ pat P t.toNat, x ∈ behR c m (pat P i)
          · have e2 : ((pat P t.toNat).map fun x => decide (x ∈ behR c m (pat P i))).all id = true := by
              rw [List.all_eq_true]; intro b hb; obtain ⟨x, hx, rfl⟩ := List.mem_map.mp hb; exact decide_eq_true (ca x hx)
            rw [e2]
            walk_at "mi"
            refine ⟨⟨_, _, rfl⟩, hG4.trans (Gr.app _ _), fun t' ht' => ?_⟩
            rw [List.take_add_one, ht, Option.toList_some] at ht'
            rcases List.mem_append.mp ht' with z | z
            · exact hc4 t' z
            · rw [List.mem_singleton.mp z]; exact ca
          · have e2 : ((pat P t.toNat).map fun x => decide (x ∈ behR c m (pat P i))).all id = false := by
              rw [Bool.eq_false_iff]
              intro z
              rw [List.all_eq_true] at z
              exact ca fun x hx => of_decide_eq_true (z _ (List.mem_map.mpr ⟨x, hx, rfl⟩))
            rw [e2]
            walk_at "mi"
            exact k _ false (hG4.trans (Gr.app _ _)) ⟨fun z => (nomatch z), fun z => absurd (z i m hm t (List.mem_of_getElem? ht)) ca⟩
    · rintro env st4 ⟨⟨x5, x6, rfl⟩, hG4, hc4⟩
      rw [List.length_map, List.take_length] at hc4
      refine ⟨⟨_, _, _, _, _, rfl⟩, hG4, fun r m' hr hm' => ?_⟩
      by_cases c1 : r = i
      · subst c1
        rw [hm] at hm'; cases hm'
        exact hc4
      · exact hc r m' (by omega) hm'
  · rintro env st1 ⟨⟨x2, x3, x4, x5, x6, rfl⟩, hG1, hc⟩
    walk_at "mi"
    exact k _ true hG1 ⟨fun _ r m hm => hc r m (List.getElem?_eq_some_iff.mp hm).1 hm, fun _ => rfl⟩
end My

set_option Elab.async false
set_option linter.all false
set_option maxRecDepth 100000
set_option maxHeartbeats 4000000
namespace My
open PySem PySem.Spec PyProof.Rows L2 Mi
local macro_rules | `(tactic| walk_at "mi") => `(tactic| try simp only [↓w_vr, ↓w_cn, ↓w_e2, ↓w_tup, ↓w_lst, ↓w_aN, ↓w_aC, ↓w_call, ↓w_B, ↓w_M, ↓w_oN, ↓w_oS, ↓w_sl, ↓w_B1, ↓w_Tl, ↓w_An, ↓w_Or, ↓w_No, ↓w_eAn, ↓w_eO, ↓w_eNo, ↓w_eNeg, ↓w_eIf, ↓w_ch, ↓w_Dn, ↓w_lRg1, ↓w_trg1, ↓w_yes, ↓ws_forS, ↓ws_forG, ↓w_lcS, ↓w_lcG, ↓w_dcS, ↓w_dcG, items_tup, items_rol, ↓ws_seq, ↓ws_skip, ↓ws_set, ↓ws_ex, ↓ws_ret, ↓ws_retN, ↓ws_bk, ↓ws_ct, ↓ws_if, ↓ws_asg, ↓ws_dput, ↓ws_daug, ↓ws_lput, ↓ws_aug, ↓wp_some, ↓wp_none, ↓wp_if, ↓wp_map, ↓wf_ok, ↓asI_int, ↓asBl_bl,
  List.getElem?_cons_zero, List.getElem?_cons_succ, List.set_cons_zero, List.set_cons_succ, opI_int, addD_int, mulD_int, intB_int, intB_bl, absB_int, lenB_rol, lenB_tup, ixD_rol, ixD_tup, atI0, atI1, atI2, atI3, atI4, asgT_n, tyQ, appQ, slQ, slD_tup, wipeE, List.length_cons, List.length_nil, List.length_map, true_and, and_true, decide_true, ↓reduceIte, bl_t, List.map_cons, List.map_nil, List.cons_append, List.nil_append, List.replicate_succ, List.replicate_zero, Nat.reduceAdd, Nat.reduceLeDiff, Int.reduceLT, Int.reduceLE, Int.reduceNeg, Int.reduceSub, eqD_str, eqD_int, neD_int, ofStr_eq, String.reduceEq, decide_false, decide_true, in_tupS, in_tints, flatD_str, flatD_int, List.all_cons, List.all_nil, List.any_cons, List.any_nil, eqF_str, Bool.and_true, Bool.and_self, Bool.or_false, Bool.or_true, Bool.true_or, Bool.false_or, Bool.false_eq_true, Bool.not_true, Bool.not_false, in_top, ixD_top, tupB_top, items_top, lenB_top, tru_bl, asgT_2, asgT_3, ↓w_pN, ↓w_pC, ↓w_Dct, ixD_tup, Int.cast_ofNat_Int, Int.reduceEq, ↓w_DGet2, ↓w_callV, ↓ws_laug, neD_str, ↓ws_forG2, lstB_tup, eqD_bl, neD_bl, isD_non, isD_ref, isD_tup, isD_int, isD_str, isD_bl, isNotD_non, isNotD_ref, isNotD_tup, isNotD_int, isNotD_str, isNotD_bl, isiT_tup, isiT_int, isiT_str, isiT_bl, isiT_non, ↓w_lcG2, ↓ws_forZ, ↓w_lcZ, asT_tup, addI_int, gtD_int, isi_tup_tuple, isi_tup_str, isi_tup_int, isi_tup_bool, isi_tup_list, isi_str_tuple, isi_str_str, isi_str_int, isi_str_bool, isi_str_list, isi_int_tuple, isi_int_str, isi_int_int, isi_int_bool, isi_int_list, isi_bl_tuple, isi_bl_str, isi_bl_int, isi_bl_bool, isi_bl_list, isi_non_tuple, isi_non_str, isi_non_int, isi_non_bool, isi_non_list])

/-! ### the greatest paper -/
/-- what the worklist keeps while the ways of r are gone through -/
structure Wl (c : MC) (P1 P : Pa) (W1 W : List Int) (r : Nat) (m : MR) (T : List Int) : Prop where
  shr : Shr c P1 P
  sub : ∀ x ∈ W1, x ∈ W
  rng : ∀ x ∈ W, 0 ≤ x ∧ x < (c.rows.length : Nat)
  same : ∀ r' : Nat, (r' : Int) ∉ W → pat P r' = pat P1 r'
  done : ∀ t ∈ T, ∀ x ∈ pat P t.toNat, x ∈ behR c m (pat P1 r)
  meas : 2 * tot P + W.length ≤ 2 * tot P1 + W1.length
theorem neD_tints {as bs : List Int} {s : S} : neD (.tup (as.map D.int)) (.tup (bs.map D.int)) s = some (.bl (!decide (as = bs)), s) := by
  unfold neD
  rw [eqB_tints]
theorem neD_ints {p q : Nat} {as bs : List Int} {s : S} (h : s[p]? = some (.lst (as.map D.int))) (h' : s[q]? = some (.lst (bs.map D.int))) : neD (.ref p) (.ref q) s = some (.bl (!decide (as = bs)), s) := by
  unfold neD
  rw [eqB_ints h h']
def upto (n : Nat) : List Int := (List.range n).map fun i : Nat => (i : Int)
theorem mem_upto {n : Nat} {x : Int} : x ∈ upto n ↔ 0 ≤ x ∧ x < (n : Nat) := by
  unfold upto
  rw [List.mem_map]
  constructor
  · rintro ⟨a, ha, rfl⟩
    rw [List.mem_range] at ha
    omega
  · intro h
    exact ⟨x.toNat, List.mem_range.mpr (by omega), by omega⟩
theorem upto_len (n : Nat) : (upto n).length = n := by unfold upto; rw [List.length_map, List.length_range]
theorem rng_ints (n : Nat) : rng 0 n = (upto n).map D.int := by
  unfold upto
  apply List.ext_getElem?
  intro i
  rw [List.map_map]
  by_cases h : i < n
  · have h1 : (rng 0 n)[i]? = some (.int (i : Int)) := by
      have hl : i < (rng 0 n).length := by rw [rng_len]; exact h
      have := rng_at (List.getElem?_eq_getElem hl)
      rw [List.getElem?_eq_getElem hl, this.2]
    rw [h1, List.getElem?_map, List.getElem?_range h]; rfl
  · rw [List.getElem?_eq_none (by rw [rng_len]; omega), List.getElem?_eq_none (by rw [List.length_map, List.length_range]; omega)]
theorem greatest_ok {c : MC} {s : S} {Q : D → S → Prop} (ok : c.Ok) (k : ∀ s' G, Gr s s' → Great c G → Q (tupP G) s') : WF (F_greatest_paper [c.enc] s) Q := by
  unfold F_greatest_paper
  refine (wf_fn (by rfl)).mpr ?_
  unfold g_greatest_paper
  have n2 := ok.n2
  walk_at "mi"
  rw [code_ix1]
  walk_at "mi"
  rw [mul_rep top_get (by omega)]
  walk_at "mi"
  have eA : dv_ALL = .tup (A16.map D.int) := rfl
  have e0 : List.replicate c.rows.length dv_ALL = (full c).map fun L => D.tup (L.map D.int) := by
    unfold full
    rw [List.map_replicate, eA]
  rw [e0]
  have hn0 : (full c).length = c.rows.length := List.length_replicate
  rw [List.length_map, hn0]
  refine ⟨by omega, ?_⟩
  rw [Int.toNat_natCast, rng_ints]
  have hG0 : Gr s (s ++ [O.lst [dv_ALL]] ++ [O.lst (List.map (fun L => D.tup (List.map D.int L)) (full c))] ++ [O.lst (List.map D.int (upto c.rows.length))]) := (Gr.app _ _).trans ((Gr.app _ _).trans (Gr.app _ _))
  have hp0 : (s ++ [O.lst [dv_ALL]] ++ [O.lst (List.map (fun L => D.tup (List.map D.int L)) (full c))] ++ [O.lst (List.map D.int (upto c.rows.length))])[(s ++ [O.lst [dv_ALL]]).length]? = some (.lst ((full c).map fun L => D.tup (L.map D.int))) := old_get top_get
  have hq0 : (s ++ [O.lst [dv_ALL]] ++ [O.lst (List.map (fun L => D.tup (List.map D.int L)) (full c))] ++ [O.lst (List.map D.int (upto c.rows.length))])[(s ++ [O.lst [dv_ALL]] ++ [O.lst (List.map (fun L => D.tup (List.map D.int L)) (full c))]).length]? = some (.lst ((upto c.rows.length).map D.int)) := top_get
  have pq : (s ++ [O.lst [dv_ALL]]).length ≠ (s ++ [O.lst [dv_ALL]] ++ [O.lst (List.map (fun L => D.tup (List.map D.int L)) (full c))]).length := by simp
  have pl : s.length ≤ (s ++ [O.lst [dv_ALL]]).length := by simp
  have ql : s.length ≤ (s ++ [O.lst [dv_ALL]] ++ [O.lst (List.map (fun L => D.tup (List.map D.int L)) (full c))]).length := by simp
  generalize (s ++ [O.lst [dv_ALL]] ++ [O.lst (List.map (fun L => D.tup (List.map D.int L)) (full c))] ++ [O.lst (List.map D.int (upto c.rows.length))]) = st0 at *
  generalize (s ++ [O.lst [dv_ALL]] ++ [O.lst (List.map (fun L => D.tup (List.map D.int L)) (full c))]).length = q at *
  generalize (s ++ [O.lst [dv_ALL]]).length = p at *
  have t0 := tot_le (full_ok c)
  refine ws_while (fun mm env st => (∃ x3 x4 x5 x6 x7 : Option D, env = [some c.enc, some (.ref p), some (.ref q), x3, x4, x5, x6, x7]) ∧ Gr s st ∧ ∃ (P : Pa) (W : List Int), st[p]? = some (.lst (P.map fun L => D.tup (L.map D.int))) ∧ st[q]? = some (.lst (W.map D.int)) ∧ Shr c (full c) P ∧ (∀ x ∈ W, 0 ≤ x ∧ x < (c.rows.length : Nat)) ∧ (∀ (r : Nat) (m : MR), c.rows[r]? = some m → (r : Int) ∉ W → Closed1 c P r m) ∧ 2 * tot P + W.length ≤ mm ∧ mm ≤ 33 * c.rows.length) (33 * c.rows.length) (by omega)
    ⟨⟨_, _, _, _, _, rfl⟩, hG0, full c, _, hp0, hq0, Shr.refl (full_ok c), fun x hx => mem_upto.mp hx, fun r m hm hr => absurd (mem_upto.mpr ⟨by omega, by have := (List.getElem?_eq_some_iff.mp hm).1; omega⟩) hr, by rw [upto_len]; omega, Nat.le_refl _⟩ ?_
  rintro mm env st ⟨⟨x3, x4, x5, x6, x7, rfl⟩, hG, P, W, hp, hq, hS, hW, hC, hM, hMM⟩
  walk_at "mi"
  have hne : neD (.ref q) (.ref st.length) (st ++ [O.lst []]) = some (.bl (!decide (W = [])), st ++ [O.lst []]) := neD_ints (bs := []) (old_get hq) top_get
  rw [hne]
  walk_at "mi"
  have hPl := hS.ok.len
  by_cases c1 : W = []
  · subst c1
    simp only [decide_true, Bool.not_true, Bool.false_eq_true, ↓reduceIte]
    rw [tupB_ref (old_get hp)]
    walk_at "mi"
    exact k _ P (hG.trans (Gr.app _ _)) ⟨hS, fun r m hm => hC r m hm (by simp)⟩
  · simp only [c1, decide_false, Bool.not_false, ↓reduceIte]
    obtain ⟨W1, r0, rfl⟩ : ∃ W1 r0, W = W1 ++ [r0] := by
      rcases List.eq_nil_or_concat W with z | ⟨W1, r0, z⟩
      · exact absurd z c1
      · exact ⟨W1, r0, by rw [z, List.concat_eq_append]⟩
    have hr0 := hW r0 (List.mem_append_right _ List.mem_cons_self)
    obtain ⟨r, rfl⟩ : ∃ r : Nat, r0 = (r : Int) := ⟨r0.toNat, by omega⟩
    obtain ⟨m, hm⟩ : ∃ m, c.rows[r]? = some m := ⟨_, List.getElem?_eq_some_iff.mpr ⟨by omega, rfl⟩⟩
    have ho := ok.row r m hm
    unfold g_greatest_paper_b2
    walk_at "mi"
    simp only [ty_ref (old_get hq)]
    walk_at "mi"
    have hq1 : (st ++ [O.lst []])[q]? = some (.lst (W1.map D.int ++ [D.int (r : Int)])) := by rw [old_get hq, List.map_append]; rfl
    rw [pop_ref hq1]
    walk_at "mi"
    have hp1 : ((st ++ [O.lst []]).set q (.lst (W1.map D.int)))[p]? = some (.lst (P.map fun L => D.tup (L.map D.int))) := by
      rw [List.getElem?_set_ne (fun z => pq z.symm)]; exact old_get hp
    have hq2 : ((st ++ [O.lst []]).set q (.lst (W1.map D.int)))[q]? = some (.lst (W1.map D.int)) := List.getElem?_set_self (List.getElem?_eq_some_iff.mp hq1).1
    have hG1 : Gr s ((st ++ [O.lst []]).set q (.lst (W1.map D.int))) := (hG.trans (Gr.app _ _)).set ql
    generalize (st ++ [O.lst []]).set q (.lst (W1.map D.int)) = st1 at *
    rw [ixD_ref hp1, atP (by omega)]
    walk_at "mi"
    refine behind_ok hm ho (hS.ok.pat r) fun st2 hG2 => ?_
    walk_at "mi"
    refine ways_ok hm fun st3 hG3 => ?_
    walk_at "mi"
    have hp3 := hG3.get (hG2.get hp1)
    have hq3 := hG3.get (hG2.get hq2)
    have hGs := hG1.trans (hG2.trans hG3)
    refine fs_tup (fun j env st4 => (∃ x5 x6 x7 : Option D, env = [some c.enc, some (.ref p), some (.ref q), some (.int (r : Int)), some (.tup ((behR c m (pat P r)).map D.int)), x5, x6, x7]) ∧ Gr s st4 ∧ ∃ (P' : Pa) (W' : List Int), st4[p]? = some (.lst (P'.map fun L => D.tup (L.map D.int))) ∧ st4[q]? = some (.lst (W'.map D.int)) ∧ Wl c P P' W1 W' r m ((nextR r m).take j)) ⟨⟨_, _, _, rfl⟩, hGs, P, W1, hp3, hq3, ⟨Shr.refl hS.ok, fun _ z => z, fun x hx => hW x (List.mem_append_left _ hx), fun _ _ => rfl, fun t ht => by simp at ht, Nat.le_refl _⟩⟩ ?_ ?_
    · rintro j d env st4 hj ⟨⟨x5, x6, x7, rfl⟩, hG4, P4, W4, hp4, hq4, hw⟩
      rw [List.getElem?_map] at hj
      cases ht : (nextR r m)[j]? with
      | none => rw [ht] at hj; cases hj
      | some t =>
        rw [ht] at hj; cases hj
        have tm := List.mem_of_getElem? ht
        have t0 := nextR_ok ho t tm
        have hPl4 := hw.shr.ok.len
        rw [asgT_n, wp_some]
        unfold g_greatest_paper_b1
        walk_at "mi"
        rw [ixD_ref hp4, atPz t0.1 (by omega)]
        walk_at "mi"
        refine cs_in (neg := false) okD_tup (Nat.le_trans (hw.shr.ok.pat _).len (by decide)) (fun x => rfl) (fun x => rfl) rfl ?_
        walk_at "mi"
        rw [ixD_ref (old_get hp4), atPz t0.1 (by omega)]
        walk_at "mi"
        rw [neD_tints]
        walk_at "mi"
        have htk : (nextR r m).take (j + 1) = (nextR r m).take j ++ [t] := by rw [List.take_add_one, ht]; rfl
        have hms := hw.shr.meet hm tm
        have hmd : ∀ t' ∈ (nextR r m).take (j + 1), ∀ x ∈ pat (meet (behR c m (pat P r)) t.toNat P4) t'.toNat, x ∈ behR c m (pat P r) := by
          intro t' ht' x hx
          rw [htk] at ht'
          rcases List.mem_append.mp ht' with z | z
          · exact hw.done t' z x ((meet_le _ _ _).2 _ x hx)
          · rw [List.mem_singleton.mp z, pat_meet, if_pos ⟨rfl, by omega⟩, List.mem_filter] at hx
            exact of_decide_eq_true hx.2
        by_cases ce : ((pat P4 t.toNat).filter fun x => decide (x ∈ behR c m (pat P r))) = pat P4 t.toNat
        · have em : meet (behR c m (pat P r)) t.toNat P4 = P4 := by
            unfold meet
            rw [ce]
            apply List.ext_getElem?
            intro i
            rw [List.getElem?_set]
            split
            · rename_i z
              subst z
              rw [if_pos (by omega), List.getElem?_eq_getElem (by omega), pat_of (List.getElem?_eq_getElem (by omega))]
            · rfl
          rw [em] at hmd
          simp only [ce, decide_true, Bool.not_true, Bool.false_eq_true, ↓reduceIte]
          exact ⟨⟨_, _, _, rfl⟩, hG4.trans (Gr.app _ _), P4, W4, old_get hp4, old_get hq4, ⟨hw.shr, hw.sub, hw.rng, hw.same, hmd, hw.meas⟩⟩
        · simp only [ce, decide_false, Bool.not_false, ↓reduceIte]
          rw [setL_of (old_get hp4) t0.1 (by rw [List.length_map]; omega)]
          walk_at "mi"
          have lp : p < (st4 ++ [O.lst (((pat P4 t.toNat).filter fun x => decide (x ∈ behR c m (pat P r))).map D.int)]).length := by
            have := (List.getElem?_eq_some_iff.mp hp4).1
            rw [List.length_append]; omega
          have hq5 : ((st4 ++ [O.lst (((pat P4 t.toNat).filter fun x => decide (x ∈ behR c m (pat P r))).map D.int)]).set p (.lst ((P4.map fun L => D.tup (L.map D.int)).set t.toNat (D.tup (((pat P4 t.toNat).filter fun x => decide (x ∈ behR c m (pat P r))).map D.int)))))[q]? = some (.lst (W4.map D.int)) := by
            rw [List.getElem?_set_ne pq]; exact old_get hq4
          simp only [ty_ref hq5]
          walk_at "mi"
          have htot := tot_le hw.shr.ok
          have htot0 := tot_le hS.ok
          have hlt : tot (meet (behR c m (pat P r)) t.toNat P4) < tot P4 := by
            refine tot_lt (c := c) ⟨meet_ok hw.shr.ok, meet_le _ _ _, fun H hh hl => ?_⟩ hw.shr.ok fun z => ce ?_
            · exact (Shr.meet (r := r) (m := m) (t := t) ⟨hw.shr.ok, hw.shr.le, fun H hh hl => hw.shr.keep H hh hl⟩ hm tm).keep H hh (hl.trans hw.shr.le)
            · have := pat_meet (B := behR c m (pat P r)) (t := t.toNat) (r := t.toNat) (P := P4)
              rw [if_pos ⟨rfl, by omega⟩, z] at this
              exact this.symm
          have hms2 := hw.meas
          rw [app_ref hq5, if_pos (by rw [List.length_map]; have := hM; rw [List.length_append, List.length_singleton] at this; have := tot_le (full_ok c); have := (le_tot hS.ok (full_ok c) hS.le).1; omega)]
          walk_at "mi"
          refine ⟨⟨_, _, _, rfl⟩, ((hG4.trans (Gr.app _ _)).set pl).set ql, meet (behR c m (pat P r)) t.toNat P4, W4 ++ [t], ?_, ?_, ⟨hms, fun x hx => List.mem_append_left _ (hw.sub x hx), fun x hx => ?_, fun r' hr' => ?_, hmd, ?_⟩⟩
          · rw [List.getElem?_set_ne (fun z => pq z.symm), List.getElem?_set_self lp]
            unfold meet
            rw [List.map_set]
          · rw [List.getElem?_set_self (List.getElem?_eq_some_iff.mp hq5).1, List.map_append]; rfl
          · rcases List.mem_append.mp hx with z | z
            · exact hw.rng x z
            · rw [List.mem_singleton.mp z]; exact t0
          · rw [pat_meet, if_neg]
            · exact hw.same r' fun z => hr' (List.mem_append_left _ z)
            · rintro ⟨z, _⟩
              exact hr' (List.mem_append_right _ (List.mem_singleton.mpr (by omega)))
          · rw [List.length_append, List.length_singleton]; omega
    · rintro env st4 ⟨⟨x5, x6, x7, rfl⟩, hG4, P4, W4, hp4, hq4, hw⟩
      rw [List.length_map, List.take_length] at hw
      have hM' := hM
      rw [List.length_append, List.length_singleton] at hM'
      have := hw.meas
      refine ⟨2 * tot P4 + W4.length, by omega, ⟨_, _, _, _, _, rfl⟩, hG4, P4, W4, hp4, hq4, hS.trans hw.shr, hw.rng, fun r' m' hm' hr' => ?_, Nat.le_refl _, by omega⟩
      intro t ht x hx
      rw [hw.same r' hr']
      by_cases cr : r' = r
      · subst cr
        rw [hm] at hm'; cases hm'
        exact hw.done t ht x hx
      · refine hC r' m' hm' (fun z => ?_) t ht x (hw.shr.le.2 _ x hx)
        rcases List.mem_append.mp z with z | z
        · exact hr' (hw.sub _ z)
        · exact cr (by have := List.mem_singleton.mp z; omega)
end My

set_option Elab.async false
set_option linter.all false
set_option maxRecDepth 100000
set_option maxHeartbeats 4000000
namespace My
open PySem PySem.Spec PyProof.Rows L2 Mi
local macro_rules | `(tactic| walk_at "mi") => `(tactic| try simp only [↓w_vr, ↓w_cn, ↓w_e2, ↓w_tup, ↓w_lst, ↓w_aN, ↓w_aC, ↓w_call, ↓w_B, ↓w_M, ↓w_oN, ↓w_oS, ↓w_sl, ↓w_B1, ↓w_Tl, ↓w_An, ↓w_Or, ↓w_No, ↓w_eAn, ↓w_eO, ↓w_eNo, ↓w_eNeg, ↓w_eIf, ↓w_ch, ↓w_Dn, ↓w_lRg1, ↓w_trg1, ↓w_yes, ↓ws_seq, ↓ws_skip, ↓ws_set, ↓ws_ex, ↓ws_ret, ↓ws_retN, ↓ws_bk, ↓ws_ct, ↓ws_if, ↓ws_asg, ↓ws_dput, ↓ws_daug, ↓ws_lput, ↓ws_aug, ↓wp_some, ↓wp_none, ↓wp_if, ↓wp_map, ↓wf_ok, ↓asI_int, ↓asBl_bl,
  List.getElem?_cons_zero, List.getElem?_cons_succ, List.set_cons_zero, List.set_cons_succ, opI_int, addD_int, mulD_int, intB_int, intB_bl, absB_int, lenB_rol, lenB_tup, ixD_rol, ixD_tup, atI0, atI1, atI2, atI3, atI4, asgT_n, tyQ, appQ, slQ, slD_tup, wipeE, List.length_cons, List.length_nil, List.length_map, true_and, and_true, decide_true, ↓reduceIte, bl_t, List.map_cons, List.map_nil, List.cons_append, List.nil_append, List.replicate_succ, List.replicate_zero, Nat.reduceAdd, Nat.reduceLeDiff, Int.reduceLT, Int.reduceLE, Int.reduceNeg, Int.reduceSub])
/-- the draws: ints from 0 to 996 -/
def Dr (ns : List Int) : Prop := ∀ n ∈ ns, 0 ≤ n ∧ n < 997
theorem Dr.snoc {ns : List Int} {n : Int} (h : Dr ns) (h0 : 0 ≤ n) (h1 : n < 997) : Dr (ns ++ [n]) := fun m hm => by
  rcases List.mem_append.mp hm with z | z
  · exact h m z
  · rw [List.mem_singleton.mp z]; exact ⟨h0, h1⟩
theorem mapI_snoc (ns : List Int) (n : Int) : ns.map D.int ++ [D.int n] = (ns ++ [n]).map D.int := by rw [List.map_append]; rfl
theorem cut_ints (ns : List Int) (lo hi : Option Int) : ∃ ms : List Int, Mi.cutD (ns.map D.int) lo hi = ms.map D.int ∧ (∀ m ∈ ms, m ∈ ns) ∧ ms.length ≤ ns.length := by
  unfold Mi.cutD
  rw [← List.map_drop, ← List.map_take]
  exact ⟨_, rfl, fun m hm => List.mem_of_mem_drop (i := HT.sIx (ns.map D.int).length 0 lo) (List.mem_of_mem_take hm), by rw [List.length_take, List.length_drop]; omega⟩
theorem draws_ok (ns : List Int) (hl : ns.length ≤ 63) (many : Int) (hm : 0 ≤ many ∧ many ≤ 100000) (s : S) : WF (F_law_draws [.rol (ns.map D.int), .int many] s) fun d s' => ∃ ms a, Dr ms ∧ ms.length = many.toNat ∧ d = .ref (s ++ [O.lst a]).length ∧ s' = (s ++ [O.lst a]) ++ [O.lst (ms.map D.int)] := by
  unfold F_law_draws
  refine (wf_fn (by rfl)).mpr ?_
  unfold g_law_draws
  walk_at "mi"
  refine ws_forR (fun i env s1 => ∃ (mixed : Int) (x4 x5 x6 x7 : Option D) (ms : List Int), env = [some (.rol (ns.map D.int)), some (.int many), some (.ref s.length), some (.int mixed), x4, x5, x6, x7] ∧ 0 ≤ mixed ∧ mixed < 65537 ∧ s1 = s ++ [.lst (ms.map D.int)] ∧ Dr ms ∧ ms.length ≤ 62 * i) ns.length ?_ ?_ ?_
  · walk_at "mi"
    exact ⟨_, rfl, by omega, by omega, by omega, 7, none, none, none, none, [], rfl, by decide, by decide, rfl, fun _ h => (by cases h), Nat.zero_le _⟩
  · rintro i env s1 hi ⟨mixed, x4, x5, x6, x7, ms, rfl, h1, h2, rfl, hd, hlen⟩
    have hg : atI (ns.map D.int) (i : Int) = some (.int ns[i]) := atI_nat' (by rw [List.getElem?_map, List.getElem?_eq_getElem hi]; rfl)
    generalize ns[i] = cell0 at hg
    unfold g_law_draws_b3 g_law_draws_b2
    walk_at "mi"
    simp only [hg]
    walk_at "mi"
    generalize (if cell0 < 0 then -cell0 else cell0) = cell
    refine ⟨.inr (by decide), ?_⟩
    generalize hmx : (mixed * 48271 + cell % 1000003 + (i : Int)) % 65537 = mx
    have b1 : 0 ≤ mx := by rw [← hmx]; exact Int.emod_nonneg _ (by decide)
    have b2 : mx < 65537 := by rw [← hmx]; exact Int.emod_lt_of_pos _ (by decide)
    have hen : ms.length < 16777216 := by omega
    refine ⟨by decide, ?_⟩
    have inner : ∀ (B C : Mi.Env → S → Prop) (ms' : List Int) (rest : Int) (x7 : Option D), Dr ms' → ms'.length ≤ 62 * i + 2 →
        WS (sFor (T.n 7) (iRg1 (cn (D.int 60))) g_law_draws_b1) [some (.rol (ns.map D.int)), some (.int many), some (.ref s.length), some (.int mx), some (.int (i : Int)), some (.int cell), some (.int rest), x7] (s ++ [.lst (ms'.map D.int)])
          (fun env s1 => ∃ (mixed : Int) (x4 x5 x6 x7 : Option D) (ms : List Int), env = [some (.rol (ns.map D.int)), some (.int many), some (.ref s.length), some (.int mixed), x4, x5, x6, x7] ∧ 0 ≤ mixed ∧ mixed < 65537 ∧ s1 = s ++ [.lst (ms.map D.int)] ∧ Dr ms ∧ ms.length ≤ 62 * (i + 1))
          (fun d s' => ∃ ms a, Dr ms ∧ ms.length = many.toNat ∧ d = .ref (s ++ [O.lst a]).length ∧ s' = (s ++ [O.lst a]) ++ [O.lst (ms.map D.int)]) B C := by
      intro B C ms' rest x7 hd' hlen'
      refine ws_forR (fun j env s1 => ∃ (rest : Int) (x7 : Option D) (ms : List Int), env = [some (.rol (ns.map D.int)), some (.int many), some (.ref s.length), some (.int mx), some (.int (i : Int)), some (.int cell), some (.int rest), x7] ∧ s1 = s ++ [.lst (ms.map D.int)] ∧ Dr ms ∧ ms.length ≤ 62 * i + 2 + j) 60 ?_ ?_ ?_
      · walk_at "mi"
        exact ⟨_, rfl, by decide, by decide, rfl, rest, x7, ms', rfl, rfl, hd', hlen'⟩
      · rintro j env s1 hj ⟨rest, x7, ms, rfl, rfl, hd, hlen⟩
        unfold g_law_draws_b1
        walk_at "mi"
        split
        · rename_i hr
          have hen : ms.length < 16777216 := by omega
          refine ⟨hen, rest / 997, _, ms ++ [rest % 997], rfl, by rw [mapI_snoc], hd.snoc (Int.emod_nonneg _ (by decide)) (Int.emod_lt_of_pos _ (by decide)), ?_⟩
          rw [List.length_append, List.length_singleton]; omega
        · exact ⟨rest, _, ms, rfl, rfl, hd, by omega⟩
      · rintro env s1 ⟨rest, x7, ms, rfl, rfl, hd, hlen⟩
        exact ⟨mx, _, _, _, _, ms, rfl, b1, b2, rfl, hd, by omega⟩
    split
    · exact inner _ _ ms cell x7 hd (by omega)
    · refine ⟨hen, .inr (by decide), ?_⟩
      refine ⟨by rw [List.length_append, List.length_map, List.length_singleton]; omega, ?_⟩
      rw [mapI_snoc, mapI_snoc]
      exact inner _ _ _ 0 x7 ((hd.snoc (Int.emod_nonneg _ (by decide)) (Int.emod_lt_of_pos _ (by decide))).snoc (Int.emod_nonneg _ (by decide)) (Int.emod_lt_of_pos _ (by decide))) (by rw [List.length_append, List.length_append, List.length_singleton, List.length_singleton]; omega)
  · rintro env s1 ⟨mixed, x4, x5, x6, x7, ms, rfl, h1, h2, rfl, hd, hlen⟩
    refine ws_forR (fun j env s1 => ∃ (mixed : Int) (x4 : Option D) (ms : List Int), env = [some (.rol (ns.map D.int)), some (.int many), some (.ref s.length), some (.int mixed), x4, x5, x6, x7] ∧ s1 = s ++ [.lst (ms.map D.int)] ∧ Dr ms ∧ ms.length ≤ 62 * ns.length + j ∧ j ≤ ms.length) many.toNat ?_ ?_ ?_
    · walk_at "mi"
      exact ⟨_, rfl, hm.1, by omega, rfl, mixed, x4, ms, rfl, rfl, hd, hlen, Nat.zero_le _⟩
    · rintro j env s1 hj ⟨mixed, x4, ms, rfl, rfl, hd, hlen, hge⟩
      unfold g_law_draws_b4
      walk_at "mi"
      refine ⟨.inr (by decide), by omega, _, _, ms ++ [_], rfl, by rw [mapI_snoc], hd.snoc (Int.emod_nonneg _ (by decide)) (Int.emod_lt_of_pos _ (by decide)), ?_⟩
      rw [List.length_append, List.length_singleton]; omega
    · rintro env s1 ⟨mixed, x4, ms, rfl, rfl, hd, hlen, hge⟩
      walk_at "mi"
      obtain ⟨k, hk⟩ := Int.eq_ofNat_of_zero_le hm.1
      subst hk
      rw [Int.toNat_natCast] at hge
      rw [cutD_take, ← List.map_take]
      exact ⟨ms.take k, _, fun m hm => hd m (List.mem_of_mem_take hm), by rw [List.length_take, Int.toNat_natCast]; omega, rfl, rfl⟩
end My

set_option Elab.async false
set_option linter.all false
set_option maxRecDepth 100000
set_option maxHeartbeats 4000000
namespace My
open PySem PySem.Spec PyProof.Rows L2 Mi
local macro_rules | `(tactic| walk_at "mi") => `(tactic| try simp only [↓w_vr, ↓w_cn, ↓w_e2, ↓w_tup, ↓w_lst, ↓w_aN, ↓w_aC, ↓w_call, ↓w_B, ↓w_M, ↓w_oN, ↓w_oS, ↓w_sl, ↓w_B1, ↓w_Tl, ↓w_An, ↓w_Or, ↓w_No, ↓w_eAn, ↓w_eO, ↓w_eNo, ↓w_eNeg, ↓w_eIf, ↓w_ch, ↓w_Dn, ↓w_lRg1, ↓w_trg1, ↓w_yes, ↓ws_forS, ↓ws_forG, ↓w_lcS, ↓w_lcG, ↓w_dcS, ↓w_dcG, items_tup, items_rol, ↓ws_seq, ↓ws_skip, ↓ws_set, ↓ws_ex, ↓ws_ret, ↓ws_retN, ↓ws_bk, ↓ws_ct, ↓ws_if, ↓ws_asg, ↓ws_dput, ↓ws_daug, ↓ws_lput, ↓ws_aug, ↓wp_some, ↓wp_none, ↓wp_if, ↓wp_map, ↓wf_ok, ↓asI_int, ↓asBl_bl,
  List.getElem?_cons_zero, List.getElem?_cons_succ, List.set_cons_zero, List.set_cons_succ, opI_int, addD_int, mulD_int, intB_int, intB_bl, absB_int, lenB_rol, lenB_tup, ixD_rol, ixD_tup, atI0, atI1, atI2, atI3, atI4, asgT_n, tyQ, appQ, slQ, slD_tup, wipeE, List.length_cons, List.length_nil, List.length_map, true_and, and_true, decide_true, ↓reduceIte, bl_t, List.map_cons, List.map_nil, List.cons_append, List.nil_append, List.replicate_succ, List.replicate_zero, Nat.reduceAdd, Nat.reduceLeDiff, Int.reduceLT, Int.reduceLE, Int.reduceNeg, Int.reduceSub, eqD_str, eqD_int, neD_int, ofStr_eq, String.reduceEq, decide_false, decide_true, in_tupS, in_tints, flatD_str, flatD_int, List.all_cons, List.all_nil, List.any_cons, List.any_nil, eqF_str, Bool.and_true, Bool.and_self, Bool.or_false, Bool.or_true, Bool.true_or, Bool.false_or, Bool.false_eq_true, Bool.not_true, Bool.not_false, in_top, ixD_top, tupB_top, items_top, lenB_top, tru_bl, asgT_2, asgT_3, ↓w_pN, ↓w_pC, ↓w_Dct, ixD_tup, Int.cast_ofNat_Int, Int.reduceEq, ↓w_DGet2, ↓w_callV, ↓ws_laug, neD_str, ↓ws_forG2, lstB_tup, eqD_bl, neD_bl, isD_non, isD_ref, isD_tup, isD_int, isD_str, isD_bl, isNotD_non, isNotD_ref, isNotD_tup, isNotD_int, isNotD_str, isNotD_bl, isiT_tup, isiT_int, isiT_str, isiT_bl, isiT_non, ↓w_lcG2, ↓ws_forZ, ↓w_lcZ, asT_tup, addI_int, gtD_int, isi_tup_tuple, isi_tup_str, isi_tup_int, isi_tup_bool, isi_tup_list, isi_str_tuple, isi_str_str, isi_str_int, isi_str_bool, isi_str_list, isi_int_tuple, isi_int_str, isi_int_int, isi_int_bool, isi_int_list, isi_bl_tuple, isi_bl_str, isi_bl_int, isi_bl_bool, isi_bl_list, isi_non_tuple, isi_non_str, isi_non_int, isi_non_bool, isi_non_list])
theorem dctAt_ref {p : Nat} {kvs : List (Key × D)} {s : S} (h : s[p]? = some (.dct kvs)) : dctAt (.ref p) s = some kvs := by simp only [dctAt, h]
theorem dget_k {p : Nat} {kvs : List (Key × D)} {s : S} {k : D} {k' : Key} (h : s[p]? = some (.dct kvs)) (hk : keyD k = some k') : dgetD (.ref p) k s = (valD kvs k').map fun v => (v, s) := by simp only [dgetD, dctAt_ref h, hk]
theorem dput_k {p : Nat} {kvs : List (Key × D)} {s : S} {k v : D} {k' : Key} (h : s[p]? = some (.dct kvs)) (hk : keyD k = some k') : dputD (.ref p) k v s = if kvs.length < 16777216 then some (s.set p (.dct (putD kvs k' v))) else none := by simp only [dputD, dctAt_ref h, hk]
theorem din_k {p : Nat} {kvs : List (Key × D)} {s : S} {k : D} {k' : Key} {neg : Bool} (h : s[p]? = some (.dct kvs)) (hk : keyD k = some k') : dinD neg k (.ref p) s = some (.bl (if neg then !(valD kvs k').isSome else (valD kvs k').isSome), s) := by simp only [dinD, dctAt_ref h, hk]
def wK (pd : Nat) (a : Int) (o : Option Int) : List (Key × D) := match o with
  | none => [(Sum.inr ("draws" : Str), D.ref pd), (Sum.inr ("at" : Str), D.int a)]
  | some v => [(Sum.inr ("draws" : Str), D.ref pd), (Sum.inr ("at" : Str), D.int a), (Sum.inr ("wide" : Str), D.int v)]
theorem wk_at (pd : Nat) (a : Int) (o : Option Int) : valD (wK pd a o) (.inr "at") = some (.int a) := by cases o <;> kernel_rfl
theorem wk_dr (pd : Nat) (a : Int) (o : Option Int) : valD (wK pd a o) (.inr "draws") = some (.ref pd) := by cases o <;> kernel_rfl
theorem wk_wide (pd : Nat) (a : Int) (v : Int) : valD (wK pd a (some v)) (.inr "wide") = some (.int v) := by kernel_rfl
theorem wk_put (pd : Nat) (a b : Int) (o : Option Int) : putD (wK pd a o) (.inr "at") (.int b) = wK pd b o := by cases o <;> kernel_rfl
theorem wk_putw (pd : Nat) (a v : Int) : putD (wK pd a none) (.inr "wide") (.int v) = wK pd a (some v) := by kernel_rfl
theorem wk_len (pd : Nat) (a : Int) (o : Option Int) : (wK pd a o).length < 16777216 := by cases o <;> (simp only [wK, List.length_cons, List.length_nil]; omega)
/-- the draws' state at pw, pd -/
def Wd (ow : Option Int) (pw pd : Nat) (s : S) : Prop := ∃ (a : Int) (ms : List Int), 0 ≤ a ∧ s[pw]? = some (.dct (wK pd a ow)) ∧ s[pd]? = some (.lst (ms.map D.int)) ∧ Dr ms ∧ ms.length ≤ 200000 ∧ pw ≠ pd
theorem Wd.app {ow : Option Int} {pw pd : Nat} {s : S} (h : Wd ow pw pd s) (t : S) : Wd ow pw pd (s ++ t) := by
  obtain ⟨a, ms, h0, h1, h2, h3, h4, h5⟩ := h
  exact ⟨a, ms, h0, old_get h1, old_get h2, h3, h4, h5⟩
theorem Wd.lt {ow : Option Int} {pw pd : Nat} {s : S} (h : Wd ow pw pd s) : pw < s.length ∧ pd < s.length := by
  obtain ⟨a, ms, h0, h1, h2, h3, h4, h5⟩ := h
  exact ⟨(List.getElem?_eq_some_iff.mp h1).1, (List.getElem?_eq_some_iff.mp h2).1⟩
theorem Wd.set {ow : Option Int} {pw pd : Nat} {s : S} (h : Wd ow pw pd s) {q : Nat} {o : O} (h1 : q ≠ pw) (h2 : q ≠ pd) : Wd ow pw pd (s.set q o) := by
  obtain ⟨a, ms, h0, e1, e2, h3, h4, h5⟩ := h
  exact ⟨a, ms, h0, by rw [List.getElem?_set_ne h1]; exact e1, by rw [List.getElem?_set_ne h2]; exact e2, h3, h4, h5⟩
theorem next_ok {ow : Option Int} {pw pd : Nat} {s : S} {n : Int} {Q : D → S → Prop} (h : Wd ow pw pd s) (hn : 0 < n) (k : ∀ (i : Int) (s' : S), 0 ≤ i → i < n → Wd ow pw pd s' → Fr pw s s' → Q (.int i) s') : WF (F_law_next [.ref pw, .int n] s) Q := by
  obtain ⟨a, ms, h0, h1, h2, h3, h4, h5⟩ := h
  have l1 : pw < s.length := (List.getElem?_eq_some_iff.mp h1).1
  unfold F_law_next
  refine (wf_fn (by rfl)).mpr ?_
  unfold g_law_next
  walk_at "mi"
  rw [dget_k h1 (by rfl), wk_at]
  walk_at "mi"
  rw [dput_k h1 (by rfl), wk_put]
  have g1 : (s.set pw (.dct (wK pd (a + 1) ow)))[pw]? = some (.dct (wK pd (a + 1) ow)) := List.getElem?_set_self l1
  have g2 : (s.set pw (.dct (wK pd (a + 1) ow)))[pd]? = some (.lst (ms.map D.int)) := by rw [List.getElem?_set_ne h5]; exact h2
  generalize hs : s.set pw (.dct (wK pd (a + 1) ow)) = s1 at g1 g2
  have w1 : Wd ow pw pd s1 := ⟨a + 1, ms, by omega, g1, g2, h3, h4, h5⟩
  have f1 : Fr pw s s1 := by
    rw [← hs]
    exact ⟨by rw [List.length_set]; exact Nat.le_refl _, fun p _ np => List.getElem?_set_ne (fun z => np z.symm)⟩
  walk_at "mi"
  refine ⟨wk_len _ _ _, ?_⟩
  rw [dget_k g1 (by rfl), wk_at]
  walk_at "mi"
  rw [dget_k g1 (by rfl), wk_dr]
  walk_at "mi"
  rw [lenB_ref g2]
  walk_at "mi"
  split
  · exact k 0 s1 (by decide) hn w1 f1
  · rename_i hc
    rw [dget_k g1 (by rfl), wk_dr]
    walk_at "mi"
    rw [dget_k g1 (by rfl), wk_at]
    walk_at "mi"
    have hlt : a.toNat < ms.length := by omega
    have ha : a + 1 - 1 = (a.toNat : Int) := by omega
    rw [ixD_ref g2, ha, atI_nat' (d := .int ms[a.toNat]) (by rw [List.getElem?_map, List.getElem?_eq_getElem hlt]; rfl)]
    walk_at "mi"
    exact ⟨hn, k _ s1 (Int.emod_nonneg _ (by omega)) (Int.emod_lt_of_pos _ hn) w1 f1⟩
end My

set_option Elab.async false
set_option linter.all false
set_option maxRecDepth 100000
set_option maxHeartbeats 4000000
namespace My
open PySem PySem.Spec PyProof.Rows L2 Mi
local macro_rules | `(tactic| walk_at "mi") => `(tactic| try simp only [↓w_vr, ↓w_cn, ↓w_e2, ↓w_tup, ↓w_lst, ↓w_aN, ↓w_aC, ↓w_call, ↓w_B, ↓w_M, ↓w_oN, ↓w_oS, ↓w_sl, ↓w_B1, ↓w_Tl, ↓w_An, ↓w_Or, ↓w_No, ↓w_eAn, ↓w_eO, ↓w_eNo, ↓w_eNeg, ↓w_eIf, ↓w_ch, ↓w_Dn, ↓w_lRg1, ↓w_trg1, ↓w_yes, ↓ws_forS, ↓ws_forG, ↓w_lcS, ↓w_lcG, ↓w_dcS, ↓w_dcG, items_tup, items_rol, ↓ws_seq, ↓ws_skip, ↓ws_set, ↓ws_ex, ↓ws_ret, ↓ws_retN, ↓ws_bk, ↓ws_ct, ↓ws_if, ↓ws_asg, ↓ws_dput, ↓ws_daug, ↓ws_lput, ↓ws_aug, ↓wp_some, ↓wp_none, ↓wp_if, ↓wp_map, ↓wf_ok, ↓asI_int, ↓asBl_bl,
  List.getElem?_cons_zero, List.getElem?_cons_succ, List.set_cons_zero, List.set_cons_succ, opI_int, addD_int, mulD_int, intB_int, intB_bl, absB_int, lenB_rol, lenB_tup, ixD_rol, ixD_tup, atI0, atI1, atI2, atI3, atI4, asgT_n, tyQ, appQ, slQ, slD_tup, wipeE, List.length_cons, List.length_nil, List.length_map, true_and, and_true, decide_true, ↓reduceIte, bl_t, List.map_cons, List.map_nil, List.cons_append, List.nil_append, List.replicate_succ, List.replicate_zero, Nat.reduceAdd, Nat.reduceLeDiff, Int.reduceLT, Int.reduceLE, Int.reduceNeg, Int.reduceSub, eqD_str, eqD_int, neD_int, ofStr_eq, String.reduceEq, decide_false, decide_true, in_tupS, in_tints, flatD_str, flatD_int, List.all_cons, List.all_nil, List.any_cons, List.any_nil, eqF_str, Bool.and_true, Bool.and_self, Bool.or_false, Bool.or_true, Bool.true_or, Bool.false_or, Bool.false_eq_true, Bool.not_true, Bool.not_false, in_top, ixD_top, tupB_top, items_top, lenB_top, tru_bl, asgT_2, asgT_3, ↓w_pN, ↓w_pC, ↓w_Dct, ixD_tup, Int.cast_ofNat_Int, Int.reduceEq, ↓w_DGet2, ↓w_callV, ↓ws_laug, neD_str, ↓ws_forG2, lstB_tup, eqD_bl, neD_bl, isD_non, isD_ref, isD_tup, isD_int, isD_str, isD_bl, isNotD_non, isNotD_ref, isNotD_tup, isNotD_int, isNotD_str, isNotD_bl, isiT_tup, isiT_int, isiT_str, isiT_bl, isiT_non, ↓w_lcG2, ↓ws_forZ, ↓w_lcZ, asT_tup, addI_int, gtD_int, isi_tup_tuple, isi_tup_str, isi_tup_int, isi_tup_bool, isi_tup_list, isi_str_tuple, isi_str_str, isi_str_int, isi_str_bool, isi_str_list, isi_int_tuple, isi_int_str, isi_int_int, isi_int_bool, isi_int_list, isi_bl_tuple, isi_bl_str, isi_bl_int, isi_bl_bool, isi_bl_list, isi_non_tuple, isi_non_str, isi_non_int, isi_non_bool, isi_non_list])

/-! ### drawn machine code -/
structure RgOk (gs : List Rg) : Prop where
  n1 : 1 ≤ gs.length
  n2 : gs.length ≤ 12
  sz : ∀ g ∈ gs, 1 ≤ g.size
theorem regions_ok {ow : Option Int} {pw pd : Nat} {s : S} {Q : D → S → Prop} (hW : Wd ow pw pd s) (k : ∀ gs s', RgOk gs → Wd ow pw pd s' → Fr pw s s' → Q (.tup (gs.map Rg.enc)) s') : WF (F_law_regions [.ref pw] s) Q := by
  unfold F_law_regions
  refine (wf_fn (by rfl)).mpr ?_
  unfold g_law_regions
  walk_at "mi"
  refine next_ok (hW.app _) (by decide) fun n1 s1 n10 n11 hW1 hF1 => ?_
  walk_at "mi"
  refine next_ok hW1 (by decide) fun n2 s2 n20 n21 hW2 hF2 => ?_
  walk_at "mi"
  refine next_ok (hW2.app _) (by decide) fun n3 s3 n30 n31 hW3 hF3 => ?_
  have lw := hW.lt
  have lw2 := hW2.lt
  walk_at "mi"
  rw [ixD_ref (hF3.get top_get (by omega))]
  obtain ⟨m, hm, hm1, hm2⟩ : ∃ m : Nat, atI [D.int (1 + n1), D.int (5 + n2)] (n3 / 2) = some (.int (m : Int)) ∧ 1 ≤ m ∧ m ≤ 12 := by
    have : n3 / 2 = 0 ∨ n3 / 2 = 1 := by omega
    rcases this with e | e
    · rw [e]; exact ⟨(1 + n1).toNat, by rw [show ((1 + n1).toNat : Int) = 1 + n1 from by omega]; rfl, by omega, by omega⟩
    · rw [e]; exact ⟨(5 + n2).toNat, by rw [show ((5 + n2).toNat : Int) = 5 + n2 from by omega]; rfl, by omega, by omega⟩
  rw [hm]
  walk_at "mi"
  have hr0 := hF3.get (old_get (hF2.get (hF1.get (top_get (s := s) (o := O.lst [])) (by omega)) (by omega))) (by omega)
  have hF01 : Fr pw s s3 := (Fr.app pw s _).trans (hF1.trans (hF2.trans ((Fr.app _ _ _).trans hF3)))
  refine ⟨by omega, ?_⟩
  rw [Int.toNat_natCast]
  refine fs_rng (fun i env st => (∃ (b : Int) (x3 x4 : Option D), env = [some (.ref pw), some (.ref s.length), some (.int b), x3, x4]) ∧ Wd ow pw pd st ∧ Fr pw s st ∧ ∃ gs : List Rg, st[s.length]? = some (.lst (gs.map Rg.enc)) ∧ gs.length = i ∧ ∀ g ∈ gs, 1 ≤ g.size) ⟨⟨_, _, _, rfl⟩, hW3, hF01, [], hr0, rfl, fun g h => by cases h⟩ ?_ ?_
  · rintro i env st hi ⟨⟨b, x3, x4, rfl⟩, hWt, hFt, gs, hgs, hl, hsz⟩
    rw [asgT_n, wp_some]
    unfold g_law_regions_b1
    walk_at "mi"
    refine next_ok (hWt.app _) (by decide) fun j s2 j0 j5 hW2 hF2 => ?_
    have lt := hWt.lt
    have e2 := hF2.get (top_get (s := st) (o := O.lst [D.int 1, D.int 2, D.int 4, D.int 8, D.int 3, D.int 300, D.int 4096])) (by omega)
    rw [ixD_ref e2]
    obtain ⟨sz, hs1, hs2⟩ : ∃ sz : Int, atI [D.int 1, D.int 2, D.int 4, D.int 8, D.int 3, D.int 300, D.int 4096] j = some (.int sz) ∧ 1 ≤ sz := by
      have : j = 0 ∨ j = 1 ∨ j = 2 ∨ j = 3 ∨ j = 4 ∨ j = 5 ∨ j = 6 := by omega
      rcases this with rfl | rfl | rfl | rfl | rfl | rfl | rfl
      · exact ⟨1, rfl, by decide⟩
      · exact ⟨2, rfl, by decide⟩
      · exact ⟨4, rfl, by decide⟩
      · exact ⟨8, rfl, by decide⟩
      · exact ⟨3, rfl, by decide⟩
      · exact ⟨300, rfl, by decide⟩
      · exact ⟨4096, rfl, by decide⟩
    rw [hs1]
    have hg2 : s2[s.length]? = some (.lst (gs.map Rg.enc)) := hF2.get (old_get hgs) (by omega)
    walk_at "mi"
    refine ⟨ty_ref hg2, ?_⟩
    refine next_ok (hW2.app _) (by decide) fun j' s3 j0' j2' hW3 hF3 => ?_
    have lt2 := hW2.lt
    have e3 := hF3.get (top_get (s := s2) (o := O.lst [D.str (Str.ofString "public"), D.str (Str.ofString "secret")])) (by omega)
    rw [ixD_ref e3]
    have hg3 : s3[s.length]? = some (.lst (gs.map Rg.enc)) := hF3.get (old_get hg2) (by omega)
    obtain ⟨sc, hsc⟩ : ∃ sc : Bool, atI [D.str (Str.ofString "public"), D.str (Str.ofString "secret")] j' = some (.str (lab sc)) := by
      have : j' = 0 ∨ j' = 1 := by omega
      rcases this with rfl | rfl
      · exact ⟨false, rfl⟩
      · exact ⟨true, rfl⟩
    rw [hsc]
    walk_at "mi"
    rw [app_ref hg3, if_pos (by rw [List.length_map]; omega)]
    walk_at "mi"
    have l3 : s.length < s3.length := (List.getElem?_eq_some_iff.mp hg3).1
    refine ⟨⟨_, _, _, rfl⟩, hW3.set (by omega) (by omega), ((hFt.trans ((Fr.app _ _ _).trans hF2)).trans ((Fr.app _ _ _).trans hF3)).set (.inr (Nat.le_refl _)), gs ++ [⟨b, sz, sc⟩], ?_, by rw [List.length_append, hl]; rfl, fun g hg => ?_⟩
    · rw [List.getElem?_set_self l3, List.map_append]; rfl
    · rcases List.mem_append.mp hg with z | z
      · exact hsz g z
      · rw [List.mem_singleton.mp z]; exact hs2
  · rintro env st ⟨⟨b, x3, x4, rfl⟩, hWt, hFt, gs, hgs, hl, hsz⟩
    walk_at "mi"
    rw [tupB_ref hgs]
    walk_at "mi"
    exact k gs st ⟨by omega, by omega, hsz⟩ hWt hFt
theorem span_ok2 {ow : Option Int} {pw pd : Nat} {gs : List Rg} {s : S} {Q : D → S → Prop} (hW : Wd ow pw pd s) (hg : RgOk gs) (k : ∀ x y s', Wd ow pw pd s' → Fr pw s s' → Q (.tup [.int x, .int y]) s') : WF (F_law_span [.ref pw, .tup (gs.map Rg.enc)] s) Q := by
  unfold F_law_span
  refine (wf_fn (by rfl)).mpr ?_
  unfold g_law_span
  have n1 := hg.n1
  walk_at "mi"
  refine next_ok hW (by omega) fun n s1 n0 n4 hW1 hF1 => ?_
  walk_at "mi"
  have hlt : n.toNat < gs.length := by omega
  have hix : atI (gs.map Rg.enc) n = some (gs[n.toNat]).enc := by
    have e : n = ((n.toNat : Nat) : Int) := by omega
    conv => lhs; rw [e]
    exact atI_nat' (by rw [List.getElem?_map, List.getElem?_eq_getElem hlt]; rfl)
  rw [hix]
  have hsz := hg.sz _ (List.getElem_mem hlt)
  generalize gs[n.toNat] = g at hsz
  unfold Rg.enc
  walk_at "mi"
  refine next_ok (hW1.app _) (by decide) fun j s2 j0 j5 hW2 hF2 => ?_
  have lt := hW1.lt
  have e2 := hF2.get (top_get (s := s1) (o := O.lst [D.int 0, D.int 0, D.int 1, D.int 3, D.int 7, D.int 255, D.int 4095])) (by omega)
  rw [ixD_ref e2]
  obtain ⟨mk, hs1, hs2, hs3⟩ : ∃ mk : Int, atI [D.int 0, D.int 0, D.int 1, D.int 3, D.int 7, D.int 255, D.int 4095] j = some (.int mk) ∧ 0 ≤ mk ∧ mk ≤ 4095 := by
    have : j = 0 ∨ j = 1 ∨ j = 2 ∨ j = 3 ∨ j = 4 ∨ j = 5 ∨ j = 6 := by omega
    rcases this with rfl | rfl | rfl | rfl | rfl | rfl | rfl
    · exact ⟨0, rfl, by decide, by decide⟩
    · exact ⟨0, rfl, by decide, by decide⟩
    · exact ⟨1, rfl, by decide, by decide⟩
    · exact ⟨3, rfl, by decide, by decide⟩
    · exact ⟨7, rfl, by decide, by decide⟩
    · exact ⟨255, rfl, by decide, by decide⟩
    · exact ⟨4095, rfl, by decide, by decide⟩
  rw [hs1]
  walk_at "mi"
  refine next_ok hW2 (by decide) fun t s3 t0 t7 hW3 hF3 => ?_
  have hF03 : Fr pw s s3 := hF1.trans ((Fr.app _ _ _).trans (hF2.trans hF3))
  walk_at "mi"
  by_cases c1 : 0 < t
  · rw [if_pos c1]
    refine ws_while (fun mm env st => ∃ mk : Int, env = [some (.ref pw), some (.tup (gs.map fun g => D.tup [D.int g.base, D.int g.size, D.str (lab g.sec)])), some (.int g.base), some (.int g.size), some (.str (lab g.sec)), some (.int mk)] ∧ 0 ≤ mk ∧ mk.toNat = mm ∧ st = s3) mk.toNat (by omega) ⟨mk, rfl, hs2, rfl, rfl⟩ ?_
    rintro mm env st ⟨mk, rfl, m0, rfl, rfl⟩
    walk_at "mi"
    by_cases c2 : g.size ≤ mk
    · simp only [c2, decide_true, ↓reduceIte]
      unfold g_law_span_b1
      walk_at "mi"
      exact ⟨(mk / 2).toNat, by omega, mk / 2, rfl, by omega, rfl⟩
    · simp only [c2, decide_false, Bool.false_eq_true, ↓reduceIte]
      refine next_ok hW3 (by omega) fun u s4 u0 u1 hW4 hF4 => ?_
      walk_at "mi"
      exact k _ _ _ hW4 (hF03.trans hF4)
  · rw [if_neg c1]
    refine next_ok hW3 (by decide) fun u s4 u0 u1 hW4 hF4 => ?_
    exact k _ _ _ hW4 (hF03.trans hF4)
end My

set_option Elab.async false
set_option linter.all false
set_option maxRecDepth 100000
set_option maxHeartbeats 4000000
namespace My
open PySem PySem.Spec PyProof.Rows L2 Mi
local macro_rules | `(tactic| walk_at "mi") => `(tactic| try simp only [↓w_vr, ↓w_cn, ↓w_e2, ↓w_tup, ↓w_lst, ↓w_aN, ↓w_aC, ↓w_call, ↓w_B, ↓w_M, ↓w_oN, ↓w_oS, ↓w_sl, ↓w_B1, ↓w_Tl, ↓w_An, ↓w_Or, ↓w_No, ↓w_eAn, ↓w_eO, ↓w_eNo, ↓w_eNeg, ↓w_eIf, ↓w_ch, ↓w_Dn, ↓w_lRg1, ↓w_trg1, ↓w_yes, ↓ws_forS, ↓ws_forG, ↓w_lcS, ↓w_lcG, ↓w_dcS, ↓w_dcG, items_tup, items_rol, ↓ws_seq, ↓ws_skip, ↓ws_set, ↓ws_ex, ↓ws_ret, ↓ws_retN, ↓ws_bk, ↓ws_ct, ↓ws_if, ↓ws_asg, ↓ws_dput, ↓ws_daug, ↓ws_lput, ↓ws_aug, ↓wp_some, ↓wp_none, ↓wp_if, ↓wp_map, ↓wf_ok, ↓asI_int, ↓asBl_bl,
  List.getElem?_cons_zero, List.getElem?_cons_succ, List.set_cons_zero, List.set_cons_succ, opI_int, addD_int, mulD_int, intB_int, intB_bl, absB_int, lenB_rol, lenB_tup, ixD_rol, ixD_tup, atI0, atI1, atI2, atI3, atI4, asgT_n, tyQ, appQ, slQ, slD_tup, wipeE, List.length_cons, List.length_nil, List.length_map, true_and, and_true, decide_true, ↓reduceIte, bl_t, List.map_cons, List.map_nil, List.cons_append, List.nil_append, List.replicate_succ, List.replicate_zero, Nat.reduceAdd, Nat.reduceLeDiff, Int.reduceLT, Int.reduceLE, Int.reduceNeg, Int.reduceSub, eqD_str, eqD_int, neD_int, ofStr_eq, String.reduceEq, decide_false, decide_true, in_tupS, in_tints, flatD_str, flatD_int, List.all_cons, List.all_nil, List.any_cons, List.any_nil, eqF_str, Bool.and_true, Bool.and_self, Bool.or_false, Bool.or_true, Bool.true_or, Bool.false_or, Bool.false_eq_true, Bool.not_true, Bool.not_false, in_top, ixD_top, tupB_top, items_top, lenB_top, tru_bl, asgT_2, asgT_3, ↓w_pN, ↓w_pC, ↓w_Dct, ixD_tup, Int.cast_ofNat_Int, Int.reduceEq, ↓w_DGet2, ↓w_callV, ↓ws_laug, neD_str, ↓ws_forG2, lstB_tup, eqD_bl, neD_bl, isD_non, isD_ref, isD_tup, isD_int, isD_str, isD_bl, isNotD_non, isNotD_ref, isNotD_tup, isNotD_int, isNotD_str, isNotD_bl, isiT_tup, isiT_int, isiT_str, isiT_bl, isiT_non, ↓w_lcG2, ↓ws_forZ, ↓w_lcZ, asT_tup, addI_int, gtD_int, isi_tup_tuple, isi_tup_str, isi_tup_int, isi_tup_bool, isi_tup_list, isi_str_tuple, isi_str_str, isi_str_int, isi_str_bool, isi_str_list, isi_int_tuple, isi_int_str, isi_int_int, isi_int_bool, isi_int_list, isi_bl_tuple, isi_bl_str, isi_bl_int, isi_bl_bool, isi_bl_list, isi_non_tuple, isi_non_str, isi_non_int, isi_non_bool, isi_non_list])

/-! ### drawn rows -/
def MR.Dn (n : Int) : MR → Prop
  | .const d _ => R16 d
  | .op _ d a b => R16 d ∧ R16 a ∧ R16 b
  | .select d c a b => R16 d ∧ R16 c ∧ R16 a ∧ R16 b
  | .load d a _ _ => R16 d ∧ R16 a
  | .store a _ _ b => R16 a ∧ R16 b
  | .out a => R16 a
  | .branch a t => R16 a ∧ 0 ≤ t ∧ t < n
  | .jump t => 0 ≤ t ∧ t < n
  | .stop a => R16 a
theorem MR.Dn.ok {m : MR} {n r : Nat} (h : m.Dn (n : Int)) (hr : r + 1 < n) : m.Ok n r := by
  cases m <;> simp only [MR.Dn] at h <;> simp only [MR.Ok] <;> first | exact h | exact ⟨h, hr⟩ | exact ⟨h.1, hr⟩ | exact ⟨h.1, h.2, hr⟩ | exact ⟨h.1, h.2.1, h.2.2, hr⟩ | exact ⟨h.1, h.2.1, h.2.2.1, h.2.2.2, hr⟩
theorem at3i {a b c j : Int} (h0 : 0 ≤ j) (h3 : j < 3) : ∃ x, atI [D.int a, D.int b, D.int c] j = some (.int x) := by
  have : j = 0 ∨ j = 1 ∨ j = 2 := by omega
  rcases this with rfl | rfl | rfl
  · exact ⟨_, rfl⟩
  · exact ⟨_, rfl⟩
  · exact ⟨_, rfl⟩
theorem at13 {j : Int} (h0 : 0 ≤ j) (h3 : j < 13) : ∃ x, atI [D.str (Str.ofString "+"), D.str (Str.ofString "-"), D.str (Str.ofString "*"), D.str (Str.ofString "&"), D.str (Str.ofString "|"), D.str (Str.ofString "^"), D.str (Str.ofString "<<"), D.str (Str.ofString ">>"), D.str (Str.ofString "=="), D.str (Str.ofString "<"), D.str (Str.ofString "<="), D.str (Str.ofString "div"), D.str (Str.ofString "mod")] j = some (.str x) := by
  have : j = 0 ∨ j = 1 ∨ j = 2 ∨ j = 3 ∨ j = 4 ∨ j = 5 ∨ j = 6 ∨ j = 7 ∨ j = 8 ∨ j = 9 ∨ j = 10 ∨ j = 11 ∨ j = 12 := by omega
  rcases this with rfl | rfl | rfl | rfl | rfl | rfl | rfl | rfl | rfl | rfl | rfl | rfl | rfl <;> exact ⟨_, rfl⟩
theorem rv {x v : Int} (hv : 0 < v ∧ v ≤ 16) (h0 : 0 ≤ x) (h : x < v) : R16 x := ⟨h0, by omega⟩
theorem wide_of {v : Int} {pw pd : Nat} {s : S} (h : Wd (some v) pw pd s) : dgetD (.ref pw) (.str "wide") s = some (.int v, s) := by
  obtain ⟨a, ms, h0, h1, h2, h3, h4, h5⟩ := h
  rw [dget_k h1 (by rfl), wk_wide]; rfl
theorem put_wide {v : Int} {pw pd : Nat} {s : S} (h : Wd none pw pd s) : ∃ s', dputD (.ref pw) (.str "wide") (.int v) s = some s' ∧ Wd (some v) pw pd s' ∧ Fr pw s s' := by
  obtain ⟨a, ms, h0, h1, h2, h3, h4, h5⟩ := h
  have l1 : pw < s.length := (List.getElem?_eq_some_iff.mp h1).1
  refine ⟨s.set pw (.dct (wK pd a (some v))), ?_, ⟨a, ms, h0, List.getElem?_set_self l1, by rw [List.getElem?_set_ne h5]; exact h2, h3, h4, h5⟩, (Fr.refl pw s).set (.inl rfl)⟩
  rw [dput_k h1 (by rfl), if_pos (wk_len pd a none), wk_putw]
theorem r6 {x : Int} (h0 : 0 ≤ x) (h : x < 6) : R16 x := ⟨h0, by omega⟩
theorem row_ok {v : Int} {pw pd : Nat} {gs : List Rg} {many : Int} {s : S} {Q : D → S → Prop} (hW : Wd (some v) pw pd s) (hg : RgOk gs) (hm : 0 < many) (hv : 0 < v ∧ v ≤ 16) (k : ∀ (m : MR) s', m.Dn many → Wd (some v) pw pd s' → Fr pw s s' → Q m.enc s') : WF (F_law_row [.ref pw, .tup (gs.map Rg.enc), .int many] s) Q := by
  unfold F_law_row
  refine (wf_fn (by rfl)).mpr ?_
  unfold g_law_row
  walk_at "mi"
  refine next_ok hW (by decide) fun t s1 t0 t1 hW1 hF1 => ?_
  walk_at "mi"
  rw [wide_of hW1]
  walk_at "mi"
  refine next_ok hW1 hv.1 fun d s2 d0 d1 hW2 hF2 => ?_
  walk_at "mi"
  rw [wide_of hW2]
  walk_at "mi"
  refine next_ok hW2 hv.1 fun a s3 a0 a1 hW3 hF3 => ?_
  walk_at "mi"
  rw [wide_of hW3]
  walk_at "mi"
  refine next_ok hW3 hv.1 fun b s4 b0 b1 hW4 hF4 => ?_
  walk_at "mi"
  have hF : Fr pw s s4 := hF1.trans (hF2.trans (hF3.trans hF4))
  have lw := hW4.lt
  by_cases c1 : t < 2
  · simp only [c1, ↓reduceIte]
    refine next_ok hW4 (by decide) fun u s5 u0 u1 hW5 hF5 => ?_
    walk_at "mi"
    refine next_ok hW5 (by decide) fun v' s6 v0 v1 hW6 hF6 => ?_
    walk_at "mi"
    refine next_ok hW6 (by decide) fun x s7 x0 x1 hW7 hF7 => ?_
    walk_at "mi"
    refine ⟨.inr (by decide), ?_⟩
    refine next_ok (hW7.app _) (by decide) fun y s8 y0 y1 hW8 hF8 => ?_
    have lw7 := hW7.lt
    rw [ixD_ref (hF8.get top_get (by omega))]
    obtain ⟨z, hz⟩ := at3i (a := u) (b := 4294967295 - v') (c := x * 4771117) y0 y1
    rw [hz]
    walk_at "mi"
    exact k (.const d z) s8 (rv hv d0 d1) hW8 (hF.trans (hF5.trans (hF6.trans (hF7.trans ((Fr.app _ _ _).trans hF8)))))
  simp only [c1, ↓reduceIte]
  by_cases c2 : t < 6
  · simp only [c2, ↓reduceIte]
    walk_at "mi"
    refine next_ok (hW4.app _) (by decide) fun u s5 u0 u1 hW5 hF5 => ?_
    rw [ixD_ref (hF5.get top_get (by omega))]
    obtain ⟨g, hgx⟩ := at13 u0 u1
    rw [hgx]
    walk_at "mi"
    exact k (.op g d a b) s5 ⟨rv hv d0 d1, rv hv a0 a1, rv hv b0 b1⟩ hW5 (hF.trans ((Fr.app _ _ _).trans hF5))
  simp only [c2, ↓reduceIte]
  by_cases c3 : t = 6
  · simp only [c3, ↓reduceIte]
    rw [wide_of hW4]
    walk_at "mi"
    refine next_ok hW4 hv.1 fun u s5 u0 u1 hW5 hF5 => ?_
    exact k (.select d u a b) s5 ⟨rv hv d0 d1, rv hv u0 u1, rv hv a0 a1, rv hv b0 b1⟩ hW5 (hF.trans hF5)
  simp only [c3, ↓reduceIte]
  by_cases c4 : t < 9
  · simp only [c4, ↓reduceIte]
    refine span_ok2 hW4 hg fun x y s5 hW5 hF5 => ?_
    walk_at "mi"
    exact k (.load d a x y) s5 ⟨rv hv d0 d1, rv hv a0 a1⟩ hW5 (hF.trans hF5)
  simp only [c4, ↓reduceIte]
  by_cases c5 : t < 11
  · simp only [c5, ↓reduceIte]
    refine span_ok2 hW4 hg fun x y s5 hW5 hF5 => ?_
    walk_at "mi"
    exact k (.store a x y b) s5 ⟨rv hv a0 a1, rv hv b0 b1⟩ hW5 (hF.trans hF5)
  simp only [c5, ↓reduceIte]
  by_cases c6 : t = 11
  · simp only [c6, ↓reduceIte]
    exact k (.out a) s4 (rv hv a0 a1) hW4 hF
  simp only [c6, ↓reduceIte]
  by_cases c7 : t = 12
  · simp only [c7, ↓reduceIte]
    refine next_ok hW4 hm fun u s5 u0 u1 hW5 hF5 => ?_
    exact k (.branch a u) s5 ⟨rv hv a0 a1, u0, u1⟩ hW5 (hF.trans hF5)
  simp only [c7, ↓reduceIte]
  refine next_ok hW4 hm fun u s5 u0 u1 hW5 hF5 => ?_
  walk_at "mi"
  refine next_ok (hW5.app _) (by decide) fun y s6 y0 y1 hW6 hF6 => ?_
  have lw5 := hW5.lt
  rw [ixD_ref (hF6.get top_get (by omega))]
  have hF06 := hF.trans (hF5.trans ((Fr.app _ _ _).trans hF6))
  have : y = 0 ∨ y = 1 ∨ y = 2 := by omega
  rcases this with rfl | rfl | rfl
  · walk_at "mi"
    exact k (.jump u) s6 ⟨u0, u1⟩ hW6 hF06
  · walk_at "mi"
    exact k (.stop a) s6 (rv hv a0 a1) hW6 hF06
  · walk_at "mi"
    exact k (.const d 1) s6 (rv hv d0 d1) hW6 hF06
theorem code_ok {pw pd : Nat} {s : S} {Q : D → S → Prop} (hW : Wd none pw pd s) (k : ∀ (c : MC) s' v, c.Ok → 2 ≤ c.rows.length → c.rows.length ≤ 17 → Wd (some v) pw pd s' → Fr pw s s' → Q c.enc s') : WF (F_law_code [.ref pw] s) Q := by
  unfold F_law_code
  refine (wf_fn (by rfl)).mpr ?_
  unfold g_law_code
  walk_at "mi"
  refine regions_ok hW fun gs s1 hg hW1 hF1 => ?_
  walk_at "mi"
  refine next_ok hW1 (by decide) fun n s2 n0 n1 hW2 hF2 => ?_
  walk_at "mi"
  refine next_ok (hW2.app _) (by decide) fun j s2a j0 j1 hW2a hF2a => ?_
  have lw2 := hW2.lt
  rw [ixD_ref (hF2a.get top_get (by omega))]
  obtain ⟨v, hv1, hv⟩ : ∃ v : Int, atI [D.int 6, D.int 16] j = some (.int v) ∧ 0 < v ∧ v ≤ 16 := by
    have : j = 0 ∨ j = 1 := by omega
    rcases this with rfl | rfl
    · exact ⟨6, rfl, by decide⟩
    · exact ⟨16, rfl, by decide⟩
  rw [hv1]
  walk_at "mi"
  obtain ⟨s2b, eb, hW2b, hF2b⟩ := put_wide (v := v) hW2a
  rw [eb]
  walk_at "mi"
  have hF2 := hF2.trans ((Fr.app _ _ _).trans (hF2a.trans hF2b))
  have hW2 := hW2b
  generalize s2b = s2 at *
  obtain ⟨m, hm⟩ : ∃ m : Nat, 2 + n - 1 = (m : Int) := ⟨(2 + n - 1).toNat, by omega⟩
  have hmm : 2 + n = ((m + 1 : Nat) : Int) := by omega
  rw [hm, Int.toNat_natCast]
  refine ⟨by omega, ?_⟩
  have lw2 := hW2.lt
  refine cs_rng (fun i ys st => Wd (some v) pw pd st ∧ Fr pw s2 st ∧ ∃ rs : List MR, ys = rs.map MR.enc ∧ rs.length = i ∧ ∀ r ∈ rs, r.Dn (2 + n)) (by omega) ⟨hW2, Fr.refl _ _, [], rfl, rfl, fun _ h => by cases h⟩ ?_ ?_
  · rintro i ys st hi ⟨hWt, hFt, rs, rfl, hl, hr⟩
    walk_at "mi"
    refine row_ok hWt hg (by omega) hv fun r s' hd hW' hF' => ?_
    refine ⟨hW', hFt.trans hF', rs ++ [r], by rw [List.map_append]; rfl, by rw [List.length_append, hl]; rfl, fun r' h => ?_⟩
    rcases List.mem_append.mp h with z | z
    · exact hr r' z
    · rw [List.mem_singleton.mp z]; exact hd
  · rintro ys st ⟨hWt, hFt, rs, rfl, hl, hr⟩
    walk_at "mi"
    have lwt := hWt.lt
    refine next_ok (hWt.app _) (by decide) fun u s3 u0 u1 hW3 hF3 => ?_
    walk_at "mi"
    refine next_ok hW3 (by omega) fun vv s4 v0 v1 hW4 hF4 => ?_
    walk_at "mi"
    refine next_ok (hW4.app _) (by decide) fun y s5 y0 y1 hW5 hF5 => ?_
    have lw3 := hW3.lt
    have lw4 := hW4.lt
    have hrows := hF3.get (top_get (s := st) (o := O.lst (rs.map MR.enc))) (by omega)
    have hrows4 := hF4.get hrows (by omega)
    have hrows5 := hF5.get (old_get hrows4) (by omega)
    have h5 := hF5.get (top_get (s := s4) (o := O.lst [D.tup [D.str (Str.ofString "stop"), D.int u], D.tup [D.str (Str.ofString "jump"), D.int vv]])) (by omega)
    walk_at "mi"
    rw [ixD_ref h5]
    have hy : y / 3 = 0 ∨ y / 3 = 1 := by omega
    obtain ⟨l, hl1, hl2⟩ : ∃ l : MR, atI [D.tup [D.str (Str.ofString "stop"), D.int u], D.tup [D.str (Str.ofString "jump"), D.int vv]] (y / 3) = some l.enc ∧ l.Ok (m + 1) m := by
      rcases hy with e | e
      · rw [e]; exact ⟨.stop u, rfl, r6 u0 u1⟩
      · rw [e]; exact ⟨.jump vv, rfl, by show 0 ≤ vv ∧ vv < ((m + 1 : Nat) : Int); omega⟩
    rw [hl1]
    walk_at "mi"
    have hF05 : Fr pw s s5 := hF1.trans (hF2.trans (hFt.trans ((Fr.app _ _ _).trans (hF3.trans (hF4.trans ((Fr.app _ _ _).trans hF5))))))
    rw [add_refs (old_get hrows5) top_get, if_pos (by rw [List.length_map, hl]; show m + 1 ≤ 16777216; omega)]
    walk_at "mi"
    have hlen : (rs ++ [l]).length = m + 1 := by rw [List.length_append, hl]; rfl
    have e : rs.map MR.enc ++ [l.enc] = (rs ++ [l]).map MR.enc := by rw [List.map_append]; rfl
    rw [e]
    refine k ⟨gs, rs ++ [l]⟩ _ v ⟨by show 1 ≤ (rs ++ [l]).length; omega, by show (rs ++ [l]).length ≤ 3000; omega, by have := hg.n2; show gs.length ≤ 1000; omega, fun r x hx => ?_⟩ (by show 2 ≤ (rs ++ [l]).length; omega) (by show (rs ++ [l]).length ≤ 17; omega) ((hW5.app _).app _) (hF05.trans ((Fr.app _ _ _).trans (Fr.app _ _ _)))
    have hx : (rs ++ [l])[r]? = some x := hx
    show x.Ok (rs ++ [l]).length r
    rw [hlen]
    by_cases cr : r < m
    · rw [List.getElem?_append_left (by omega)] at hx
      have := hr x (List.mem_of_getElem? hx)
      rw [hmm] at this
      exact this.ok (by omega)
    · have hr' : r = m := by have := (List.getElem?_eq_some_iff.mp hx).1; omega
      subst hr'
      rw [List.getElem?_append_right (by omega), hl, Nat.sub_self] at hx
      cases hx
      exact hl2
end My

set_option Elab.async false
set_option linter.all false
set_option maxRecDepth 100000
set_option maxHeartbeats 4000000
namespace My
open PySem PySem.Spec PyProof.Rows L2 Mi
local macro_rules | `(tactic| walk_at "mi") => `(tactic| try simp only [↓w_vr, ↓w_cn, ↓w_e2, ↓w_tup, ↓w_lst, ↓w_aN, ↓w_aC, ↓w_call, ↓w_B, ↓w_M, ↓w_oN, ↓w_oS, ↓w_sl, ↓w_B1, ↓w_Tl, ↓w_An, ↓w_Or, ↓w_No, ↓w_eAn, ↓w_eO, ↓w_eNo, ↓w_eNeg, ↓w_eIf, ↓w_ch, ↓w_Dn, ↓w_lRg1, ↓w_trg1, ↓w_yes, ↓ws_forS, ↓ws_forG, ↓w_lcS, ↓w_lcG, ↓w_dcS, ↓w_dcG, items_tup, items_rol, ↓ws_seq, ↓ws_skip, ↓ws_set, ↓ws_ex, ↓ws_ret, ↓ws_retN, ↓ws_bk, ↓ws_ct, ↓ws_if, ↓ws_asg, ↓ws_dput, ↓ws_daug, ↓ws_lput, ↓ws_aug, ↓wp_some, ↓wp_none, ↓wp_if, ↓wp_map, ↓wf_ok, ↓asI_int, ↓asBl_bl,
  List.getElem?_cons_zero, List.getElem?_cons_succ, List.set_cons_zero, List.set_cons_succ, opI_int, addD_int, mulD_int, intB_int, intB_bl, absB_int, lenB_rol, lenB_tup, ixD_rol, ixD_tup, atI0, atI1, atI2, atI3, atI4, asgT_n, tyQ, appQ, slQ, slD_tup, wipeE, List.length_cons, List.length_nil, List.length_map, true_and, and_true, decide_true, ↓reduceIte, bl_t, List.map_cons, List.map_nil, List.cons_append, List.nil_append, List.replicate_succ, List.replicate_zero, Nat.reduceAdd, Nat.reduceLeDiff, Int.reduceLT, Int.reduceLE, Int.reduceNeg, Int.reduceSub, eqD_str, eqD_int, neD_int, ofStr_eq, String.reduceEq, decide_false, decide_true, in_tupS, in_tints, flatD_str, flatD_int, List.all_cons, List.all_nil, List.any_cons, List.any_nil, eqF_str, Bool.and_true, Bool.and_self, Bool.or_false, Bool.or_true, Bool.true_or, Bool.false_or, Bool.false_eq_true, Bool.not_true, Bool.not_false, in_top, ixD_top, tupB_top, items_top, lenB_top, tru_bl, asgT_2, asgT_3, ↓w_pN, ↓w_pC, ↓w_Dct, ixD_tup, Int.cast_ofNat_Int, Int.reduceEq, ↓w_DGet2, ↓w_callV, ↓ws_laug, neD_str, ↓ws_forG2, lstB_tup, eqD_bl, neD_bl, isD_non, isD_ref, isD_tup, isD_int, isD_str, isD_bl, isNotD_non, isNotD_ref, isNotD_tup, isNotD_int, isNotD_str, isNotD_bl, isiT_tup, isiT_int, isiT_str, isiT_bl, isiT_non, ↓w_lcG2, ↓ws_forZ, ↓w_lcZ, asT_tup, addI_int, gtD_int, isi_tup_tuple, isi_tup_str, isi_tup_int, isi_tup_bool, isi_tup_list, isi_str_tuple, isi_str_str, isi_str_int, isi_str_bool, isi_str_list, isi_int_tuple, isi_int_str, isi_int_int, isi_int_bool, isi_int_list, isi_bl_tuple, isi_bl_str, isi_bl_int, isi_bl_bool, isi_bl_list, isi_non_tuple, isi_non_str, isi_non_int, isi_non_bool, isi_non_list])

/-! ### members of another form -/
def isI : D → Bool
  | .int _ => true
  | _ => false
def OkE : D → Prop
  | .int _ => True
  | .bl _ => True
  | .str _ => True
  | .non => True
  | .tup _ => True
  | _ => False
theorem all_bl {bs : List Bool} {s : S} : Mi.allB [.ref s.length] (s ++ [O.lst (bs.map D.bl)]) = some (.bl (bs.all id), s ++ [O.lst (bs.map D.bl)]) := all_ref top_get
theorem mem_bad {ds : List D} {s : S} {Q : D → S → Prop} (hl : ds.length ≤ 100) (hk : ∀ d ∈ ds, OkE d) (hb : ds.all isI = false) (k : ∀ s', Gr s s' → Q (.bl false) s') : WF (F_is_member [.tup ds] s) Q := by
  unfold F_is_member
  refine (wf_fn (by rfl)).mpr ?_
  unfold g_is_member
  walk_at "mi"
  refine cs_tup (fun i ys st => st = s ∧ ys = ((ds.take i).map isI).map D.bl) (by omega) ⟨rfl, rfl⟩ ?_ ?_
  · rintro i d ys st hi ⟨rfl, rfl⟩
    have hd := hk d (List.mem_of_getElem? hi)
    have e : ds.take (i + 1) = ds.take i ++ [d] := by rw [List.take_add_one, hi]; rfl
    rw [e, List.map_append, List.map_append]
    cases d <;> first | exact hd.elim | skip
    all_goals walk_at "mi"
    all_goals first | rfl | trivial | simp [isI]
  · rintro ys st ⟨rfl, rfl⟩
    rw [List.take_length, all_bl]
    have e : (ds.map isI).all id = false := by rw [List.all_map]; exact hb
    rw [e]
    walk_at "mi"
    exact k _ (Gr.app _ _)
theorem mem_ints {L : List Int} {s : S} {Q : D → S → Prop} (hl : L.length ≤ 100) (k : ∀ s', Gr s s' → Q (.bl ((L.all fun x => decide (0 ≤ x) && decide (x < 16)) && ((L.zip (L.drop 1)).all fun ab => decide (ab.1 < ab.2)))) s') : WF (F_is_member [.tup (L.map D.int)] s) Q := by
  unfold F_is_member
  refine (wf_fn (by rfl)).mpr ?_
  unfold g_is_member
  walk_at "mi"
  refine cs_true D.int okD_tup (by omega) (fun x hx => ?_) fun s1 hG1 h1 => ?_
  · walk_at "mi"
  rw [h1]
  walk_at "mi"
  refine cs_map (xs := L) D.int (fun x => some (D.bl (decide (0 ≤ x) && decide (x < 16)))) (fun st => st = s1) okD_tup (by omega) rfl ?_ ?_
  · rintro x st hx rfl _
    unfold dv_REGISTERS
    walk_at "mi"
    by_cases c : 0 ≤ x
    · rw [if_pos c, decide_eq_true c, Bool.true_and]
      first | exact ⟨okD_tup, rfl⟩ | exact ⟨okD_tup, trivial, rfl⟩ | simp [okD_tup]
    · rw [if_neg c, decide_eq_false c, Bool.false_and]
      first | exact ⟨okD_tup, rfl⟩ | exact ⟨okD_tup, trivial, rfl⟩ | simp [okD_tup]
  · rintro st rfl _
    rw [fm_all, all_bl, List.all_map]
    simp only [Function.comp_def, id]
    walk_at "mi"
    cases c1 : (L.all fun x => decide (0 ≤ x) && decide (x < 16)) with
    | false =>
      rw [c1, Bool.false_and] at k
      simp only [Bool.not_false, ↓reduceIte]
      exact k _ (hG1.trans (Gr.app _ _))
    | true =>
      rw [c1, Bool.true_and] at k
      simp only [Bool.not_true, Bool.false_eq_true, ↓reduceIte]
      rw [cut1, zipT_map]
      refine cs_map (xs := L.zip (L.drop 1)) (fun ab : Int × Int => D.tup [.int ab.1, .int ab.2]) (fun ab => some (D.bl (decide (ab.1 < ab.2)))) (fun st' => st' = st ++ [O.lst ((L.map fun x => decide (0 ≤ x) && decide (x < 16)).map D.bl)]) True.intro (by rw [List.length_zip]; omega) rfl ?_ ?_
      · rintro ab st' hab rfl _
        walk_at "mi"
        trivial
      · rintro st' rfl _
        rw [fm_all, all_bl, List.all_map]
        simp only [Function.comp_def, id]
        walk_at "mi"
        exact k _ (hG1.trans ((Gr.app _ _).trans (Gr.app _ _)))
theorem mem_notT {d : D} {s : S} {Q : D → S → Prop} (h : isiB [d, .ty "tuple"] s = some (.bl false, s)) (k : ∀ s', Gr s s' → Q (.bl false) s') : WF (F_is_member [d] s) Q := by
  unfold F_is_member
  refine (wf_fn (by rfl)).mpr ?_
  unfold g_is_member
  walk_at "mi"
  rw [h]
  walk_at "mi"
  exact k _ (Gr.refl _)
/-! the law's own look at a member -/
def goodE : D → Bool
  | .int x => decide (0 ≤ x) && decide (x ≤ 15)
  | _ => false
theorem lmem_notT {d : D} {s : S} {Q : D → S → Prop} (h : isiB [d, .ty "tuple"] s = some (.bl false, s)) (k : ∀ s', Gr s s' → Q (.bl false) s') : WF (F_law_is_member [d] s) Q := by
  unfold F_law_is_member
  refine (wf_fn (by rfl)).mpr ?_
  unfold g_law_is_member
  walk_at "mi"
  rw [h]
  walk_at "mi"
  exact k _ (Gr.refl _)
theorem lmem_loop {ds : List D} {s : S} {N : Mi.Env → S → Prop} {Q : D → S → Prop} {B C : Mi.Env → S → Prop} {x1 : Option D} (hk : ∀ d ∈ ds, OkE d) (k0 : ds.all goodE = false → Q (.bl false) s) (k1 : ds.all goodE = true → ∀ x1 : Option D, N [some (.tup ds), x1] s) :
    FS (.n 1) g_law_is_member_b1 (okD (.tup ds) ds) ds [some (.tup ds), x1] s N Q B C := by
  refine fs_tup (fun i env st => (∃ x1 : Option D, env = [some (.tup ds), x1]) ∧ st = s ∧ (ds.take i).all goodE = true) ⟨⟨_, rfl⟩, rfl, rfl⟩ ?_ ?_
  · rintro i d env st hi ⟨⟨x1, rfl⟩, rfl, hg⟩
    have hm := List.mem_of_getElem? hi
    have hd := hk d hm
    have e : ds.take (i + 1) = ds.take i ++ [d] := by rw [List.take_add_one, hi]; rfl
    have no : goodE d = false → ds.all goodE = false := fun z => by
      rw [Bool.eq_false_iff]
      intro q
      rw [List.all_eq_true] at q
      rw [q d hm] at z; cases z
    rw [e, List.all_append, hg]
    rw [asgT_n, wp_some]
    unfold g_law_is_member_b1
    cases d with
    | int x =>
      walk_at "mi"
      by_cases c1 : x < 0
      · simp only [c1, ↓reduceIte]
        exact k0 (no (by show (decide (0 ≤ x) && decide (x ≤ 15)) = false; rw [decide_eq_false (by omega), Bool.false_and]))
      · simp only [c1, ↓reduceIte]
        by_cases c2 : 15 < x
        · simp only [c2, ↓reduceIte]
          exact k0 (no (by show (decide (0 ≤ x) && decide (x ≤ 15)) = false; rw [decide_eq_false (by omega : ¬ x ≤ 15), Bool.and_false]))
        · simp only [c2, ↓reduceIte]
          refine ⟨⟨_, rfl⟩, ?_⟩
          show (true && (decide (0 ≤ x) && decide (x ≤ 15))) = true
          rw [decide_eq_true (by omega : 0 ≤ x), decide_eq_true (by omega : x ≤ 15)]; rfl
    | bl b => walk_at "mi"; exact k0 (no rfl)
    | str x => walk_at "mi"; exact k0 (no rfl)
    | non => walk_at "mi"; exact k0 (no rfl)
    | tup es => walk_at "mi"; exact k0 (no rfl)
    | _ => exact hd.elim
  · rintro env st ⟨⟨x1, rfl⟩, rfl, hg⟩
    rw [List.take_length] at hg
    exact k1 hg _
theorem lmem_ok {ds : List D} {s : S} {Q : D → S → Prop} (hk : ∀ d ∈ ds, OkE d) (k0 : ds.all goodE = false → ∀ s', Gr s s' → Q (.bl false) s')
    (k1 : ∀ L : List Int, ds = L.map D.int → ∀ s', Gr s s' → Q (.bl (decide (L = sortI L) && decide ((cmf fun x => decide (x ∈ L)).length = L.length))) s') (hn : ds.all goodE = true → ∃ L : List Int, ds = L.map D.int) : WF (F_law_is_member [.tup ds] s) Q := by
  unfold F_law_is_member
  refine (wf_fn (by rfl)).mpr ?_
  unfold g_law_is_member
  walk_at "mi"
  refine lmem_loop hk (fun z => k0 z s (Gr.refl s)) fun z x1 => ?_
  obtain ⟨L, rfl⟩ := hn z
  have k1 := k1 L rfl
  walk_at "mi"
  rw [sort_tints]
  walk_at "mi"
  have e1 : eqD (.ref s.length) (.ref (s ++ [O.lst (L.map D.int)]).length) (s ++ [O.lst (L.map D.int)] ++ [O.lst ((sortI L).map D.int)]) = some (.bl (decide (L = sortI L)), s ++ [O.lst (L.map D.int)] ++ [O.lst ((sortI L).map D.int)]) := by
    unfold eqD
    rw [eqB_ints (old_get top_get) top_get]
  rw [e1]
  walk_at "mi"
  by_cases c1 : L = sortI L
  · have k1 : ∀ s', Gr s s' → Q (.bl (decide ((cmf fun x => decide (x ∈ L)).length = L.length))) s' := fun s' hG => by
      have := k1 s' hG
      rwa [decide_eq_true c1, Bool.true_and] at this
    rw [if_pos c1]
    refine cs16 (fun x => decide (x ∈ L)) (fun x hx => ?_) (fun x => rfl) fun s' hG h => ?_
    · walk_at "mi"
    · rw [lenB_ref h]
      walk_at "mi"
      have hz := k1 s' ((Gr.app _ _).trans ((Gr.app _ _).trans hG))
      have e : decide ((((cmf fun x => decide (x ∈ L)).length : Nat) : Int) = (L.length : Nat)) = decide ((cmf fun x => decide (x ∈ L)).length = L.length) := by
        by_cases c : (cmf fun x => decide (x ∈ L)).length = L.length
        · rw [decide_eq_true c, decide_eq_true (by omega)]
        · rw [decide_eq_false c, decide_eq_false (by omega)]
      rw [← e] at hz
      exact hz
  · rw [if_neg c1]
    have := k1 (s ++ [O.lst (L.map D.int)] ++ [O.lst ((sortI L).map D.int)]) ((Gr.app _ _).trans (Gr.app _ _))
    rwa [decide_eq_false c1, Bool.false_and] at this
end My

set_option Elab.async false
set_option linter.all false
set_option maxRecDepth 100000
set_option maxHeartbeats 4000000
namespace My
open PySem PySem.Spec PyProof.Rows L2 Mi
local macro_rules | `(tactic| walk_at "mi") => `(tactic| try simp only [↓w_vr, ↓w_cn, ↓w_e2, ↓w_tup, ↓w_lst, ↓w_aN, ↓w_aC, ↓w_call, ↓w_B, ↓w_M, ↓w_oN, ↓w_oS, ↓w_sl, ↓w_B1, ↓w_Tl, ↓w_An, ↓w_Or, ↓w_No, ↓w_eAn, ↓w_eO, ↓w_eNo, ↓w_eNeg, ↓w_eIf, ↓w_ch, ↓w_Dn, ↓w_lRg1, ↓w_trg1, ↓w_yes, ↓ws_forS, ↓ws_forG, ↓w_lcS, ↓w_lcG, ↓w_dcS, ↓w_dcG, items_tup, items_rol, ↓ws_seq, ↓ws_skip, ↓ws_set, ↓ws_ex, ↓ws_ret, ↓ws_retN, ↓ws_bk, ↓ws_ct, ↓ws_if, ↓ws_asg, ↓ws_dput, ↓ws_daug, ↓ws_lput, ↓ws_aug, ↓wp_some, ↓wp_none, ↓wp_if, ↓wp_map, ↓wf_ok, ↓asI_int, ↓asBl_bl,
  List.getElem?_cons_zero, List.getElem?_cons_succ, List.set_cons_zero, List.set_cons_succ, opI_int, addD_int, mulD_int, intB_int, intB_bl, absB_int, lenB_rol, lenB_tup, ixD_rol, ixD_tup, atI0, atI1, atI2, atI3, atI4, asgT_n, tyQ, appQ, slQ, slD_tup, wipeE, List.length_cons, List.length_nil, List.length_map, true_and, and_true, decide_true, ↓reduceIte, bl_t, List.map_cons, List.map_nil, List.cons_append, List.nil_append, List.replicate_succ, List.replicate_zero, Nat.reduceAdd, Nat.reduceLeDiff, Int.reduceLT, Int.reduceLE, Int.reduceNeg, Int.reduceSub, eqD_str, eqD_int, neD_int, ofStr_eq, String.reduceEq, decide_false, decide_true, in_tupS, in_tints, flatD_str, flatD_int, List.all_cons, List.all_nil, List.any_cons, List.any_nil, eqF_str, Bool.and_true, Bool.and_self, Bool.or_false, Bool.or_true, Bool.true_or, Bool.false_or, Bool.false_eq_true, Bool.not_true, Bool.not_false, in_top, ixD_top, tupB_top, items_top, lenB_top, tru_bl, asgT_2, asgT_3, ↓w_pN, ↓w_pC, ↓w_Dct, ixD_tup, Int.cast_ofNat_Int, Int.reduceEq, ↓w_DGet2, ↓w_callV, ↓ws_laug, neD_str, ↓ws_forG2, lstB_tup, eqD_bl, neD_bl, isD_non, isD_ref, isD_tup, isD_int, isD_str, isD_bl, isNotD_non, isNotD_ref, isNotD_tup, isNotD_int, isNotD_str, isNotD_bl, isiT_tup, isiT_int, isiT_str, isiT_bl, isiT_non, ↓w_lcG2, ↓ws_forZ, ↓w_lcZ, asT_tup, addI_int, gtD_int, isi_tup_tuple, isi_tup_str, isi_tup_int, isi_tup_bool, isi_tup_list, isi_str_tuple, isi_str_str, isi_str_int, isi_str_bool, isi_str_list, isi_int_tuple, isi_int_str, isi_int_int, isi_int_bool, isi_int_list, isi_bl_tuple, isi_bl_str, isi_bl_int, isi_bl_bool, isi_bl_list, isi_non_tuple, isi_non_str, isi_non_int, isi_non_bool, isi_non_list])

def okE : D → Bool
  | .int _ => true
  | .bl _ => true
  | .str _ => true
  | .non => true
  | .tup _ => true
  | _ => false
theorem okE_of {ds : List D} (h : ds.all okE = true) : ∀ d ∈ ds, OkE d := fun d hd => by
  rw [List.all_eq_true] at h
  have := h d hd
  cases d <;> first | exact True.intro | cases this
theorem lmem_bad {ds : List D} {s : S} {Q : D → S → Prop} (hk : ∀ d ∈ ds, OkE d) (hb : ds.all goodE = false) (k : ∀ s', Gr s s' → Q (.bl false) s') : WF (F_law_is_member [.tup ds] s) Q := by
  unfold F_law_is_member
  refine (wf_fn (by rfl)).mpr ?_
  unfold g_law_is_member
  walk_at "mi"
  exact lmem_loop hk (fun z => k s (Gr.refl s)) fun z => by rw [hb] at z; cases z
theorem int_inj {L M : List Int} (h : L.map D.int = M.map D.int) : L = M := by
  have e := congrArg (fun ds => ds.filterMap fun d => match d with | D.int x => some x | _ => none) h
  have id : ∀ N : List Int, ((N.map D.int).filterMap fun d => match d with | D.int x => some x | _ => none) = N := fun N => by
    induction N with
    | nil => rfl
    | cons a N ih => rw [List.map_cons, List.filterMap_cons]; dsimp only; rw [ih]
  exact (id L).symm.trans (e.trans (id M))
theorem okE_ints (L : List Int) : ∀ d ∈ L.map D.int, OkE d := fun d hd => by obtain ⟨x, _, rfl⟩ := List.mem_map.mp hd; exact True.intro
theorem lmem_ints {L : List Int} {s : S} {Q : D → S → Prop} (hg : (L.map D.int).all goodE = true) {b : Bool} (hb : (decide (L = sortI L) && decide ((cmf fun x => decide (x ∈ L)).length = L.length)) = b) (k : ∀ s', Gr s s' → Q (.bl b) s') : WF (F_law_is_member [.tup (L.map D.int)] s) Q :=
  lmem_ok (okE_ints L) (fun z => by rw [hg] at z; cases z) (fun M e s' hG => by rw [← int_inj e, hb]; exact k s' hG) fun _ => ⟨L, rfl⟩
theorem can_sort {L : List Int} (h : Can L) : L = sortI L := sort_uniq (List.Perm.refl _) (h.sorted.imp fun h => by omega)
theorem can_good {L : List Int} (h : Can L) : (L.map D.int).all goodE = true := by
  rw [List.all_eq_true]
  intro d hd
  obtain ⟨x, hx, rfl⟩ := List.mem_map.mp hd
  have := h.mem hx
  show (decide (0 ≤ x) && decide (x ≤ 15)) = true
  rw [decide_eq_true this.1, decide_eq_true (by have := this.2; omega)]; rfl
theorem lmem_can {L : List Int} {s : S} {Q : D → S → Prop} (h : Can L) (k : ∀ s', Gr s s' → Q (.bl true) s') : WF (F_law_is_member [.tup (L.map D.int)] s) Q :=
  lmem_ints (can_good h) (by rw [decide_eq_true (can_sort h), ← h, decide_eq_true rfl]; rfl) k
theorem sortI_le (L : List Int) : (sortI L).Pairwise (· ≤ ·) := by
  have := List.pairwise_mergeSort (le := fun a b : Int => decide (a ≤ b)) (by intro a b c; simp only [decide_eq_true_eq]; omega) (by intro a b; simp only [Bool.or_eq_true, decide_eq_true_eq]; omega) L
  exact this.imp fun h => of_decide_eq_true h
theorem un_sort {L : List Int} (h : ¬ L.Pairwise (· ≤ ·)) {b : Bool} : (decide (L = sortI L) && b) = false := by
  have : ¬ L = sortI L := fun z => h (by rw [z]; exact sortI_le L)
  rw [decide_eq_false this, Bool.false_and]
theorem un_len {L : List Int} {a : Bool} (h : (cmf fun x => decide (x ∈ L)).length ≠ L.length) : (a && decide ((cmf fun x => decide (x ∈ L)).length = L.length)) = false := by
  rw [decide_eq_false h, Bool.and_false]
def BadL : List D := [.non, .tup [.int 1, .int 1], .tup [.int 2, .int 1], .tup [.int 16], .tup [.int (-1)], .tup [.bl true], .str "1", .tup [.str "1"], .tup [.tup []], .tup [.int 0, .bl true], .tup [.int 0, .int 16], .tup [.int 0, .int 2, .int 1], .tup [.int 0, .int 1, .int 1],
  .tup [.int 1, .str "1"], .tup [.str "1", .int 2], .tup [.non, .int 0], .tup [.int 0, .non], .tup [.tup [], .int 1], .tup [.int 0, .tup [.int 1]], .tup [.bl false, .int 1], .tup [.int 1, .int (-1)]]
structure BadD (d : D) : Prop where
  m1 : ∀ (s : S) (Q : D → S → Prop), (∀ s', Gr s s' → Q (.bl false) s') → WF (F_is_member [d] s) Q
  m2 : ∀ (s : S) (Q : D → S → Prop), (∀ s', Gr s s' → Q (.bl false) s') → WF (F_law_is_member [d] s) Q
  tp : ∃ pd : PyData, (∀ s : S, toP 59 s d = some pd) ∧ pd.canLay0 = true ∧ pd.depth ≤ 2
theorem bad_non : BadD .non := ⟨fun s Q k => mem_notT (by kernel_rfl) k, fun s Q k => lmem_notT (by kernel_rfl) k, ⟨_, fun s => rfl, rfl, by decide⟩⟩
theorem bad_str (x : Str) (h : PyData.strOk x = true) : BadD (.str x) := ⟨fun s Q k => mem_notT (by kernel_rfl) k, fun s Q k => lmem_notT (by kernel_rfl) k, ⟨_, fun s => rfl, h, Nat.zero_le _⟩⟩
theorem bad_tup {ds : List D} (h1 : ds.length ≤ 100) (h2 : ds.all okE = true) (h3 : ds.all isI = false) (h4 : ds.all goodE = false) (tp : ∃ pd : PyData, (∀ s : S, toP 59 s (.tup ds) = some pd) ∧ pd.canLay0 = true ∧ pd.depth ≤ 2) : BadD (.tup ds) :=
  ⟨fun s Q k => mem_bad h1 (okE_of h2) h3 k, fun s Q k => lmem_bad (okE_of h2) h4 k, tp⟩
theorem tp_ints (L : List Int) : ∃ pd : PyData, (∀ s : S, toP 59 s (.tup (L.map D.int)) = some pd) ∧ pd.canLay0 = true ∧ pd.depth ≤ 2 := by
  refine ⟨.tuple (L.map PyData.int), fun s => ?_, ?_, ?_⟩
  · show ((L.map D.int).mapM (toP 58 s)).map PyData.tuple = _
    rw [mapM_map (toP 58 s) D.int PyData.int (fun _ => rfl) L]; rfl
  · show PyData.canLayAll0 _ = true
    exact canAll (sh_ints L)
  · have := depAll (sh_ints L)
    show PyData.depthAll _ + 1 ≤ 2
    omega
theorem bad_out {L : List Int} (h1 : L.length ≤ 100) (h3 : ((L.all fun x => decide (0 ≤ x) && decide (x < 16)) && ((L.zip (L.drop 1)).all fun ab => decide (ab.1 < ab.2))) = false) (h4 : (L.map D.int).all goodE = false) : BadD (.tup (L.map D.int)) :=
  ⟨fun s Q k => mem_ints h1 (by rw [h3]; exact k), fun s Q k => lmem_bad (okE_ints L) h4 k, tp_ints L⟩
theorem bad_in {L : List Int} (h1 : L.length ≤ 100) (h3 : ((L.all fun x => decide (0 ≤ x) && decide (x < 16)) && ((L.zip (L.drop 1)).all fun ab => decide (ab.1 < ab.2))) = false) (h4 : (L.map D.int).all goodE = true) (h5 : (decide (L = sortI L) && decide ((cmf fun x => decide (x ∈ L)).length = L.length)) = false) : BadD (.tup (L.map D.int)) :=
  ⟨fun s Q k => mem_ints h1 (by rw [h3]; exact k), fun s Q k => lmem_ints h4 h5 k, tp_ints L⟩
theorem bad_ok : ∀ d ∈ BadL, BadD d := by
  intro d hd
  unfold BadL at hd
  simp only [List.mem_cons, List.not_mem_nil, or_false] at hd
  rcases hd with rfl | rfl | rfl | rfl | rfl | rfl | rfl | rfl | rfl | rfl | rfl | rfl | rfl | rfl | rfl | rfl | rfl | rfl | rfl | rfl | rfl
  · exact bad_non
  · exact bad_in (L := [1, 1]) (by decide) (by decide) (by decide) (un_len (by decide))
  · exact bad_in (L := [2, 1]) (by decide) (by decide) (by decide) (un_sort (by decide))
  · exact bad_out (L := [16]) (by decide) (by decide) (by decide)
  · exact bad_out (L := [-1]) (by decide) (by decide) (by decide)
  · exact bad_tup (by decide) rfl rfl rfl ⟨_, fun s => rfl, by kernel_rfl, by first | decide | exact Nat.le_refl _ | exact Nat.le_succ _⟩
  · exact bad_str _ (by decide +kernel)
  · exact bad_tup (by decide) rfl rfl rfl ⟨_, fun s => rfl, by kernel_rfl, by first | decide | exact Nat.le_refl _ | exact Nat.le_succ _⟩
  · exact bad_tup (by decide) rfl rfl rfl ⟨_, fun s => rfl, by kernel_rfl, by first | decide | exact Nat.le_refl _ | exact Nat.le_succ _⟩
  · exact bad_tup (by decide) rfl rfl rfl ⟨_, fun s => rfl, by kernel_rfl, by first | decide | exact Nat.le_refl _ | exact Nat.le_succ _⟩
  · exact bad_out (L := [0, 16]) (by decide) (by decide) (by decide)
  · exact bad_in (L := [0, 2, 1]) (by decide) (by decide) (by decide) (un_sort (by decide))
  · exact bad_in (L := [0, 1, 1]) (by decide) (by decide) (by decide) (un_len (by decide))
  · exact bad_tup (by decide) rfl rfl rfl ⟨_, fun s => rfl, by kernel_rfl, by first | decide | exact Nat.le_refl _ | exact Nat.le_succ _⟩
  · exact bad_tup (by decide) rfl rfl rfl ⟨_, fun s => rfl, by kernel_rfl, by first | decide | exact Nat.le_refl _ | exact Nat.le_succ _⟩
  · exact bad_tup (by decide) rfl rfl rfl ⟨_, fun s => rfl, by kernel_rfl, by first | decide | exact Nat.le_refl _ | exact Nat.le_succ _⟩
  · exact bad_tup (by decide) rfl rfl rfl ⟨_, fun s => rfl, by kernel_rfl, by first | decide | exact Nat.le_refl _ | exact Nat.le_succ _⟩
  · exact bad_tup (by decide) rfl rfl rfl ⟨_, fun s => rfl, by kernel_rfl, by first | decide | exact Nat.le_refl _ | exact Nat.le_succ _⟩
  · exact bad_tup (by decide) rfl rfl rfl ⟨_, fun s => rfl, by kernel_rfl, by first | decide | exact Nat.le_refl _ | exact Nat.le_succ _⟩
  · exact bad_tup (by decide) rfl rfl rfl ⟨_, fun s => rfl, by kernel_rfl, by first | decide | exact Nat.le_refl _ | exact Nat.le_succ _⟩
  · exact bad_out (L := [1, -1]) (by decide) (by decide) (by decide)
end My

set_option Elab.async false
set_option linter.all false
set_option maxRecDepth 100000
set_option maxHeartbeats 4000000
namespace My
open PySem PySem.Spec PyProof.Rows L2 Mi
local macro_rules | `(tactic| walk_at "mi") => `(tactic| try simp only [↓w_vr, ↓w_cn, ↓w_e2, ↓w_tup, ↓w_lst, ↓w_aN, ↓w_aC, ↓w_call, ↓w_B, ↓w_M, ↓w_oN, ↓w_oS, ↓w_sl, ↓w_B1, ↓w_Tl, ↓w_An, ↓w_Or, ↓w_No, ↓w_eAn, ↓w_eO, ↓w_eNo, ↓w_eNeg, ↓w_eIf, ↓w_ch, ↓w_Dn, ↓w_lRg1, ↓w_trg1, ↓w_yes, ↓ws_forS, ↓ws_forG, ↓w_lcS, ↓w_lcG, ↓w_dcS, ↓w_dcG, items_tup, items_rol, ↓ws_seq, ↓ws_skip, ↓ws_set, ↓ws_ex, ↓ws_ret, ↓ws_retN, ↓ws_bk, ↓ws_ct, ↓ws_if, ↓ws_asg, ↓ws_dput, ↓ws_daug, ↓ws_lput, ↓ws_aug, ↓wp_some, ↓wp_none, ↓wp_if, ↓wp_map, ↓wf_ok, ↓asI_int, ↓asBl_bl,
  List.getElem?_cons_zero, List.getElem?_cons_succ, List.set_cons_zero, List.set_cons_succ, opI_int, addD_int, mulD_int, intB_int, intB_bl, absB_int, lenB_rol, lenB_tup, ixD_rol, ixD_tup, atI0, atI1, atI2, atI3, atI4, asgT_n, tyQ, appQ, slQ, slD_tup, wipeE, List.length_cons, List.length_nil, List.length_map, true_and, and_true, decide_true, ↓reduceIte, bl_t, List.map_cons, List.map_nil, List.cons_append, List.nil_append, List.replicate_succ, List.replicate_zero, Nat.reduceAdd, Nat.reduceLeDiff, Int.reduceLT, Int.reduceLE, Int.reduceNeg, Int.reduceSub, eqD_str, eqD_int, neD_int, ofStr_eq, String.reduceEq, decide_false, decide_true, in_tupS, in_tints, flatD_str, flatD_int, List.all_cons, List.all_nil, List.any_cons, List.any_nil, eqF_str, Bool.and_true, Bool.and_self, Bool.or_false, Bool.or_true, Bool.true_or, Bool.false_or, Bool.false_eq_true, Bool.not_true, Bool.not_false, in_top, ixD_top, tupB_top, items_top, lenB_top, tru_bl, asgT_2, asgT_3, ↓w_pN, ↓w_pC, ↓w_Dct, ixD_tup, Int.cast_ofNat_Int, Int.reduceEq, ↓w_DGet2, ↓w_callV, ↓ws_laug, neD_str, ↓ws_forG2, lstB_tup, eqD_bl, neD_bl, isD_non, isD_ref, isD_tup, isD_int, isD_str, isD_bl, isNotD_non, isNotD_ref, isNotD_tup, isNotD_int, isNotD_str, isNotD_bl, isiT_tup, isiT_int, isiT_str, isiT_bl, isiT_non, ↓w_lcG2, ↓ws_forZ, ↓w_lcZ, asT_tup, addI_int, gtD_int, isi_tup_tuple, isi_tup_str, isi_tup_int, isi_tup_bool, isi_tup_list, isi_str_tuple, isi_str_str, isi_str_int, isi_str_bool, isi_str_list, isi_int_tuple, isi_int_str, isi_int_int, isi_int_bool, isi_int_list, isi_bl_tuple, isi_bl_str, isi_bl_int, isi_bl_bool, isi_bl_list, isi_non_tuple, isi_non_str, isi_non_int, isi_non_bool, isi_non_list])

/-! ### papers of another form -/
def MemD (d : D) : Prop := ∃ L : List Int, Can L ∧ d = .tup (L.map D.int)
theorem holds_bad {c : MC} {ms : List D} {s : S} {R : D → S → Prop} (hl : ms.length = c.rows.length) (n2 : c.rows.length ≤ 3000) (hm : ∀ d ∈ ms, MemD d ∨ d ∈ BadL) (hb : ∃ d ∈ ms, d ∈ BadL) (k : ∀ s', Gr s s' → R (.bl false) s') : WF (F_holds [c.enc, .tup ms] s) R := by
  unfold F_holds
  refine (wf_fn (by rfl)).mpr ?_
  unfold g_holds
  walk_at "mi"
  rw [code_ix1]
  walk_at "mi"
  simp only [hl, neD_int, decide_true, Bool.not_true, ↓reduceIte]
  walk_at "mi"
  refine cs_inv (fun i ys st => Gr s st ∧ ∃ bs : List Bool, ys = bs.map D.bl ∧ ∀ d ∈ ms.take i, d ∈ BadL → false ∈ bs) okD_tup (by omega) ⟨Gr.refl s, [], rfl, fun d h => by simp at h⟩ ?_ ?_
  · rintro i d ys st hi ⟨hG, bs, rfl, hbs⟩ _
    have e : ms.take (i + 1) = ms.take i ++ [d] := by rw [List.take_add_one, hi]; rfl
    rw [e]
    walk_at "mi"
    by_cases cd : d ∈ BadL
    · refine (bad_ok d cd).m1 _ _ fun s' hG' => ?_
      exact ⟨okD_tup, hG.trans hG', bs ++ [false], by rw [List.map_append]; rfl, fun _ _ _ => List.mem_append_right _ List.mem_cons_self⟩
    · rcases hm d (List.mem_of_getElem? hi) with ⟨L, hL, rfl⟩ | z
      · refine is_member_ok hL fun s' hG' => ?_
        refine ⟨okD_tup, hG.trans hG', bs ++ [true], by rw [List.map_append]; rfl, fun d' hd' hb' => List.mem_append_left _ ?_⟩
        rcases List.mem_append.mp hd' with z | z
        · exact hbs d' z hb'
        · rw [List.mem_singleton.mp z] at hb'; exact absurd hb' cd
      · exact absurd z cd
  · rintro ys st ⟨hG, bs, rfl, hbs⟩ _
    rw [List.take_length] at hbs
    obtain ⟨d, hd, hd'⟩ := hb
    have hf := hbs d hd hd'
    have e : bs.all id = false := by
      rw [Bool.eq_false_iff]
      intro z
      rw [List.all_eq_true] at z
      exact nomatch z false hf
    rw [all_bl, e]
    walk_at "mi"
    exact k _ (hG.trans (Gr.app _ _))
theorem neD_bad {p q : Nat} {ys : List D} {s : S} (h : s[p]? = some (.lst ys)) (h' : s[q]? = some (.lst [])) (hb : ∀ y ∈ ys, y ∈ BadL) (hn : ys ≠ []) : neD (.ref p) (.ref q) s = some (.bl true, s) := by
  have e := mapM_on (toP 59 s) (fun d : D => d) (fun d => (toP 59 s d).getD .none) ys (fun d hd => by
    obtain ⟨pd, h1, _⟩ := (bad_ok d (hb d hd)).tp
    rw [h1 s]; rfl)
  rw [List.map_id'] at e
  have sa : shAll 2 (ys.map fun d => (toP 59 s d).getD .none) := fun p hp => by
    obtain ⟨d, hd, rfl⟩ := List.mem_map.mp hp
    obtain ⟨pd, h1, h2, h3⟩ := (bad_ok d (hb d hd)).tp
    rw [h1 s]; exact ⟨h2, h3⟩
  unfold neD
  rw [eqB_lst (bs := []) (pb := []) h h' e rfl sa (fun _ z => by cases z) (by omega), eqv_nil]
  cases ys with
  | nil => exact absurd rfl hn
  | cons y ys => rfl
theorem neD_nn {p q : Nat} {s : S} (h : s[p]? = some (.lst [])) (h' : s[q]? = some (.lst [])) : neD (.ref p) (.ref q) s = some (.bl false, s) := by
  have := neD_ints (as := []) (bs := []) h h'
  rw [this]; rfl
theorem neD_nil {p q : Nat} {L : List Int} {s : S} (h : s[p]? = some (.lst (L.map D.int))) (h' : s[q]? = some (.lst [])) : neD (.ref p) (.ref q) s = some (.bl (!decide (L = [])), s) := neD_ints (bs := []) h h'
theorem lholds_bad {c : MC} {ms : List D} {s : S} {R : D → S → Prop} (hl : ms.length = c.rows.length) (n2 : c.rows.length ≤ 3000) (hm : ∀ d ∈ ms, MemD d ∨ d ∈ BadL) (hb : ∃ d ∈ ms, d ∈ BadL) (k : ∀ s', Gr s s' → R (.bl false) s') : WF (F_law_holds [c.enc, .tup ms] s) R := by
  unfold F_law_holds
  refine (wf_fn (by rfl)).mpr ?_
  unfold g_law_holds
  walk_at "mi"
  rw [code_ix1]
  walk_at "mi"
  simp only [hl, neD_int, decide_true, Bool.not_true, ↓reduceIte]
  walk_at "mi"
  refine cs_inv (fun i ys st => Gr s st ∧ (∀ y ∈ ys, y ∈ BadL) ∧ ∀ d ∈ ms.take i, d ∈ BadL → ys ≠ []) okD_tup (by omega) ⟨Gr.refl s, fun y h => (nomatch h), fun d h => by simp at h⟩ ?_ ?_
  · rintro i d ys st hi ⟨hG, hy, hbs⟩ _
    have e : ms.take (i + 1) = ms.take i ++ [d] := by rw [List.take_add_one, hi]; rfl
    rw [e]
    walk_at "mi"
    by_cases cd : d ∈ BadL
    · refine (bad_ok d cd).m2 _ _ fun s' hG' => ?_
      walk_at "mi"
      refine ⟨okD_tup, hG.trans hG', fun y h => ?_, fun _ _ _ => by simp⟩
      rcases List.mem_append.mp h with z | z
      · exact hy y z
      · rw [List.mem_singleton.mp z]; exact cd
    · rcases hm d (List.mem_of_getElem? hi) with ⟨L, hL, rfl⟩ | z
      · refine lmem_can hL fun s' hG' => ?_
        walk_at "mi"
        refine ⟨okD_tup, hG.trans hG', hy, fun d' hd' hb' => ?_⟩
        rcases List.mem_append.mp hd' with z | z
        · exact hbs d' z hb'
        · rw [List.mem_singleton.mp z] at hb'; exact absurd hb' cd
      · exact absurd z cd
  · rintro ys st ⟨hG, hy, hbs⟩ _
    rw [List.take_length] at hbs
    obtain ⟨d, hd, hd'⟩ := hb
    walk_at "mi"
    rw [neD_bad (old_get top_get) top_get hy (hbs d hd hd')]
    walk_at "mi"
    exact k _ (hG.trans ((Gr.app _ _).trans (Gr.app _ _)))
theorem lholds_short {c : MC} {ds : List D} {s : S} {R : D → S → Prop} (hn : ds.length ≠ c.rows.length) (k : ∀ s', Gr s s' → R (.bl false) s') : WF (F_law_holds [c.enc, .tup ds] s) R := by
  unfold F_law_holds
  refine (wf_fn (by rfl)).mpr ?_
  unfold g_law_holds
  walk_at "mi"
  rw [code_ix1]
  walk_at "mi"
  have e : decide ((ds.length : Int) = (c.rows.length : Int)) = false := decide_eq_false (by omega)
  simp only [neD_int, e, Bool.not_false, ↓reduceIte]
  exact k _ (Gr.refl _)
theorem lholds_ok {c : MC} {P : Pa} {s : S} {Q : D → S → Prop} (ok : c.Ok) (hP : PaOk c P) (k : ∀ s' b, Gr s s' → (b = true ↔ HoldsP c P) → Q (.bl b) s') : WF (F_law_holds [c.enc, tupP P] s) Q := by
  unfold F_law_holds tupP
  refine (wf_fn (by rfl)).mpr ?_
  unfold g_law_holds
  have hn := hP.len
  have n2 := ok.n2
  walk_at "mi"
  rw [code_ix1]
  walk_at "mi"
  simp only [hn, neD_int, decide_true, Bool.not_true, ↓reduceIte]
  walk_at "mi"
  refine cs_inv (fun i ys st => Gr s st ∧ ys = []) okD_tup (by rw [List.length_map]; omega) ⟨Gr.refl s, rfl⟩ ?_ ?_
  · rintro i d ys st hi ⟨hG, rfl⟩ _
    rw [List.getElem?_map] at hi
    cases hL : P[i]? with
    | none => rw [hL] at hi; cases hi
    | some L =>
      rw [hL] at hi; cases hi
      walk_at "mi"
      refine lmem_can (hP.can L (List.mem_of_getElem? hL)) fun s' hG' => ?_
      walk_at "mi"
      exact ⟨okD_tup, hG.trans hG'⟩
  rintro ys st ⟨hG, rfl⟩ _
  walk_at "mi"
  rw [neD_nn (old_get top_get) top_get]
  walk_at "mi"
  refine ⟨by omega, ?_⟩
  rw [Int.toNat_natCast]
  have hG0 := hG.trans ((Gr.app st [O.lst []]).trans (Gr.app _ [O.lst []]))
  generalize (st ++ [O.lst []] ++ [O.lst []]) = st0 at hG0
  refine fs_rng (fun i env st1 => (∃ x2 x3 x4 x5 x6 : Option D, env = [some c.enc, some (.tup (P.map fun L => .tup (L.map D.int))), x2, x3, x4, x5, x6]) ∧ Gr s st1 ∧ ∀ (r : Nat) (m : MR), r < i → c.rows[r]? = some m → Closed1 c P r m) ⟨⟨_, _, _, _, _, rfl⟩, hG0, fun r m z => absurd z (Nat.not_lt_zero r)⟩ ?_ ?_
  · rintro i env st1 hi ⟨⟨x2, x3, x4, x5, x6, rfl⟩, hG1, hc⟩
    rw [asgT_n, wp_some]
    unfold g_law_holds_b2
    walk_at "mi"
    obtain ⟨m, hm⟩ : ∃ m, c.rows[i]? = some m := ⟨_, List.getElem?_eq_some_iff.mpr ⟨by omega, rfl⟩⟩
    have ho := ok.row i m hm
    rw [atP (by omega)]
    walk_at "mi"
    refine law_behind_ok ok.g1 hm ho (hP.pat i) rfl fun qb st2 hG2 hqb hb => ?_
    walk_at "mi"
    refine law_ways_ok hm fun qw st3 hG3 hqw hw => ?_
    walk_at "mi"
    rw [items_ref hw]
    walk_at "mi"
    have hb3 := hG3.get hb
    refine fs_inv (fun j env st4 => (∃ x5 x6 : Option D, env = [some c.enc, some (.tup (P.map fun L => .tup (L.map D.int))), x2, some (.int (i : Int)), some (.ref qb), x5, x6]) ∧ Gr s st4 ∧ Gr st3 st4 ∧ ∀ t ∈ (nextR i m).take j, ∀ x ∈ pat P t.toNat, x ∈ behR c m (pat P i)) (okD_ref.mpr hw) ⟨⟨_, _, rfl⟩, hG1.trans (hG2.trans hG3), Gr.refl _, fun t ht => by simp at ht⟩ ?_ ?_
    · rintro j d env st4 hj ⟨⟨x5, x6, rfl⟩, hG4, hG34, hc4⟩ hok
      rw [List.getElem?_map] at hj
      cases ht : (nextR i m)[j]? with
      | none => rw [ht] at hj; cases hj
      | some t =>
        rw [ht] at hj; cases hj
        have t0 := nextR_ok ho t (List.mem_of_getElem? ht)
        rw [asgT_n, wp_some]
        unfold g_law_holds_b1
        walk_at "mi"
        rw [atPz t0.1 (by omega)]
        walk_at "mi"
        have hl := (hP.pat t.toNat).len
        refine cs_in (neg := true) okD_tup (by omega) (fun x => rfl) (fun x => rfl) (items_ref (hG34.get hb3)) ?_
        walk_at "mi"
        rw [neD_nil (old_get top_get) top_get]
        walk_at "mi"
        have hG5 : Gr st4 (st4 ++ [O.lst (((pat P t.toNat).filter fun x => !decide (x ∈ behR c m (pat P i))).map D.int)] ++ [O.lst []]) := (Gr.app _ _).trans (Gr.app _ _)
        by_cases ca : ∀ x ∈ pat P t.toNat, x ∈ behR c m (pat P i)
        · have e2 : ((pat P t.toNat).filter fun x => !decide (x ∈ behR c m (pat P i))) = [] := by
            rw [List.filter_eq_nil_iff]; intro x hx; simp [ca x hx]
          simp only [e2, decide_true, Bool.not_true, Bool.false_eq_true, ↓reduceIte]
          rw [e2] at hG5
          refine ⟨okD_ref.mpr (hG5.get (okD_ref.mp hok)), ⟨_, _, rfl⟩, hG4.trans hG5, hG34.trans hG5, fun t' ht' => ?_⟩
          rw [List.take_add_one, ht, Option.toList_some] at ht'
          rcases List.mem_append.mp ht' with z | z
          · exact hc4 t' z
          · rw [List.mem_singleton.mp z]; exact ca
        · have e2 : ((pat P t.toNat).filter fun x => !decide (x ∈ behR c m (pat P i))) ≠ [] := by
            intro z
            rw [List.filter_eq_nil_iff] at z
            exact ca fun x hx => by have := z x hx; simpa using this
          simp only [e2, decide_false, Bool.not_false, ↓reduceIte]
          exact k _ false (hG4.trans hG5) ⟨fun z => (nomatch z), fun z => absurd (z i m hm t (List.mem_of_getElem? ht)) ca⟩
    · rintro env st4 ⟨⟨x5, x6, rfl⟩, hG4, hG34, hc4⟩ hok
      rw [List.length_map, List.take_length] at hc4
      refine ⟨⟨_, _, _, _, _, rfl⟩, hG4, fun r m' hr hm' => ?_⟩
      by_cases c1 : r = i
      · subst c1
        rw [hm] at hm'; cases hm'
        exact hc4
      · exact hc r m' (by omega) hm'
  · rintro env st1 ⟨⟨x2, x3, x4, x5, x6, rfl⟩, hG1, hc⟩
    walk_at "mi"
    exact k _ true hG1 ⟨fun _ r m hm => hc r m (List.getElem?_eq_some_iff.mp hm).1 hm, fun _ => rfl⟩
end My

set_option Elab.async false
set_option linter.all false
set_option maxRecDepth 100000
set_option maxHeartbeats 4000000
namespace My
open PySem PySem.Spec PyProof.Rows L2 Mi
local macro_rules | `(tactic| walk_at "mi") => `(tactic| try simp only [↓w_vr, ↓w_cn, ↓w_e2, ↓w_tup, ↓w_lst, ↓w_aN, ↓w_aC, ↓w_call, ↓w_B, ↓w_M, ↓w_oN, ↓w_oS, ↓w_sl, ↓w_B1, ↓w_Tl, ↓w_An, ↓w_Or, ↓w_No, ↓w_eAn, ↓w_eO, ↓w_eNo, ↓w_eNeg, ↓w_eIf, ↓w_ch, ↓w_Dn, ↓w_lRg1, ↓w_trg1, ↓w_yes, ↓ws_forS, ↓ws_forG, ↓w_lcS, ↓w_lcG, ↓w_dcS, ↓w_dcG, items_tup, items_rol, ↓ws_seq, ↓ws_skip, ↓ws_set, ↓ws_ex, ↓ws_ret, ↓ws_retN, ↓ws_bk, ↓ws_ct, ↓ws_if, ↓ws_asg, ↓ws_dput, ↓ws_daug, ↓ws_lput, ↓ws_aug, ↓wp_some, ↓wp_none, ↓wp_if, ↓wp_map, ↓wf_ok, ↓asI_int, ↓asBl_bl,
  List.getElem?_cons_zero, List.getElem?_cons_succ, List.set_cons_zero, List.set_cons_succ, opI_int, addD_int, mulD_int, intB_int, intB_bl, absB_int, lenB_rol, lenB_tup, ixD_rol, ixD_tup, atI0, atI1, atI2, atI3, atI4, asgT_n, tyQ, appQ, slQ, slD_tup, wipeE, List.length_cons, List.length_nil, List.length_map, true_and, and_true, decide_true, ↓reduceIte, bl_t, List.map_cons, List.map_nil, List.cons_append, List.nil_append, List.replicate_succ, List.replicate_zero, Nat.reduceAdd, Nat.reduceLeDiff, Int.reduceLT, Int.reduceLE, Int.reduceNeg, Int.reduceSub, eqD_str, eqD_int, neD_int, ofStr_eq, String.reduceEq, decide_false, decide_true, in_tupS, in_tints, flatD_str, flatD_int, List.all_cons, List.all_nil, List.any_cons, List.any_nil, eqF_str, Bool.and_true, Bool.and_self, Bool.or_false, Bool.or_true, Bool.true_or, Bool.false_or, Bool.false_eq_true, Bool.not_true, Bool.not_false, in_top, ixD_top, tupB_top, items_top, lenB_top, tru_bl, asgT_2, asgT_3, ↓w_pN, ↓w_pC, ↓w_Dct, ixD_tup, Int.cast_ofNat_Int, Int.reduceEq, ↓w_DGet2, ↓w_callV, ↓ws_laug, neD_str, ↓ws_forG2, lstB_tup, eqD_bl, neD_bl, isD_non, isD_ref, isD_tup, isD_int, isD_str, isD_bl, isNotD_non, isNotD_ref, isNotD_tup, isNotD_int, isNotD_str, isNotD_bl, isiT_tup, isiT_int, isiT_str, isiT_bl, isiT_non, ↓w_lcG2, ↓ws_forZ, ↓w_lcZ, asT_tup, addI_int, gtD_int, isi_tup_tuple, isi_tup_str, isi_tup_int, isi_tup_bool, isi_tup_list, isi_str_tuple, isi_str_str, isi_str_int, isi_str_bool, isi_str_list, isi_int_tuple, isi_int_str, isi_int_int, isi_int_bool, isi_int_list, isi_bl_tuple, isi_bl_str, isi_bl_int, isi_bl_bool, isi_bl_list, isi_non_tuple, isi_non_str, isi_non_int, isi_non_bool, isi_non_list])

theorem plain_ok {L : List Int} {s : S} {Q : D → S → Prop} (hl : L.length ≤ 1000) (k : ∀ s', Gr s s' → Q (.bl true) s') : WF (F_law_plain [.tup (L.map D.int), .tup (L.map D.int)] s) Q := by
  unfold F_law_plain
  refine (wf_fn (by rfl)).mpr ?_
  unfold g_law_plain
  walk_at "mi"
  have e : eqD (.tup (L.map D.int)) (.tup (L.map D.int)) s = some (.bl true, s) := by
    unfold eqD
    rw [eqB_tints, decide_eq_true rfl]
  rw [e]
  walk_at "mi"
  refine cs_map (xs := L) D.int (fun _ => none) (fun st => st = s) okD_tup (by omega) rfl ?_ ?_
  · rintro x st hx rfl _
    walk_at "mi"
    first | exact okD_tup | trivial
  · rintro st rfl _
    rw [show (L.filterMap fun _ => (none : Option D)) = [] from by simp]
    walk_at "mi"
    have e2 : eqD (.ref st.length) (.ref (st ++ [O.lst []]).length) (st ++ [O.lst []] ++ [O.lst []]) = some (.bl true, st ++ [O.lst []] ++ [O.lst []]) := by
      have z : eqB (.ref st.length) (.ref (st ++ [O.lst []]).length) (st ++ [O.lst []] ++ [O.lst []]) = some (decide (([] : List Int) = [])) := eqB_ints (as := []) (bs := []) (old_get top_get) top_get
      unfold eqD
      rw [z]; rfl
    rw [e2]
    walk_at "mi"
    exact k _ ((Gr.app _ _).trans (Gr.app _ _))
theorem can_of {L : List Int} (hs : L.Pairwise (· < ·)) (hr : ∀ x ∈ L, R16 x) : Can L := by
  have h1 : sortI L = L := (sort_uniq (List.Perm.refl _) (hs.imp fun h => by omega)).symm
  have h2 : sortI L = cmf fun x => decide (x ∈ L) := sort_cmf (hs.imp fun h => by omega) fun x => by
    rw [decide_eq_true_iff]
    exact ⟨fun h => ⟨hr x h, h⟩, fun h => h.2⟩
  unfold Can
  rw [← h2, h1]
/-- a comprehension over the sixteen registers with a condition that draws -/
theorem cs_draw {ow : Option Int} {pw pd : Nat} {c : EB} {env : Mi.Env} {i : Nat} {s : S} {Q : D → S → Prop} (hW : Wd ow pw pd s) (hi : ∀ x : Int, (((wipeE env [i])).set i (some (.int x)))[i]? = some (some (D.int x)))
    (hs : ∀ (x : Int) (st : S), R16 x → Wd ow pw pd st → WB c ((wipeE env [i]).set i (some (.int x))) st fun _ s' => Wd ow pw pd s' ∧ Fr pw st s')
    (k : ∀ L p s', Can L → Wd ow pw pd s' → Fr pw s s' → s.length ≤ p → s'[p]? = some (.lst (L.map D.int)) → Q (.ref p) s') : CS (.n i) [i] c (vr i) okT env (rng 0 (16 : Int).toNat) s Q := by
  refine cs_rng (n := 16) (fun j ys st => Wd ow pw pd st ∧ Fr pw s st ∧ ∃ L : List Int, ys = L.map D.int ∧ L.Pairwise (· < ·) ∧ ∀ x ∈ L, 0 ≤ x ∧ x < (j : Nat)) (by decide) ⟨hW, Fr.refl _ _, [], rfl, .nil, fun _ h => (nomatch h)⟩ ?_ ?_
  · rintro j ys st hj ⟨hWt, hFt, L, rfl, hp, hr⟩
    rw [asgT_n, wp_some]
    refine WF.mono (hs (j : Int) st ⟨by omega, by omega⟩ hWt) fun b s' h => ?_
    cases b with
    | false => exact ⟨h.1, hFt.trans h.2, L, rfl, hp, fun x hx => by have := hr x hx; omega⟩
    | true =>
      simp only [↓reduceIte]
      rw [w_vr, hi, wp_some, wp_some]
      refine ⟨h.1, hFt.trans h.2, L ++ [(j : Int)], by rw [List.map_append]; rfl, ?_, fun x hx => ?_⟩
      · rw [List.pairwise_append]
        refine ⟨hp, by simp, fun a ha b hb => ?_⟩
        rw [List.mem_singleton.mp hb]
        exact (hr a ha).2
      · rcases List.mem_append.mp hx with z | z
        · have := hr x z; omega
        · rw [List.mem_singleton.mp z]; omega
  · rintro ys st ⟨hWt, hFt, L, rfl, hp, hr⟩
    exact k L st.length _ (can_of hp hr) (hWt.app _) (hFt.trans (Fr.app _ _ _)) hFt.1 top_get
def PapD (c : MC) (ms : List D) : Prop := (∃ P, PaOk c P ∧ ms = P.map fun L => D.tup (L.map D.int)) ∨ (ms.length = c.rows.length ∧ (∀ d ∈ ms, MemD d ∨ d ∈ BadL) ∧ ∃ d ∈ ms, d ∈ BadL) ∨ ms.length ≠ c.rows.length
def Bad1 : List D := [.non, .tup [.int 1, .int 1], .tup [.int 2, .int 1], .tup [.int 16], .tup [.int (-1)], .tup [.bl true], .str "1", .tup [.str "1"], .tup [.tup []], .tup [], .tup [.int 0, .bl true], .tup [.int 0, .int 16], .tup [.int 0, .int 2, .int 1], .tup [.int 0, .int 1, .int 1]]
def Bad2 : List D := [.tup [.int 1, .str "1"], .tup [.str "1", .int 2], .tup [.non, .int 0], .tup [.int 0, .non], .tup [.tup [], .int 1], .tup [.int 0, .tup [.int 1]], .tup [.bl false, .int 1], .tup [.int 1, .int (-1)]]
theorem bad12 : ∀ d ∈ Bad1 ++ Bad2, d ∈ BadL ∨ d = .tup [] := by
  intro d hd
  unfold Bad1 Bad2 at hd
  simp only [List.mem_append, List.mem_cons, List.not_mem_nil, or_false] at hd
  unfold BadL
  simp only [List.mem_cons, List.not_mem_nil, or_false]
  rcases hd with (rfl | rfl | rfl | rfl | rfl | rfl | rfl | rfl | rfl | rfl | rfl | rfl | rfl | rfl) | (rfl | rfl | rfl | rfl | rfl | rfl | rfl | rfl) <;> simp
theorem badAt {j : Int} (h0 : 0 ≤ j) (h1 : j < 22) : ∃ b, atI [D.non, D.tup [.int 1, .int 1], D.tup [.int 2, .int 1], D.tup [.int 16], D.tup [.int (-1)], D.tup [.bl true], D.str (Str.ofString "1"), D.tup [.str (Str.ofString "1")], D.tup [.tup []], D.tup [], D.tup [.int 0, .bl true], D.tup [.int 0, .int 16], D.tup [.int 0, .int 2, .int 1], D.tup [.int 0, .int 1, .int 1], D.tup [.int 1, .str (Str.ofString "1")], D.tup [.str (Str.ofString "1"), .int 2], D.tup [.non, .int 0], D.tup [.int 0, .non], D.tup [.tup [], .int 1], D.tup [.int 0, .tup [.int 1]], D.tup [.bl false, .int 1], D.tup [.int 1, .int (-1)]] j = some b ∧ (b ∈ BadL ∨ b = .tup []) := by
  have hl : j.toNat < (Bad1 ++ Bad2).length := by show j.toNat < 22; omega
  have e := List.getElem?_eq_some_iff.mpr ⟨hl, rfl⟩
  refine ⟨(Bad1 ++ Bad2)[j.toNat], atI_of h0 e, bad12 _ (List.getElem_mem hl)⟩
theorem law_paper_ok {ow : Option Int} {pw pd : Nat} {c : MC} {G : Pa} {s : S} {Q : D → S → Prop} (hW : Wd ow pw pd s) (hok : PaOk c G) (n1 : 1 ≤ c.rows.length) (n2 : c.rows.length ≤ 3000) (k : ∀ ms s', PapD c ms → Wd ow pw pd s' → Q (.tup ms) s') : WF (F_law_paper [.ref pw, tupP G] s) Q := by
  unfold F_law_paper
  refine (wf_fn (by rfl)).mpr ?_
  unfold g_law_paper
  have hGl := hok.len
  walk_at "mi"
  refine next_ok (hW.app _) (by decide) fun t s1 t0 t4 hW1 hF1 => ?_
  have lw := hW.lt
  have hr0 := hF1.get (top_get (s := s) (o := O.lst [])) (by omega)
  have lp : s.length < s1.length := (List.getElem?_eq_some_iff.mp hr0).1
  have pw1 : s.length ≠ pw := by omega
  have pd1 : s.length ≠ pd := by omega
  generalize s.length = p at *
  walk_at "mi"
  unfold tupP
  walk_at "mi"
  refine fs_tup (fun i env st => (∃ x4 x5 x6 x7 x8 : Option D, env = [some (.ref pw), some (.tup (G.map fun L => D.tup (L.map D.int))), some (.ref p), some (.int t), x4, x5, x6, x7, x8]) ∧ Wd ow pw pd st ∧ ∃ P : Pa, st[p]? = some (.lst (P.map fun L => D.tup (L.map D.int))) ∧ P.length = i ∧ ∀ L ∈ P, Can L) ⟨⟨_, _, _, _, _, rfl⟩, hW1, [], hr0, rfl, fun _ h => (nomatch h)⟩ ?_ ?_
  · rintro i d env st hi ⟨⟨x4, x5, x6, x7, x8, rfl⟩, hWt, P, hp, hl, hc⟩
    rw [List.getElem?_map] at hi
    cases hL : G[i]? with
    | none => rw [hL] at hi; cases hi
    | some M =>
      rw [hL] at hi; cases hi
      rw [asgT_n, wp_some]
      unfold g_law_paper_b2
      have hig := (List.getElem?_eq_some_iff.mp hL).1
      walk_at "mi"
      refine cs_draw hWt (fun x => rfl) (fun x st1 hx hW' => ?_) fun L q st1 hL hW' hF' hq hst => ?_
      · walk_at "mi"
        have yes : ∀ s', Wd ow pw pd s' → Fr pw st1 s' → Wd ow pw pd s' ∧ Fr pw st1 s' := fun s' a b => ⟨a, b⟩
        have second : ∀ st2, Wd ow pw pd st2 → Fr pw st1 st2 → (if t = 2 then WF (F_law_next [D.ref pw, D.int 20] st2) fun d s1 => WP (eqD d (D.int 0) s1) fun p => asBl p.1 fun k => Wd ow pw pd p.2 ∧ Fr pw st1 p.2 else Wd ow pw pd st2 ∧ Fr pw st1 st2) := by
          intro st2 hW2 hF2
          by_cases c3 : t = 2
          · rw [if_pos c3]
            refine next_ok hW2 (by decide) fun u s5 u0 u1 hW5 hF5 => ?_
            walk_at "mi"
            exact ⟨hW5, hF2.trans hF5⟩
          · rw [if_neg c3]; exact ⟨hW2, hF2⟩
        by_cases c1 : x ∈ M
        · rw [if_pos c1]
          by_cases c2 : t = 0
          · rw [if_pos c2]; exact ⟨hW', Fr.refl _ _⟩
          · rw [if_neg c2]
            refine next_ok hW' (by decide) fun u s4 u0 u1 hW4 hF4 => ?_
            walk_at "mi"
            by_cases c3 : 0 < u
            · rw [if_pos c3]; exact ⟨hW4, hF4⟩
            · rw [if_neg c3]; exact second s4 hW4 hF4
        · rw [if_neg c1]; exact second st1 hW' (Fr.refl _ _)
      · walk_at "mi"
        rw [tupB_ref hst]
        walk_at "mi"
        have hp' := hF'.get hp pw1
        simp only [ty_ref hp']
        walk_at "mi"
        rw [app_ref hp', if_pos (by rw [List.length_map]; omega)]
        walk_at "mi"
        refine ⟨⟨_, _, _, _, _, rfl⟩, hW'.set pw1 pd1, P ++ [L], ?_, by rw [List.length_append, hl]; rfl, fun L' h => ?_⟩
        · rw [List.getElem?_set_self (List.getElem?_eq_some_iff.mp hp').1, List.map_append]; rfl
        · rcases List.mem_append.mp h with z | z
          · exact hc L' z
          · rw [List.mem_singleton.mp z]; exact hL
  · rintro env st ⟨⟨x4, x5, x6, x7, x8, rfl⟩, hWt, P, hp, hl, hc⟩
    rw [List.length_map, hGl] at hl
    have hP : PaOk c P := ⟨hl, hc⟩
    have fin : ∀ (x4 x5 x6 x7 x8 : Option D) (st2 : S) (ms : List D), Wd ow pw pd st2 → st2[p]? = some (.lst ms) → ms.length = c.rows.length → PapD c ms → WS g_law_paper_b3 [some (.ref pw), some (.tup (G.map fun L => D.tup (L.map D.int))), some (.ref p), some (.int t), x4, x5, x6, x7, x8] st2 (fun _ s' => Q .non s') Q (fun _ _ => False) (fun _ _ => False) := by
      intro x4 x5 x6 x7 x8 st2 ms hW2 hp2 hl2 hms
      unfold g_law_paper_b3 g_law_paper_b1
      walk_at "mi"
      refine next_ok hW2 (by decide) fun u s3 u0 u1 hW3 hF3 => ?_
      have hp3 := hF3.get hp2 pw1
      walk_at "mi"
      by_cases cu : u = 0
      · rw [if_pos cu, slD_ref hp3]
        walk_at "mi"
        refine k _ _ (.inr (.inr ?_)) (hW3.app _)
        rw [show Mi.cutD ms (some 1) none = ms.drop 1 from cutD_drop (n := 1), List.length_drop]
        omega
      · rw [if_neg cu, tupB_ref hp3]
        walk_at "mi"
        exact k _ _ hms hW3
    walk_at "mi"
    by_cases c3 : t = 3
    · simp only [c3, ↓reduceIte]
      subst c3
      rw [lenB_ref hp]
      walk_at "mi"
      refine next_ok hWt (by rw [hl]; omega) fun a s2 a0 a1 hW2 hF2 => ?_
      walk_at "mi"
      have hp2 := hF2.get hp pw1
      have e0 : ∀ (as bs : List D) (st3 : S), as.length + bs.length ≤ 1000 → addD (.ref st3.length) (.ref (st3 ++ [O.lst as]).length) (st3 ++ [O.lst as] ++ [O.lst bs]) = some (.ref (st3 ++ [O.lst as] ++ [O.lst bs]).length, st3 ++ [O.lst as] ++ [O.lst bs] ++ [O.lst (as ++ bs)]) := fun as bs st3 h => by
        rw [add_refs (old_get top_get) top_get, if_pos (by omega)]
      rw [e0 _ _ _ (by decide)]
      walk_at "mi"
      refine next_ok (((hW2.app _).app _).app _) (by decide) fun j s3 j0 j1 hW3 hF3 => ?_
      have lw2 := hW2.lt
      rw [ixD_ref (hF3.get top_get (by simp only [List.length_append, List.length_cons, List.length_nil]; omega))]
      obtain ⟨b, hb1, hb2⟩ := badAt j0 j1
      rw [hb1]
      walk_at "mi"
      have hp3 := hF3.get (old_get (old_get (old_get hp2))) pw1
      rw [setL_of hp3 a0 (by rw [List.length_map]; exact a1)]
      walk_at "mi"
      have lp3 := (List.getElem?_eq_some_iff.mp hp3).1
      refine fin _ _ _ _ _ _ ((P.map fun L => D.tup (L.map D.int)).set a.toNat b) (hW3.set pw1 pd1) (List.getElem?_set_self lp3) (by rw [List.length_set, List.length_map]; exact hl) ?_
      rcases hb2 with z | z
      · refine .inr (.inl ⟨by rw [List.length_set, List.length_map]; exact hl, fun d hd => ?_, b, ?_, z⟩)
        · rcases List.mem_or_eq_of_mem_set hd with y | y
          · obtain ⟨L, hL, rfl⟩ := List.mem_map.mp y
            exact .inl ⟨L, hc L hL, rfl⟩
          · rw [y]; exact .inr z
        · exact List.mem_set (by rw [List.length_map]; omega) b
      · refine .inl ⟨P.set a.toNat [], ⟨by rw [List.length_set]; exact hl, fun L hL => ?_⟩, by rw [List.map_set, z]; rfl⟩
        rcases List.mem_or_eq_of_mem_set hL with y | y
        · exact hc L y
        · rw [y]; exact can_nil
    · simp only [c3, ↓reduceIte]
      exact fin _ _ _ _ _ st _ hWt hp (by rw [List.length_map]; exact hl) (.inl ⟨P, hP, rfl⟩)
end My

set_option Elab.async false
set_option linter.all false
set_option maxRecDepth 100000
set_option maxHeartbeats 4000000
namespace My
open PySem PySem.Spec PyProof.Rows L2 Mi
local macro_rules | `(tactic| walk_at "mi") => `(tactic| try simp only [↓w_vr, ↓w_cn, ↓w_e2, ↓w_tup, ↓w_lst, ↓w_aN, ↓w_aC, ↓w_call, ↓w_B, ↓w_M, ↓w_oN, ↓w_oS, ↓w_sl, ↓w_B1, ↓w_Tl, ↓w_An, ↓w_Or, ↓w_No, ↓w_eAn, ↓w_eO, ↓w_eNo, ↓w_eNeg, ↓w_eIf, ↓w_ch, ↓w_Dn, ↓w_lRg1, ↓w_trg1, ↓w_yes, ↓ws_forS, ↓ws_forG, ↓w_lcS, ↓w_lcG, ↓w_dcS, ↓w_dcG, items_tup, items_rol, ↓ws_seq, ↓ws_skip, ↓ws_set, ↓ws_ex, ↓ws_ret, ↓ws_retN, ↓ws_bk, ↓ws_ct, ↓ws_if, ↓ws_asg, ↓ws_dput, ↓ws_daug, ↓ws_lput, ↓ws_aug, ↓wp_some, ↓wp_none, ↓wp_if, ↓wp_map, ↓wf_ok, ↓asI_int, ↓asBl_bl,
  List.getElem?_cons_zero, List.getElem?_cons_succ, List.set_cons_zero, List.set_cons_succ, opI_int, addD_int, mulD_int, intB_int, intB_bl, absB_int, lenB_rol, lenB_tup, ixD_rol, ixD_tup, atI0, atI1, atI2, atI3, atI4, asgT_n, tyQ, appQ, slQ, slD_tup, wipeE, List.length_cons, List.length_nil, List.length_map, true_and, and_true, decide_true, ↓reduceIte, bl_t, List.map_cons, List.map_nil, List.cons_append, List.nil_append, List.replicate_succ, List.replicate_zero, Nat.reduceAdd, Nat.reduceLeDiff, Int.reduceLT, Int.reduceLE, Int.reduceNeg, Int.reduceSub, eqD_str, eqD_int, neD_int, ofStr_eq, String.reduceEq, decide_false, decide_true, in_tupS, in_tints, flatD_str, flatD_int, List.all_cons, List.all_nil, List.any_cons, List.any_nil, eqF_str, Bool.and_true, Bool.and_self, Bool.or_false, Bool.or_true, Bool.true_or, Bool.false_or, Bool.false_eq_true, Bool.not_true, Bool.not_false, in_top, ixD_top, tupB_top, items_top, lenB_top, tru_bl, asgT_2, asgT_3, ↓w_pN, ↓w_pC, ↓w_Dct, ixD_tup, Int.cast_ofNat_Int, Int.reduceEq, ↓w_DGet2, ↓w_callV, ↓ws_laug, neD_str, ↓ws_forG2, lstB_tup, eqD_bl, neD_bl, isD_non, isD_ref, isD_tup, isD_int, isD_str, isD_bl, isNotD_non, isNotD_ref, isNotD_tup, isNotD_int, isNotD_str, isNotD_bl, isiT_tup, isiT_int, isiT_str, isiT_bl, isiT_non, ↓w_lcG2, ↓ws_forZ, ↓w_lcZ, asT_tup, addI_int, gtD_int, isi_tup_tuple, isi_tup_str, isi_tup_int, isi_tup_bool, isi_tup_list, isi_str_tuple, isi_str_str, isi_str_int, isi_str_bool, isi_str_list, isi_int_tuple, isi_int_str, isi_int_int, isi_int_bool, isi_int_list, isi_bl_tuple, isi_bl_str, isi_bl_int, isi_bl_bool, isi_bl_list, isi_non_tuple, isi_non_str, isi_non_int, isi_non_bool, isi_non_list])

theorem eqv_tints (L : List Int) : PyData.eqv (.tuple (L.map PyData.int)) (.tuple (L.map PyData.int)) = true := by
  show PyData.eqvAll (L.map PyData.int) (L.map PyData.int) = true
  rw [eqv_ints, decide_eq_true rfl]
theorem eqv_pap : ∀ P : Pa, PyData.eqvAll (P.map fun L => PyData.tuple (L.map PyData.int)) (P.map fun L => PyData.tuple (L.map PyData.int)) = true
  | [] => rfl
  | L :: P => by
    show (PyData.eqv (.tuple (L.map PyData.int)) (.tuple (L.map PyData.int)) && PyData.eqvAll (P.map _) (P.map _)) = true
    rw [eqv_tints, eqv_pap P]; rfl
theorem ne_pap (P P' : Pa) (s : S) : ∃ b, neD (tupP P) (tupP P') s = some (.bl b, s) ∧ (P = P' → b = false) := by
  have hp : ∀ P : Pa, (P.map fun L => D.tup (L.map D.int)).mapM (toP 59 s) = some (P.map fun L => PyData.tuple (L.map PyData.int)) := fun P => mapM_map (toP 59 s) _ _ (fun L => by
    show ((L.map D.int).mapM (toP 58 s)).map PyData.tuple = _
    rw [mapM_map (toP 58 s) D.int PyData.int (fun _ => rfl) L]; rfl) P
  have hs : ∀ P : Pa, shAll 1 (P.map fun L => PyData.tuple (L.map PyData.int)) := fun P p hp => by
    obtain ⟨L, _, rfl⟩ := List.mem_map.mp hp
    have hq : shAll 0 (L.map PyData.int) := sh_ints L
    refine ⟨?_, ?_⟩
    · show PyData.canLayAll0 _ = true
      exact canAll hq
    · have := depAll hq
      show PyData.depthAll _ + 1 ≤ 1
      omega
  refine ⟨!PyData.eqvAll (P.map fun L => PyData.tuple (L.map PyData.int)) (P'.map fun L => PyData.tuple (L.map PyData.int)), ?_, fun e => ?_⟩
  · unfold neD tupP
    rw [eqB_tup (hp P) (hp P') (hs P) (hs P') (by omega)]
  · subst e
    rw [eqv_pap P]; rfl
theorem holds_short {c : MC} {ds : List D} {s : S} {R : D → S → Prop} (hn : ds.length ≠ c.rows.length) (k : ∀ s', Gr s s' → R (.bl false) s') : WF (F_holds [c.enc, .tup ds] s) R := by
  unfold F_holds
  refine (wf_fn (by rfl)).mpr ?_
  unfold g_holds
  walk_at "mi"
  rw [code_ix1]
  walk_at "mi"
  have e : decide ((ds.length : Int) = (c.rows.length : Int)) = false := decide_eq_false (by omega)
  simp only [neD_int, e, Bool.not_false, ↓reduceIte]
  exact k _ (Gr.refl _)
theorem holds_notT {c : MC} {d : D} {s : S} {R : D → S → Prop} (h : isiB [d, .ty "tuple"] s = some (.bl false, s)) (k : ∀ s', Gr s s' → R (.bl false) s') : WF (F_holds [c.enc, d] s) R := by
  unfold F_holds
  refine (wf_fn (by rfl)).mpr ?_
  unfold g_holds
  walk_at "mi"
  rw [h]
  walk_at "mi"
  exact k _ (Gr.refl _)
theorem both {c : MC} {ms : List D} (ok : c.Ok) (h : PapD c ms) : ∃ b : Bool, (∀ (s : S) (R : D → S → Prop), (∀ s', Gr s s' → R (.bl b) s') → WF (F_holds [c.enc, .tup ms] s) R) ∧ (∀ (s : S) (R : D → S → Prop), (∀ s', Gr s s' → R (.bl b) s') → WF (F_law_holds [c.enc, .tup ms] s) R) ∧ (b = true → ∃ P, PaOk c P ∧ HoldsP c P ∧ ms = P.map fun L => D.tup (L.map D.int)) := by
  rcases h with ⟨P, hP, rfl⟩ | ⟨h1, h2, h3⟩ | h
  · by_cases hh : HoldsP c P
    · refine ⟨true, fun s R k => holds_ok ok hP fun s' b hG hb => ?_, fun s R k => lholds_ok ok hP fun s' b hG hb => ?_, fun _ => ⟨P, hP, hh, rfl⟩⟩
      · rw [hb.mpr hh]; exact k s' hG
      · rw [hb.mpr hh]; exact k s' hG
    · refine ⟨false, fun s R k => holds_ok ok hP fun s' b hG hb => ?_, fun s R k => lholds_ok ok hP fun s' b hG hb => ?_, fun z => (nomatch z)⟩
      · cases b with
        | true => exact absurd (hb.mp rfl) hh
        | false => exact k s' hG
      · cases b with
        | true => exact absurd (hb.mp rfl) hh
        | false => exact k s' hG
  · exact ⟨false, fun s R k => holds_bad h1 ok.n2 h2 h3 k, fun s R k => lholds_bad h1 ok.n2 h2 h3 k, fun z => (nomatch z)⟩
  · exact ⟨false, fun s R k => holds_short h k, fun s R k => lholds_short h k, fun z => (nomatch z)⟩
theorem Wd.gr {ow : Option Int} {pw pd : Nat} {s s' : S} (h : Wd ow pw pd s) (g : Gr s s') : Wd ow pw pd s' := by
  obtain ⟨a, ms, h0, h1, h2, h3, h4, h5⟩ := h
  exact ⟨a, ms, h0, g.get h1, g.get h2, h3, h4, h5⟩
theorem row_turn {ow : Option Int} {pw pd : Nat} {c : MC} {G : Pa} {i : Nat} (ok : c.Ok) (hok : PaOk c G) (hi : i < c.rows.length) {y0 y6 y7 y8 y9 y10 : Option D} {st : S} {N : Mi.Env → S → Prop} {Rt : D → S → Prop} {B C : Mi.Env → S → Prop} (hW : Wd ow pw pd st)
    (k : ∀ (x6 x7 : Option D) st', Wd ow pw pd st' → N [y0, some (.ref pw), some c.enc, some (tupP G), some (tupP G), some (.int (i : Int)), x6, x7, y8, y9, y10] st') :
    WS g_law_b1 [y0, some (.ref pw), some c.enc, some (tupP G), some (tupP G), some (.int (i : Int)), y6, y7, y8, y9, y10] st N Rt B C := by
  unfold g_law_b1
  have hGl := hok.len
  obtain ⟨m, hm⟩ : ∃ m, c.rows[i]? = some m := ⟨_, List.getElem?_eq_some_iff.mpr ⟨hi, rfl⟩⟩
  have ho := ok.row i m hm
  walk_at "mi"
  refine cs_draw hW (fun x => rfl) (fun x st1 hx hW' => ?_) fun L q st1 hL hW1 hF1 hq hst => ?_
  · walk_at "mi"
    refine next_ok hW' (by decide) fun u s4 u0 u1 hW4 hF4 => ?_
    walk_at "mi"
    exact ⟨hW4, hF4⟩
  walk_at "mi"
  rw [tupB_ref hst]
  walk_at "mi"
  have ix : ∀ s : S, ixD (tupP G) (.int (i : Int)) s = some (.tup ((pat G i).map D.int), s) := fun s => by
    unfold tupP
    rw [ixD_tup, atP (by omega)]; rfl
  rw [ix]
  walk_at "mi"
  rw [ix]
  walk_at "mi"
  refine plain_ok (Nat.le_trans (hok.pat i).len (by decide)) fun st2 hG2 => ?_
  walk_at "mi"
  refine ways_ok hm fun st3 hG3 => ?_
  walk_at "mi"
  refine law_ways_ok hm fun qw st4 hG4 hqw hw => ?_
  walk_at "mi"
  rw [tupB_ref hw]
  walk_at "mi"
  have hnl : (nextR i m).length ≤ 1000 := by
    cases m <;> simp only [nextR] <;> first | (split <;> first | (split <;> simp) | simp) | simp
  refine plain_ok hnl fun st5 hG5 => ?_
  walk_at "mi"
  refine behind_ok hm ho hL fun st6 hG6 => ?_
  walk_at "mi"
  refine law_behind_ok ok.g1 hm ho hL rfl fun qb st7 hG7 hqb hb => ?_
  walk_at "mi"
  rw [tupB_ref hb]
  walk_at "mi"
  refine plain_ok (Nat.le_trans (behR_can c m L).len (by decide)) fun st8 hG8 => ?_
  walk_at "mi"
  exact k _ _ st8 (hW1.gr (hG2.trans (hG3.trans (hG4.trans (hG5.trans (hG6.trans (hG7.trans hG8)))))))
theorem pap_turn {ow : Option Int} {pw pd : Nat} {c : MC} {G : Pa} (ok : c.Ok) (hg : Great c G) {y0 y4 y5 y6 y7 y8 y9 y10 : Option D} {st : S} {N : Mi.Env → S → Prop} {Rt : D → S → Prop} {B C : Mi.Env → S → Prop} (hW : Wd ow pw pd st)
    (k : ∀ (x4 x5 x7 x9 : Option D) st', Wd ow pw pd st' → N [y0, some (.ref pw), some c.enc, some (tupP G), x4, x5, y6, x7, y8, x9, y10] st') :
    WS g_law_b2 [y0, some (.ref pw), some c.enc, some (tupP G), y4, y5, y6, y7, y8, y9, y10] st N Rt B C := by
  unfold g_law_b2
  have hok := hg.shr.ok
  have hGl := hok.len
  have n2 := ok.n2
  walk_at "mi"
  refine law_paper_ok hW hok ok.n1 ok.n2 fun ms st1 hms hW1 => ?_
  obtain ⟨b, hb1, hb2, hb3⟩ := both ok hms
  walk_at "mi"
  refine hb1 _ _ fun st2 hG2 => ?_
  walk_at "mi"
  refine hb2 _ _ fun st3 hG3 => ?_
  walk_at "mi"
  have hW3 := hW1.gr (hG2.trans hG3)
  cases b with
  | false =>
    walk_at "mi"
    exact k _ _ _ _ st3 hW3
  | true =>
    obtain ⟨P, hP, hH, rfl⟩ := hb3 rfl
    have hPl := hP.len
    have hle := hg.top hP hH
    walk_at "mi"
    refine ⟨by omega, ?_⟩
    rw [Int.toNat_natCast]
    refine cs_rng (fun i ys st4 => Gr st3 st4 ∧ ys = []) (by omega) ⟨Gr.refl _, rfl⟩ ?_ ?_
    · rintro i ys st4 hi ⟨hG4, rfl⟩
      walk_at "mi"
      rw [atP hi]
      walk_at "mi"
      have ix : ∀ s : S, ixD (tupP G) (.int (i : Int)) s = some (.tup ((pat G i).map D.int), s) := fun s => by
        unfold tupP
        rw [ixD_tup, atP (by omega)]; rfl
      have hl16 := (hP.pat i).len
      refine cs_map (xs := pat P i) D.int (fun _ => none) (fun st => st = st4) okD_tup (by omega) rfl ?_ ?_
      · rintro x st hx rfl _
        walk_at "mi"
        rw [ix]
        walk_at "mi"
        have hxG := hle.2 i x hx
        simp only [hxG, decide_true, Bool.not_true, Bool.false_eq_true, ↓reduceIte]
        first | exact okD_tup | trivial
      · rintro st rfl _
        rw [show ((pat P i).filterMap fun _ => (none : Option D)) = [] from by simp]
        walk_at "mi"
        rw [neD_nn (old_get top_get) top_get]
        walk_at "mi"
        exact hG4.trans ((Gr.app _ _).trans (Gr.app _ _))
    · rintro ys st4 ⟨hG4, rfl⟩
      walk_at "mi"
      rw [neD_nn (old_get top_get) top_get]
      walk_at "mi"
      exact k _ _ _ _ _ (hW3.gr (hG4.trans ((Gr.app _ _).trans (Gr.app _ _))))
theorem law_true (ns : List Int) (hl : ns.length ≤ 63) : ∃ s, F_law [.rol (ns.map D.int)] [] = .ok (.bl true) s := by
  suffices h : WF (F_law [.rol (ns.map D.int)] []) fun d _ => d = .bl true by
    obtain ⟨d, s, e, rfl⟩ := h
    exact ⟨s, e⟩
  unfold F_law
  refine (wf_fn (by rfl)).mpr ?_
  unfold g_law
  walk_at "mi"
  refine WF.mono (draws_ok ns hl 1100 (by decide) []) ?_
  rintro d s1 ⟨ms, a, hms, hml, rfl, rfl⟩
  walk_at "mi"
  rw [show keyed [(D.str "draws", D.ref 1), (D.str "at", D.int 0)] = some (wK 1 0 none) from by kernel_rfl, wp_some]
  rw [show mergeD [] (wK 1 0 none) = wK 1 0 none from by kernel_rfl]
  refine ⟨by show (2 : Nat) ≤ 15; omega, ?_⟩
  walk_at "mi"
  have hW : Wd none 2 1 [O.lst a, O.lst (ms.map D.int), O.dct (wK 1 0 none)] := ⟨0, ms, by omega, rfl, rfl, hms, by rw [hml]; decide, by omega⟩
  refine code_ok (pd := 1) hW fun c s2 v ok hn2 hn hW2 hF2 => ?_
  walk_at "mi"
  refine law_greatest_ok ok (by omega) fun s3 G hG3 hg => ?_
  walk_at "mi"
  refine greatest_ok ok fun s4 G' hG4 hg' => ?_
  cases hg.uniq hg'
  have hok := hg.shr.ok
  have hGl := hok.len
  walk_at "mi"
  obtain ⟨b, hb1, hb2⟩ := ne_pap G G s4
  rw [hb1, hb2 rfl]
  walk_at "mi"
  refine holds_ok ok hok fun s5 b5 hG5 hb5 => ?_
  rw [hb5.mpr hg.hold]
  walk_at "mi"
  rw [code_ix1]
  walk_at "mi"
  have hW5 := hW2.gr (hG3.trans (hG4.trans hG5))
  refine ⟨by omega, ?_⟩
  rw [Int.toNat_natCast]
  refine fs_rng (fun i env st => (∃ x5 x6 x7 : Option D, env = [some (.rol (ns.map D.int)), some (.ref 2), some c.enc, some (tupP G), some (tupP G), x5, x6, x7, none, none, none]) ∧ Wd (some v) 2 1 st) ⟨⟨_, _, _, rfl⟩, hW5⟩ ?_ ?_
  · rintro i env st hi ⟨⟨x5, x6, x7, rfl⟩, hWt⟩
    rw [asgT_n, wp_some]
    refine row_turn ok hok hi hWt fun x6 x7 st' hW' => ?_
    exact ⟨⟨_, _, _, rfl⟩, hW'⟩
  rintro env st ⟨⟨x5, x6, x7, rfl⟩, hWt⟩
  walk_at "mi"
  refine fs_rng (fun i env st => (∃ x4 x5 x6 x7 x8 x9 : Option D, env = [some (.rol (ns.map D.int)), some (.ref 2), some c.enc, some (tupP G), x4, x5, x6, x7, x8, x9, none]) ∧ Wd (some v) 2 1 st) ⟨⟨_, _, _, _, _, _, rfl⟩, hWt⟩ ?_ ?_
  · rintro i env st hi ⟨⟨x4, x5, x6, x7, x8, x9, rfl⟩, hWt⟩
    rw [asgT_n, wp_some]
    refine pap_turn ok hg hWt fun x4 x5 x7 x9 st' hW' => ?_
    exact ⟨⟨_, _, _, _, _, _, rfl⟩, hW'⟩
  rintro env st ⟨⟨x4, x5, x6, x7, x8, x9, rfl⟩, hWt⟩
  walk_at "mi"
  have ead : addD (tupP G) (.tup [.tup []]) st = some (.tup ((G.map fun L => D.tup (L.map D.int)) ++ [.tup []]), st) := by
    unfold tupP
    rw [addD_tup, if_pos (by rw [List.length_map, List.length_singleton]; omega)]
  rw [ead]
  walk_at "mi"
  have hall : ∀ d ∈ [D.non, .tup [], .str (Str.ofString "paper"), .int 3, .bl true, .tup ((G.map fun L => D.tup (L.map D.int)) ++ [.tup []])], ∀ (s : S) (R : D → S → Prop), (∀ s', Gr s s' → R (.bl false) s') → WF (F_holds [c.enc, d] s) R := by
    intro d hd s R k
    simp only [List.mem_cons, List.not_mem_nil, or_false] at hd
    rcases hd with rfl | rfl | rfl | rfl | rfl | rfl
    · exact holds_notT (by kernel_rfl) k
    · exact holds_short (by rw [List.length_nil]; omega) k
    · exact holds_notT (by kernel_rfl) k
    · exact holds_notT (by kernel_rfl) k
    · exact holds_notT (by kernel_rfl) k
    · exact holds_short (by rw [List.length_append, List.length_map, List.length_singleton]; omega) k
  refine fs_inv (fun i env st' => (∃ x10 : Option D, env = [some (.rol (ns.map D.int)), some (.ref 2), some c.enc, some (tupP G), x4, x5, x6, x7, x8, x9, x10]) ∧ Gr (st ++ [O.lst [D.non, .tup [], .str (Str.ofString "paper"), .int 3, .bl true, .tup ((G.map fun L => D.tup (L.map D.int)) ++ [.tup []])]]) st') (okD_ref.mpr top_get) ⟨⟨_, rfl⟩, Gr.refl _⟩ ?_ ?_
  · rintro i d env st' hi ⟨⟨x10, rfl⟩, hG'⟩ hok'
    rw [asgT_n, wp_some]
    unfold g_law_b3
    walk_at "mi"
    refine hall d (List.mem_of_getElem? hi) _ _ fun s' hG'' => ?_
    walk_at "mi"
    exact ⟨okD_ref.mpr (hG''.get (okD_ref.mp hok')), ⟨_, rfl⟩, hG'.trans hG''⟩
  · rintro env st' ⟨⟨x10, rfl⟩, hG'⟩ _
    trivial
end My

set_option Elab.async false
set_option linter.all false
set_option maxRecDepth 100000
namespace My
open PySem PySem.Spec PyProof.Rows L2 Mi
theorem top_mk {l : PySem.W.OpenLaw} {w : World} {K : PySem.W.Frag} {h : Heap} {mg : Str → Option Value} {fa f1 f2 f3 f4 f5 f6 f7 f8 f9 f10 f11 f12 f13 f14 f15 f16 f17 f18 f19 f20 f21 : Addr}
    {od1 an1 : Option Addr} {sl1 : Array (Option Value)} {oc1 kV1 dc1 pm1 cd1 ct1 : Value}
    {od2 an2 : Option Addr} {sl2 : Array (Option Value)} {oc2 kV2 dc2 pm2 cd2 ct2 : Value}
    {od3 an3 : Option Addr} {sl3 : Array (Option Value)} {oc3 kV3 dc3 pm3 cd3 ct3 : Value}
    {od4 an4 : Option Addr} {sl4 : Array (Option Value)} {oc4 kV4 dc4 pm4 cd4 ct4 : Value}
    {od5 an5 : Option Addr} {sl5 : Array (Option Value)} {oc5 kV5 dc5 pm5 cd5 ct5 : Value}
    {od6 an6 : Option Addr} {sl6 : Array (Option Value)} {oc6 kV6 dc6 pm6 cd6 ct6 : Value}
    {od7 an7 : Option Addr} {sl7 : Array (Option Value)} {oc7 kV7 dc7 pm7 cd7 ct7 : Value}
    {od8 an8 : Option Addr} {sl8 : Array (Option Value)} {oc8 kV8 dc8 pm8 cd8 ct8 : Value}
    {od9 an9 : Option Addr} {sl9 : Array (Option Value)} {oc9 kV9 dc9 pm9 cd9 ct9 : Value}
    {od10 an10 : Option Addr} {sl10 : Array (Option Value)} {oc10 kV10 dc10 pm10 cd10 ct10 : Value}
    {od11 an11 : Option Addr} {sl11 : Array (Option Value)} {oc11 kV11 dc11 pm11 cd11 ct11 : Value}
    {od12 an12 : Option Addr} {sl12 : Array (Option Value)} {oc12 kV12 dc12 pm12 cd12 ct12 : Value}
    {od13 an13 : Option Addr} {sl13 : Array (Option Value)} {oc13 kV13 dc13 pm13 cd13 ct13 : Value}
    {od14 an14 : Option Addr} {sl14 : Array (Option Value)} {oc14 kV14 dc14 pm14 cd14 ct14 : Value}
    {od15 an15 : Option Addr} {sl15 : Array (Option Value)} {oc15 kV15 dc15 pm15 cd15 ct15 : Value}
    {od16 an16 : Option Addr} {sl16 : Array (Option Value)} {oc16 kV16 dc16 pm16 cd16 ct16 : Value}
    {od17 an17 : Option Addr} {sl17 : Array (Option Value)} {oc17 kV17 dc17 pm17 cd17 ct17 : Value}
    {od18 an18 : Option Addr} {sl18 : Array (Option Value)} {oc18 kV18 dc18 pm18 cd18 ct18 : Value}
    {od19 an19 : Option Addr} {sl19 : Array (Option Value)} {oc19 kV19 dc19 pm19 cd19 ct19 : Value}
    {od20 an20 : Option Addr} {sl20 : Array (Option Value)} {oc20 kV20 dc20 pm20 cd20 ct20 : Value}
    {od21 an21 : Option Addr} {sl21 : Array (Option Value)} {oc21 kV21 dc21 pm21 cd21 ct21 : Value}
    {vt0 : Tok}
    {vd1 : Addr} {vi1 : Array Value} {vn1 : Nat}
    (X : K.In h) (G : h.Ns mainGlobals mg) (hfa : mg "law" = some (.ref fa))
    (a1 : PySem.W.nsIn K mainGlobals "region_of" = some (some (.ref f1)))
    (l1 : K.lookup f1 = some ⟨oc1, od1, .func (PySem.W.fnOf "region_of" "region_of" (defArgs s_region_of) (defBody s_region_of) (defScope s_region_of) .none kV1 dc1 pm1 an1 cd1 ct1), sl1⟩)
    (c1 : PySem.W.codeIn K cd1 "region_of" = true)
    (k1 : PySem.W.keepIn K (.ref f1) = true)
    (a2 : PySem.W.nsIn K mainGlobals "public_behind" = some (some (.ref f2)))
    (l2 : K.lookup f2 = some ⟨oc2, od2, .func (PySem.W.fnOf "public_behind" "public_behind" (defArgs s_public_behind) (defBody s_public_behind) (defScope s_public_behind) .none kV2 dc2 pm2 an2 cd2 ct2), sl2⟩)
    (c2 : PySem.W.codeIn K cd2 "public_behind" = true)
    (k2 : PySem.W.keepIn K (.ref f2) = true)
    (a3 : PySem.W.nsIn K mainGlobals "ways" = some (some (.ref f3)))
    (l3 : K.lookup f3 = some ⟨oc3, od3, .func (PySem.W.fnOf "ways" "ways" (defArgs s_ways) (defBody s_ways) (defScope s_ways) .none kV3 dc3 pm3 an3 cd3 ct3), sl3⟩)
    (c3 : PySem.W.codeIn K cd3 "ways" = true)
    (k3 : PySem.W.keepIn K (.ref f3) = true)
    (a4 : PySem.W.nsIn K mainGlobals "is_member" = some (some (.ref f4)))
    (l4 : K.lookup f4 = some ⟨oc4, od4, .func (PySem.W.fnOf "is_member" "is_member" (defArgs s_is_member) (defBody s_is_member) (defScope s_is_member) .none kV4 dc4 pm4 an4 cd4 ct4), sl4⟩)
    (c4 : PySem.W.codeIn K cd4 "is_member" = true)
    (k4 : PySem.W.keepIn K (.ref f4) = true)
    (a5 : PySem.W.nsIn K mainGlobals "holds" = some (some (.ref f5)))
    (l5 : K.lookup f5 = some ⟨oc5, od5, .func (PySem.W.fnOf "holds" "holds" (defArgs s_holds) (defBody s_holds) (defScope s_holds) .none kV5 dc5 pm5 an5 cd5 ct5), sl5⟩)
    (c5 : PySem.W.codeIn K cd5 "holds" = true)
    (k5 : PySem.W.keepIn K (.ref f5) = true)
    (a6 : PySem.W.nsIn K mainGlobals "greatest_paper" = some (some (.ref f6)))
    (l6 : K.lookup f6 = some ⟨oc6, od6, .func (PySem.W.fnOf "greatest_paper" "greatest_paper" (defArgs s_greatest_paper) (defBody s_greatest_paper) (defScope s_greatest_paper) .none kV6 dc6 pm6 an6 cd6 ct6), sl6⟩)
    (c6 : PySem.W.codeIn K cd6 "greatest_paper" = true)
    (k6 : PySem.W.keepIn K (.ref f6) = true)
    (a7 : PySem.W.nsIn K mainGlobals "_law_draws" = some (some (.ref f7)))
    (l7 : K.lookup f7 = some ⟨oc7, od7, .func (PySem.W.fnOf "_law_draws" "_law_draws" (defArgs s_law_draws) (defBody s_law_draws) (defScope s_law_draws) .none kV7 dc7 pm7 an7 cd7 ct7), sl7⟩)
    (c7 : PySem.W.codeIn K cd7 "_law_draws" = true)
    (k7 : PySem.W.keepIn K (.ref f7) = true)
    (a8 : PySem.W.nsIn K mainGlobals "_law_next" = some (some (.ref f8)))
    (l8 : K.lookup f8 = some ⟨oc8, od8, .func (PySem.W.fnOf "_law_next" "_law_next" (defArgs s_law_next) (defBody s_law_next) (defScope s_law_next) .none kV8 dc8 pm8 an8 cd8 ct8), sl8⟩)
    (c8 : PySem.W.codeIn K cd8 "_law_next" = true)
    (k8 : PySem.W.keepIn K (.ref f8) = true)
    (a9 : PySem.W.nsIn K mainGlobals "_law_regions" = some (some (.ref f9)))
    (l9 : K.lookup f9 = some ⟨oc9, od9, .func (PySem.W.fnOf "_law_regions" "_law_regions" (defArgs s_law_regions) (defBody s_law_regions) (defScope s_law_regions) .none kV9 dc9 pm9 an9 cd9 ct9), sl9⟩)
    (c9 : PySem.W.codeIn K cd9 "_law_regions" = true)
    (k9 : PySem.W.keepIn K (.ref f9) = true)
    (a10 : PySem.W.nsIn K mainGlobals "_law_span" = some (some (.ref f10)))
    (l10 : K.lookup f10 = some ⟨oc10, od10, .func (PySem.W.fnOf "_law_span" "_law_span" (defArgs s_law_span) (defBody s_law_span) (defScope s_law_span) .none kV10 dc10 pm10 an10 cd10 ct10), sl10⟩)
    (c10 : PySem.W.codeIn K cd10 "_law_span" = true)
    (k10 : PySem.W.keepIn K (.ref f10) = true)
    (a11 : PySem.W.nsIn K mainGlobals "_law_row" = some (some (.ref f11)))
    (l11 : K.lookup f11 = some ⟨oc11, od11, .func (PySem.W.fnOf "_law_row" "_law_row" (defArgs s_law_row) (defBody s_law_row) (defScope s_law_row) .none kV11 dc11 pm11 an11 cd11 ct11), sl11⟩)
    (c11 : PySem.W.codeIn K cd11 "_law_row" = true)
    (k11 : PySem.W.keepIn K (.ref f11) = true)
    (a12 : PySem.W.nsIn K mainGlobals "_law_code" = some (some (.ref f12)))
    (l12 : K.lookup f12 = some ⟨oc12, od12, .func (PySem.W.fnOf "_law_code" "_law_code" (defArgs s_law_code) (defBody s_law_code) (defScope s_law_code) .none kV12 dc12 pm12 an12 cd12 ct12), sl12⟩)
    (c12 : PySem.W.codeIn K cd12 "_law_code" = true)
    (k12 : PySem.W.keepIn K (.ref f12) = true)
    (a13 : PySem.W.nsIn K mainGlobals "_law_region" = some (some (.ref f13)))
    (l13 : K.lookup f13 = some ⟨oc13, od13, .func (PySem.W.fnOf "_law_region" "_law_region" (defArgs s_law_region) (defBody s_law_region) (defScope s_law_region) .none kV13 dc13 pm13 an13 cd13 ct13), sl13⟩)
    (c13 : PySem.W.codeIn K cd13 "_law_region" = true)
    (k13 : PySem.W.keepIn K (.ref f13) = true)
    (a14 : PySem.W.nsIn K mainGlobals "_law_behind" = some (some (.ref f14)))
    (l14 : K.lookup f14 = some ⟨oc14, od14, .func (PySem.W.fnOf "_law_behind" "_law_behind" (defArgs s_law_behind) (defBody s_law_behind) (defScope s_law_behind) .none kV14 dc14 pm14 an14 cd14 ct14), sl14⟩)
    (c14 : PySem.W.codeIn K cd14 "_law_behind" = true)
    (k14 : PySem.W.keepIn K (.ref f14) = true)
    (a15 : PySem.W.nsIn K mainGlobals "_law_ways" = some (some (.ref f15)))
    (l15 : K.lookup f15 = some ⟨oc15, od15, .func (PySem.W.fnOf "_law_ways" "_law_ways" (defArgs s_law_ways) (defBody s_law_ways) (defScope s_law_ways) .none kV15 dc15 pm15 an15 cd15 ct15), sl15⟩)
    (c15 : PySem.W.codeIn K cd15 "_law_ways" = true)
    (k15 : PySem.W.keepIn K (.ref f15) = true)
    (a16 : PySem.W.nsIn K mainGlobals "_law_greatest" = some (some (.ref f16)))
    (l16 : K.lookup f16 = some ⟨oc16, od16, .func (PySem.W.fnOf "_law_greatest" "_law_greatest" (defArgs s_law_greatest) (defBody s_law_greatest) (defScope s_law_greatest) .none kV16 dc16 pm16 an16 cd16 ct16), sl16⟩)
    (c16 : PySem.W.codeIn K cd16 "_law_greatest" = true)
    (k16 : PySem.W.keepIn K (.ref f16) = true)
    (a17 : PySem.W.nsIn K mainGlobals "_law_is_member" = some (some (.ref f17)))
    (l17 : K.lookup f17 = some ⟨oc17, od17, .func (PySem.W.fnOf "_law_is_member" "_law_is_member" (defArgs s_law_is_member) (defBody s_law_is_member) (defScope s_law_is_member) .none kV17 dc17 pm17 an17 cd17 ct17), sl17⟩)
    (c17 : PySem.W.codeIn K cd17 "_law_is_member" = true)
    (k17 : PySem.W.keepIn K (.ref f17) = true)
    (a18 : PySem.W.nsIn K mainGlobals "_law_holds" = some (some (.ref f18)))
    (l18 : K.lookup f18 = some ⟨oc18, od18, .func (PySem.W.fnOf "_law_holds" "_law_holds" (defArgs s_law_holds) (defBody s_law_holds) (defScope s_law_holds) .none kV18 dc18 pm18 an18 cd18 ct18), sl18⟩)
    (c18 : PySem.W.codeIn K cd18 "_law_holds" = true)
    (k18 : PySem.W.keepIn K (.ref f18) = true)
    (a19 : PySem.W.nsIn K mainGlobals "_law_paper" = some (some (.ref f19)))
    (l19 : K.lookup f19 = some ⟨oc19, od19, .func (PySem.W.fnOf "_law_paper" "_law_paper" (defArgs s_law_paper) (defBody s_law_paper) (defScope s_law_paper) .none kV19 dc19 pm19 an19 cd19 ct19), sl19⟩)
    (c19 : PySem.W.codeIn K cd19 "_law_paper" = true)
    (k19 : PySem.W.keepIn K (.ref f19) = true)
    (a20 : PySem.W.nsIn K mainGlobals "_law_plain" = some (some (.ref f20)))
    (l20 : K.lookup f20 = some ⟨oc20, od20, .func (PySem.W.fnOf "_law_plain" "_law_plain" (defArgs s_law_plain) (defBody s_law_plain) (defScope s_law_plain) .none kV20 dc20 pm20 an20 cd20 ct20), sl20⟩)
    (c20 : PySem.W.codeIn K cd20 "_law_plain" = true)
    (k20 : PySem.W.keepIn K (.ref f20) = true)
    (a21 : PySem.W.nsIn K mainGlobals "law" = some (some (.ref f21)))
    (l21 : K.lookup f21 = some ⟨oc21, od21, .func (PySem.W.fnOf "law" "law" (defArgs s_law) (defBody s_law) (defScope s_law) .none kV21 dc21 pm21 an21 cd21 ct21), sl21⟩)
    (c21 : PySem.W.codeIn K cd21 "law" = true)
    (k21 : PySem.W.keepIn K (.ref f21) = true)
    (z_tuple : PySem.W.nsIn K mainGlobals "tuple" = some none)
    (z_sorted : PySem.W.nsIn K mainGlobals "sorted" = some none)
    (z_all : PySem.W.nsIn K mainGlobals "all" = some none)
    (z_isinstance : PySem.W.nsIn K mainGlobals "isinstance" = some none)
    (z_int : PySem.W.nsIn K mainGlobals "int" = some none)
    (z_bool : PySem.W.nsIn K mainGlobals "bool" = some none)
    (z_zip : PySem.W.nsIn K mainGlobals "zip" = some none)
    (z_len : PySem.W.nsIn K mainGlobals "len" = some none)
    (z_range : PySem.W.nsIn K mainGlobals "range" = some none)
    (z_list : PySem.W.nsIn K mainGlobals "list" = some none)
    (z_abs : PySem.W.nsIn K mainGlobals "abs" = some none)
    (z_repr : PySem.W.nsIn K mainGlobals "repr" = some none)
    (va0 : PySem.W.nsIn K mainGlobals "REGISTERS" = some (some (.int 16 vt0)))
    (va1 : PySem.W.nsIn K mainGlobals "ALL" = some (some (.ref vd1)))
    (vl1 : K.lookup vd1 = some ⟨.type "tuple", none, .seq vi1 vn1, #[]⟩)
    (vz1 : vi1.size ≤ sizeLine)
    (vv1 : Vals [V.int 0, V.int 1, V.int 2, V.int 3, V.int 4, V.int 5, V.int 6, V.int 7, V.int 8, V.int 9, V.int 10, V.int 11, V.int 12, V.int 13, V.int 14, V.int 15] vi1.toList) :
    ∃ fd : FuncData, (∀ (s : Shared) (v : Value), BindsTo s fd ⟨[v], []⟩ [("script", v)]) ∧ ∀ base : Heap, K.In base → base.Ns mainGlobals mg → FnG l.prog w K mg base 5 fa fd ["script"] (spLaw K) := by
  have e := hfa.symm.trans (PySem.W.mg_of X G a21)
  cases e
  have F1 : DefAt K mg "region_of" s_region_of ["code", "base", "mask"] _ _ := ⟨fun_mk (st := s_region_of) l1 c1 k1, PySem.W.mg_of X G a1, (fun_mk (st := s_region_of) l1 c1 k1).binds fun _ _ _ _ _ _ us hl => match us, hl with | [_, _, _], _ => rfl⟩
  have F2 : DefAt K mg "public_behind" s_public_behind ["code", "r", "member"] _ _ := ⟨fun_mk (st := s_public_behind) l2 c2 k2, PySem.W.mg_of X G a2, (fun_mk (st := s_public_behind) l2 c2 k2).binds fun _ _ _ _ _ _ us hl => match us, hl with | [_, _, _], _ => rfl⟩
  have F3 : DefAt K mg "ways" s_ways ["code", "r"] _ _ := ⟨fun_mk (st := s_ways) l3 c3 k3, PySem.W.mg_of X G a3, (fun_mk (st := s_ways) l3 c3 k3).binds fun _ _ _ _ _ _ us hl => match us, hl with | [_, _], _ => rfl⟩
  have F4 : DefAt K mg "is_member" s_is_member ["thing"] _ _ := ⟨fun_mk (st := s_is_member) l4 c4 k4, PySem.W.mg_of X G a4, (fun_mk (st := s_is_member) l4 c4 k4).binds fun _ _ _ _ _ _ us hl => match us, hl with | [_], _ => rfl⟩
  have F5 : DefAt K mg "holds" s_holds ["code", "paper"] _ _ := ⟨fun_mk (st := s_holds) l5 c5 k5, PySem.W.mg_of X G a5, (fun_mk (st := s_holds) l5 c5 k5).binds fun _ _ _ _ _ _ us hl => match us, hl with | [_, _], _ => rfl⟩
  have F6 : DefAt K mg "greatest_paper" s_greatest_paper ["code"] _ _ := ⟨fun_mk (st := s_greatest_paper) l6 c6 k6, PySem.W.mg_of X G a6, (fun_mk (st := s_greatest_paper) l6 c6 k6).binds fun _ _ _ _ _ _ us hl => match us, hl with | [_], _ => rfl⟩
  have F7 : DefAt K mg "_law_draws" s_law_draws ["script", "many"] _ _ := ⟨fun_mk (st := s_law_draws) l7 c7 k7, PySem.W.mg_of X G a7, (fun_mk (st := s_law_draws) l7 c7 k7).binds fun _ _ _ _ _ _ us hl => match us, hl with | [_, _], _ => rfl⟩
  have F8 : DefAt K mg "_law_next" s_law_next ["w", "many"] _ _ := ⟨fun_mk (st := s_law_next) l8 c8 k8, PySem.W.mg_of X G a8, (fun_mk (st := s_law_next) l8 c8 k8).binds fun _ _ _ _ _ _ us hl => match us, hl with | [_, _], _ => rfl⟩
  have F9 : DefAt K mg "_law_regions" s_law_regions ["w"] _ _ := ⟨fun_mk (st := s_law_regions) l9 c9 k9, PySem.W.mg_of X G a9, (fun_mk (st := s_law_regions) l9 c9 k9).binds fun _ _ _ _ _ _ us hl => match us, hl with | [_], _ => rfl⟩
  have F10 : DefAt K mg "_law_span" s_law_span ["w", "regions"] _ _ := ⟨fun_mk (st := s_law_span) l10 c10 k10, PySem.W.mg_of X G a10, (fun_mk (st := s_law_span) l10 c10 k10).binds fun _ _ _ _ _ _ us hl => match us, hl with | [_, _], _ => rfl⟩
  have F11 : DefAt K mg "_law_row" s_law_row ["w", "regions", "many"] _ _ := ⟨fun_mk (st := s_law_row) l11 c11 k11, PySem.W.mg_of X G a11, (fun_mk (st := s_law_row) l11 c11 k11).binds fun _ _ _ _ _ _ us hl => match us, hl with | [_, _, _], _ => rfl⟩
  have F12 : DefAt K mg "_law_code" s_law_code ["w"] _ _ := ⟨fun_mk (st := s_law_code) l12 c12 k12, PySem.W.mg_of X G a12, (fun_mk (st := s_law_code) l12 c12 k12).binds fun _ _ _ _ _ _ us hl => match us, hl with | [_], _ => rfl⟩
  have F13 : DefAt K mg "_law_region" s_law_region ["code", "base", "mask"] _ _ := ⟨fun_mk (st := s_law_region) l13 c13 k13, PySem.W.mg_of X G a13, (fun_mk (st := s_law_region) l13 c13 k13).binds fun _ _ _ _ _ _ us hl => match us, hl with | [_, _, _], _ => rfl⟩
  have F14 : DefAt K mg "_law_behind" s_law_behind ["code", "r", "member"] _ _ := ⟨fun_mk (st := s_law_behind) l14 c14 k14, PySem.W.mg_of X G a14, (fun_mk (st := s_law_behind) l14 c14 k14).binds fun _ _ _ _ _ _ us hl => match us, hl with | [_, _, _], _ => rfl⟩
  have F15 : DefAt K mg "_law_ways" s_law_ways ["code", "r"] _ _ := ⟨fun_mk (st := s_law_ways) l15 c15 k15, PySem.W.mg_of X G a15, (fun_mk (st := s_law_ways) l15 c15 k15).binds fun _ _ _ _ _ _ us hl => match us, hl with | [_, _], _ => rfl⟩
  have F16 : DefAt K mg "_law_greatest" s_law_greatest ["code"] _ _ := ⟨fun_mk (st := s_law_greatest) l16 c16 k16, PySem.W.mg_of X G a16, (fun_mk (st := s_law_greatest) l16 c16 k16).binds fun _ _ _ _ _ _ us hl => match us, hl with | [_], _ => rfl⟩
  have F17 : DefAt K mg "_law_is_member" s_law_is_member ["thing"] _ _ := ⟨fun_mk (st := s_law_is_member) l17 c17 k17, PySem.W.mg_of X G a17, (fun_mk (st := s_law_is_member) l17 c17 k17).binds fun _ _ _ _ _ _ us hl => match us, hl with | [_], _ => rfl⟩
  have F18 : DefAt K mg "_law_holds" s_law_holds ["code", "paper"] _ _ := ⟨fun_mk (st := s_law_holds) l18 c18 k18, PySem.W.mg_of X G a18, (fun_mk (st := s_law_holds) l18 c18 k18).binds fun _ _ _ _ _ _ us hl => match us, hl with | [_, _], _ => rfl⟩
  have F19 : DefAt K mg "_law_paper" s_law_paper ["w", "greatest"] _ _ := ⟨fun_mk (st := s_law_paper) l19 c19 k19, PySem.W.mg_of X G a19, (fun_mk (st := s_law_paper) l19 c19 k19).binds fun _ _ _ _ _ _ us hl => match us, hl with | [_, _], _ => rfl⟩
  have F20 : DefAt K mg "_law_plain" s_law_plain ["told", "due"] _ _ := ⟨fun_mk (st := s_law_plain) l20 c20 k20, PySem.W.mg_of X G a20, (fun_mk (st := s_law_plain) l20 c20 k20).binds fun _ _ _ _ _ _ us hl => match us, hl with | [_, _], _ => rfl⟩
  have F21 : DefAt K mg "law" s_law ["script"] _ _ := ⟨fun_mk (st := s_law) l21 c21 k21, PySem.W.mg_of X G a21, (fun_mk (st := s_law) l21 c21 k21).binds fun _ _ _ _ _ _ us hl => match us, hl with | [_], _ => rfl⟩
  have B : Blt K w mg := ⟨PySem.W.mg_none_of X G z_tuple, PySem.W.mg_none_of X G z_sorted, PySem.W.mg_none_of X G z_all, PySem.W.mg_none_of X G z_isinstance, PySem.W.mg_none_of X G z_int, PySem.W.mg_none_of X G z_bool, PySem.W.mg_none_of X G z_zip, PySem.W.mg_none_of X G z_len, PySem.W.mg_none_of X G z_range, PySem.W.mg_none_of X G z_list, PySem.W.mg_none_of X G z_abs, PySem.W.mg_none_of X G z_repr, gv_int (PySem.W.mg_of X G va0), gv_tup (PySem.W.mg_of X G va1) vl1 vz1 vv1 fun _ _ => (.cons (.int _) (.cons (.int _) (.cons (.int _) (.cons (.int _) (.cons (.int _) (.cons (.int _) (.cons (.int _) (.cons (.int _) (.cons (.int _) (.cons (.int _) (.cons (.int _) (.cons (.int _) (.cons (.int _) (.cons (.int _) (.cons (.int _) (.cons (.int _) .nil))))))))))))))))⟩
  refine ⟨PySem.W.fnOf "law" "law" (defArgs s_law) (defBody s_law) (defScope s_law) .none kV21 dc21 pm21 an21 cd21 ct21, fun s v => .of_eq rfl, fun base _ _ => ?_⟩
  have K1 : Keeps l.prog w K mg base 1 "region_of" _ F_region_of _ _ := ok_region_of B F1  
  have K2 : Keeps l.prog w K mg base 2 "public_behind" _ F_public_behind _ _ := ok_public_behind B F2 K1 
  have K3 : Keeps l.prog w K mg base 1 "ways" _ F_ways _ _ := ok_ways B F3  
  have K4 : Keeps l.prog w K mg base 1 "is_member" _ F_is_member _ _ := ok_is_member B F4  
  have K5 : Keeps l.prog w K mg base 3 "holds" _ F_holds _ _ := ok_holds B F5 K4 K2 K3 
  have K6 : Keeps l.prog w K mg base 3 "greatest_paper" _ F_greatest_paper _ _ := ok_greatest_paper B F6 K2 K3 
  have K7 : Keeps l.prog w K mg base 1 "_law_draws" _ F_law_draws _ _ := ok_law_draws B F7  
  have K8 : Keeps l.prog w K mg base 1 "_law_next" _ F_law_next _ _ := ok_law_next B F8  
  have K9 : Keeps l.prog w K mg base 2 "_law_regions" _ F_law_regions _ _ := ok_law_regions B F9 K8 
  have K10 : Keeps l.prog w K mg base 2 "_law_span" _ F_law_span _ _ := ok_law_span B F10 K8 
  have K11 : Keeps l.prog w K mg base 3 "_law_row" _ F_law_row _ _ := ok_law_row B F11 K8 K10 
  have K12 : Keeps l.prog w K mg base 4 "_law_code" _ F_law_code _ _ := ok_law_code B F12 K9 K8 K11 
  have K13 : Keeps l.prog w K mg base 1 "_law_region" _ F_law_region _ _ := ok_law_region B F13  
  have K14 : Keeps l.prog w K mg base 2 "_law_behind" _ F_law_behind _ _ := ok_law_behind B F14 K13 
  have K15 : Keeps l.prog w K mg base 1 "_law_ways" _ F_law_ways _ _ := ok_law_ways B F15  
  have K16 : KeepsG l.prog w K mg base 3 "_law_greatest" _ F_law_greatest _ _ := ok_law_greatest B F16 K14 K15 
  have K17 : Keeps l.prog w K mg base 1 "_law_is_member" _ F_law_is_member _ _ := ok_law_is_member B F17  
  have K18 : Keeps l.prog w K mg base 3 "_law_holds" _ F_law_holds _ _ := ok_law_holds B F18 K17 K14 K15 
  have K19 : Keeps l.prog w K mg base 2 "_law_paper" _ F_law_paper _ _ := ok_law_paper B F19 K8 
  have K20 : Keeps l.prog w K mg base 1 "_law_plain" _ F_law_plain _ _ := ok_law_plain B F20  
  have K21 : KeepsG l.prog w K mg base 5 "law" _ F_law _ _ := ok_law B F21 K7 K12 K16 K6 K5 K8 K20 K15 K3 K14 K2 K19 K18 
  exact K21.ok.imp fun vs H Q E h => spLaw_sp law_true h
end My
open PySem PySem.W PyProof.Rows
set_option maxHeartbeats 0 in
theorem PySem.Challenge.cw_sameclock_k64_papers_that_hold_holds : PySem.Challenge.rw_sameclock_k64_papers_that_hold.Holds := by
  w_on; o_law; k_head; (case hw => w_witness2)
  k_fill
  refine Mi.walkG (l := PySem.Challenge.rw_sameclock_k64_papers_that_hold) (n := 63) (k := 5) (x := "script") (sp := Mi.spLaw) rfl (by decide) rfl ⟨rfl, by decide, by decide⟩ (fun w h Y => PySem.W.kIn_of Y) ?F (fun K H a ns hl ho hS => ⟨a, ns, rfl, hl, ho, hS, fun _ => rfl⟩)
  case F =>
    intro w mg fa h KX G hmg
    refine' My.top_mk KX G hmg ?a1 ?l1 ?c1 ?k1 ?a2 ?l2 ?c2 ?k2 ?a3 ?l3 ?c3 ?k3 ?a4 ?l4 ?c4 ?k4 ?a5 ?l5 ?c5 ?k5 ?a6 ?l6 ?c6 ?k6 ?a7 ?l7 ?c7 ?k7 ?a8 ?l8 ?c8 ?k8 ?a9 ?l9 ?c9 ?k9 ?a10 ?l10 ?c10 ?k10 ?a11 ?l11 ?c11 ?k11 ?a12 ?l12 ?c12 ?k12 ?a13 ?l13 ?c13 ?k13 ?a14 ?l14 ?c14 ?k14 ?a15 ?l15 ?c15 ?k15 ?a16 ?l16 ?c16 ?k16 ?a17 ?l17 ?c17 ?k17 ?a18 ?l18 ?c18 ?k18 ?a19 ?l19 ?c19 ?k19 ?a20 ?l20 ?c20 ?k20 ?a21 ?l21 ?c21 ?k21 ?z_tuple ?z_sorted ?z_all ?z_isinstance ?z_int ?z_bool ?z_zip ?z_len ?z_range ?z_list ?z_abs ?z_repr ?va0 ?va1 ?vl1 ?vz1 ?vv1
    (case a1 => k_is)
    (case l1 => k_is)
    (case c1 => k_is)
    (case k1 => k_is)
    (case a2 => k_is)
    (case l2 => k_is)
    (case c2 => k_is)
    (case k2 => k_is)
    (case a3 => k_is)
    (case l3 => k_is)
    (case c3 => k_is)
    (case k3 => k_is)
    (case a4 => k_is)
    (case l4 => k_is)
    (case c4 => k_is)
    (case k4 => k_is)
    (case a5 => k_is)
    (case l5 => k_is)
    (case c5 => k_is)
    (case k5 => k_is)
    (case a6 => k_is)
    (case l6 => k_is)
    (case c6 => k_is)
    (case k6 => k_is)
    (case a7 => k_is)
    (case l7 => k_is)
    (case c7 => k_is)
    (case k7 => k_is)
    (case a8 => k_is)
    (case l8 => k_is)
    (case c8 => k_is)
    (case k8 => k_is)
    (case a9 => k_is)
    (case l9 => k_is)
    (case c9 => k_is)
    (case k9 => k_is)
    (case a10 => k_is)
    (case l10 => k_is)
    (case c10 => k_is)
    (case k10 => k_is)
    (case a11 => k_is)
    (case l11 => k_is)
    (case c11 => k_is)
    (case k11 => k_is)
    (case a12 => k_is)
    (case l12 => k_is)
    (case c12 => k_is)
    (case k12 => k_is)
    (case a13 => k_is)
    (case l13 => k_is)
    (case c13 => k_is)
    (case k13 => k_is)
    (case a14 => k_is)
    (case l14 => k_is)
    (case c14 => k_is)
    (case k14 => k_is)
    (case a15 => k_is)
    (case l15 => k_is)
    (case c15 => k_is)
    (case k15 => k_is)
    (case a16 => k_is)
    (case l16 => k_is)
    (case c16 => k_is)
    (case k16 => k_is)
    (case a17 => k_is)
    (case l17 => k_is)
    (case c17 => k_is)
    (case k17 => k_is)
    (case a18 => k_is)
    (case l18 => k_is)
    (case c18 => k_is)
    (case k18 => k_is)
    (case a19 => k_is)
    (case l19 => k_is)
    (case c19 => k_is)
    (case k19 => k_is)
    (case a20 => k_is)
    (case l20 => k_is)
    (case c20 => k_is)
    (case k20 => k_is)
    (case a21 => k_is)
    (case l21 => k_is)
    (case c21 => k_is)
    (case k21 => k_is)
    (case z_tuple => k_is)
    (case z_sorted => k_is)
    (case z_all => k_is)
    (case z_isinstance => k_is)
    (case z_int => k_is)
    (case z_bool => k_is)
    (case z_zip => k_is)
    (case z_len => k_is)
    (case z_range => k_is)
    (case z_list => k_is)
    (case z_abs => k_is)
    (case z_repr => k_is)
    (case va0 => k_is)
    (case va1 => k_is)
    (case vl1 => k_is)
    (case vz1 => decide)
    (case vv1 => exact (.cons ⟨_, rfl⟩ (.cons ⟨_, rfl⟩ (.cons ⟨_, rfl⟩ (.cons ⟨_, rfl⟩ (.cons ⟨_, rfl⟩ (.cons ⟨_, rfl⟩ (.cons ⟨_, rfl⟩ (.cons ⟨_, rfl⟩ (.cons ⟨_, rfl⟩ (.cons ⟨_, rfl⟩ (.cons ⟨_, rfl⟩ (.cons ⟨_, rfl⟩ (.cons ⟨_, rfl⟩ (.cons ⟨_, rfl⟩ (.cons ⟨_, rfl⟩ (.cons ⟨_, rfl⟩ .nil)))))))))))))))))
