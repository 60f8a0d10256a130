import PyProof.Rows.All
import Wide.All
import OpenK.AllK
import Wide.FinOn
import KE.KStateDown
import HandS.ForMost
import HandS.Wide
import HandS.TupAny
import HandS.TupMul
import HandS.Zip
import HandS.Deep
import HandS.IsInst
import HandS.Style
import HandS.Defaults
import HandS.Head0
import HandS.Head1
import HandS.Head2
import HandS.HeadEnd
import HandS.HeadHook1
import HandS.HeadHook2
import KE.KDictZip
import HandS.Codes
import PySem.Challenge.RW_maystand_k03_whole_reduced_rows_form_a_g
import HandS.Base
import HandS.Call
import HandS.Ends
import HandS.More
import HandS.Words
import HandS.WordsExc
set_option Elab.async false
set_option linter.all false
set_option maxRecDepth 100000
namespace Lt
open PySem PySem.Spec PyProof.Rows L2

/-! ## data and stores -/
inductive D where
  | non | bl (b : Bool) | int (i : Int) | str (x : Str) | ref (a : Addr) | fn (x : Str) | tup (ds : List D) | rl (ds : List D)

/-- what is known of a mutable object -/
inductive C where
  | lst (ds : List D) | dic (kvs : List (Key × D)) | dit (kvs : List (List Key × D)) | ins (cn : Str) (fs : List (Str × D)) | deal

abbrev Sto := Addr → Option C
def sup (S : Sto) (a : Addr) (c : C) : Sto := fun b => if b = a then some c else S b
theorem sup_same {S : Sto} {a : Addr} {c : C} : sup S a c a = some c := by unfold sup; rw [if_pos rfl]
theorem sup_ne {S : Sto} {a b : Addr} {c : C} (h : b ≠ a) : sup S a c b = S b := by unfold sup; rw [if_neg h]
/-- less is known in S than in T -/
def Sub (S T : Sto) : Prop := ∀ a c, S a = some c → T a = some c
theorem Sub.refl {S : Sto} : Sub S S := fun _ _ h => h
theorem Sub.trans {S T U : Sto} (h : Sub S T) (k : Sub T U) : Sub S U := fun a c e => k a c (h a c e)
theorem Sub.sup {S T : Sto} {p : Addr} {c : C} (h : Sub S T) (hp : T p = none) : Sub S (sup T p c) := fun a d e => by
  have q := h a d e
  rw [sup_ne (fun z => by rw [z, hp] at q; cases q)]
  exact q
theorem Sub.none {S T : Sto} {p : Addr} (h : Sub S T) (hp : T p = none) : S p = none := by
  cases e : S p with
  | none => rfl
  | some c => rw [h _ _ e] at hp; cases hp

abbrev Env := List (Option D)
abbrev Kt := D → Sto → Prop
abbrev DE := Env → Sto → Kt → Prop
abbrev DT := Env → Sto → (Bool → Sto → Prop) → Prop
abbrev DA := Env → Sto → (List D → Sto → Prop) → Prop
structure DEnds where
  nx : Env → Sto → Prop
  rt : Kt
  bk : Env → Sto → Prop := fun _ _ => False
  ct : Env → Sto → Prop := fun _ _ => False
abbrev DS := DEnds → Env → Sto → Prop

/-- a list that never changes -/
def RoL (K : PySem.W.Frag) (H : Hp) (a : Addr) (xs : List V) : Prop :=
  (∃ o, H a = some (.frz o (.lst xs))) ∨
    ∃ (o : Obj) (its : Array Value) (n : Nat), K.lookup a = some o ∧ o.cls = .type "list" ∧ o.dict = none ∧ o.data = .seq its n ∧ its.size ≤ sizeLine ∧ Vals xs its.toList
theorem RoL.sql {K : PySem.W.Frag} {H : Hp} {a : Addr} {xs : List V} (h : RoL K H a xs) : SqL K H a xs := h.elim (fun z => .inl (.inr z)) .inr
/-- a tuple, of no dict -/
def TupS (K : PySem.W.Frag) (H : Hp) (a : Addr) (xs : List V) : Prop :=
  (∃ o, H a = some (.frz o (.tup xs)) ∧ o.dict = none) ∨
    ∃ (o : Obj) (its : Array Value) (n : Nat), K.lookup a = some o ∧ o.cls = .type "tuple" ∧ o.dict = none ∧ o.data = .seq its n ∧ its.size ≤ sizeLine ∧ Vals xs its.toList
theorem TupS.sqt {K : PySem.W.Frag} {H : Hp} {a : Addr} {xs : List V} (h : TupS K H a xs) : SqT K H a xs :=
  h.elim (fun ⟨o, z, _⟩ => .inl (.inr ⟨o, z⟩)) fun ⟨o, its, n, h1, h2, _, h3⟩ => .inr ⟨o, its, n, h1, h2, h3⟩
section
variable (K : PySem.W.Frag) (H : Hp)
mutual
def RelD : D → V → Prop
  | .non, v => v = .non
  | .bl b, v => v = .bl b
  | .int i, v => v = .int i
  | .str x, v => v = .str x
  | .ref a, v => v = .ref a
  | .fn x, v => v = .ref (He.ga K x)
  | .tup ds, v => ∃ a xs, v = .ref a ∧ TupS K H a xs ∧ xs.length ≤ sizeLine ∧ RelDs ds xs
  | .rl ds, v => ∃ a xs, v = .ref a ∧ RoL K H a xs ∧ xs.length ≤ sizeLine ∧ RelDs ds xs
def RelDs : List D → List V → Prop
  | [], xs => xs = []
  | d :: ds, xs => ∃ y ys, xs = y :: ys ∧ RelD d y ∧ RelDs ds ys
end
end

/-- from one abstract heap to a later one: the tuples stay, what is tracked stays tracked -/
structure Keep (H H' : Hp) : Prop where
  tup : ∀ a o xs, H a = some (.frz o (.tup xs)) → H' a = some (.frz o (.tup xs))
  rol : ∀ a o xs, H a = some (.frz o (.lst xs)) → H' a = some (.frz o (.lst xs))
  dom : ∀ a, H a ≠ none → H' a ≠ none
theorem Keep.refl (H : Hp) : Keep H H := ⟨fun _ _ _ h => h, fun _ _ _ h => h, fun _ h => h⟩
theorem Keep.trans {H H1 H2 : Hp} (a : Keep H H1) (b : Keep H1 H2) : Keep H H2 := ⟨fun c o xs h => b.tup c o xs (a.tup c o xs h), fun c o xs h => b.rol c o xs (a.rol c o xs h), fun c h => b.dom c (a.dom c h)⟩
theorem Keep.rl {K : PySem.W.Frag} {H H' : Hp} {a : Addr} {xs : List V} (k : Keep H H') (h : RoL K H a xs) : RoL K H' a xs := h.elim (fun ⟨o, z⟩ => .inl ⟨o, k.rol _ _ _ z⟩) .inr
theorem Keep.sqt {K : PySem.W.Frag} {H H' : Hp} {a : Addr} {xs : List V} (k : Keep H H') (h : TupS K H a xs) : TupS K H' a xs := h.elim (fun ⟨o, z, d⟩ => .inl ⟨o, k.tup _ _ _ z, d⟩) .inr
theorem Keep.new {H : Hp} {p : Addr} {o : HO} (hp : H p = none) : Keep H (upd H p o) where
  tup := fun a o xs h => by
    have n : a ≠ p := fun z => by
      subst z
      rw [hp] at h; cases h
    rw [upd_ne n]
    exact h
  rol := fun a o xs h => by
    have n : a ≠ p := fun z => by
      subst z
      rw [hp] at h; cases h
    rw [upd_ne n]
    exact h
  dom := fun a h => by
    by_cases e : a = p
    · subst e; rw [upd_same]; simp
    · rw [upd_ne e]; exact h
/-- nothing that is a tuple -/
def noTup : HO → Prop
  | .tup _ => False
  | .frz _ _ => False
  | _ => True
theorem Keep.put {H : Hp} {p : Addr} {o u : HO} (hp : H p = some u) (hu : noTup u) : Keep H (upd H p o) where
  tup := fun a o xs h => by
    have n : a ≠ p := fun z => by
      subst z
      rw [hp] at h; cases h; exact hu
    rw [upd_ne n]
    exact h
  rol := fun a o xs h => by
    have n : a ≠ p := fun z => by
      subst z
      rw [hp] at h; cases h; exact hu
    rw [upd_ne n]
    exact h
  dom := fun a h => by
    by_cases e : a = p
    · subst e; rw [upd_same]; simp
    · rw [upd_ne e]; exact h

section
variable {K : PySem.W.Frag} {H H' : Hp}
mutual
theorem RelD.keep (k : Keep H H') : ∀ {d : D} {v : V}, RelD K H d v → RelD K H' d v
  | .non, _, h => h
  | .bl _, _, h => h
  | .int _, _, h => h
  | .str _, _, h => h
  | .ref _, _, h => h
  | .fn _, _, h => h
  | .tup ds, v, h => by
    obtain ⟨a, xs, e, s, z, r⟩ := h
    exact ⟨a, xs, e, k.sqt s, z, RelDs.keep k r⟩
  | .rl ds, v, h => by
    obtain ⟨a, xs, e, s, z, r⟩ := h
    exact ⟨a, xs, e, k.rl s, z, RelDs.keep k r⟩
theorem RelDs.keep (k : Keep H H') : ∀ {ds : List D} {vs : List V}, RelDs K H ds vs → RelDs K H' ds vs
  | [], _, h => h
  | d :: ds, vs, h => by
    obtain ⟨y, ys, e, r, s⟩ := h
    exact ⟨y, ys, e, RelD.keep k r, RelDs.keep k s⟩
end
theorem RelDs.length : ∀ {ds : List D} {vs : List V}, RelDs K H ds vs → vs.length = ds.length
  | [], vs, h => by
    have e : vs = [] := h
    rw [e] <;> rfl
  | d :: ds, vs, h => by
    obtain ⟨y, ys, e, _, s⟩ := h
    rw [e, List.length_cons, List.length_cons, RelDs.length s]
theorem RelDs.get : ∀ {ds : List D} {vs : List V} {i : Nat} {d : D}, RelDs K H ds vs → ds[i]? = some d → ∃ v, vs[i]? = some v ∧ RelD K H d v
  | [], _, _, _, _, e => by simp at e
  | d :: ds, vs, 0, d', h, e => by
    obtain ⟨y, ys, ev, r, s⟩ := h
    simp at e
    subst e ev
    exact ⟨y, rfl, r⟩
  | d :: ds, vs, i + 1, d', h, e => by
    obtain ⟨y, ys, ev, r, s⟩ := h
    obtain ⟨v, e1, e2⟩ := RelDs.get (i := i) s (by simpa using e)
    subst ev
    exact ⟨v, by simpa using e1, e2⟩
theorem RelDs.getV : ∀ {ds : List D} {vs : List V} {i : Nat} {v : V}, RelDs K H ds vs → vs[i]? = some v → ∃ d, ds[i]? = some d ∧ RelD K H d v := fun {ds vs i v} h e => by
  have l := h.length
  have hi : i < ds.length := by
    have := (List.getElem?_eq_some_iff.mp e).1
    omega
  obtain ⟨v', e1, r⟩ := h.get (List.getElem?_eq_getElem hi)
  rw [e] at e1
  cases e1
  exact ⟨_, List.getElem?_eq_getElem hi, r⟩
theorem RelDs.append : ∀ {ds es : List D} {vs us : List V}, RelDs K H ds vs → RelDs K H es us → RelDs K H (ds ++ es) (vs ++ us)
  | [], _, _, _, h, s => by rw [show _ = [] from h]; exact s
  | d :: ds, es, vs, us, h, s => by
    obtain ⟨y, ys, e, r, t⟩ := h
    subst e
    exact ⟨y, ys ++ us, rfl, r, RelDs.append t s⟩
theorem RelDs.snoc {ds : List D} {vs : List V} {d : D} {v : V} (h : RelDs K H ds vs) (r : RelD K H d v) : RelDs K H (ds ++ [d]) (vs ++ [v]) := h.append ⟨v, [], rfl, r, rfl⟩
theorem RelDs.take : ∀ {ds : List D} {vs : List V} (n : Nat), RelDs K H ds vs → RelDs K H (ds.take n) (vs.take n)
  | _, _, 0, _ => by simp [RelDs]
  | [], _, n + 1, h => by rw [show _ = [] from h]; simp [RelDs]
  | d :: ds, vs, n + 1, h => by
    obtain ⟨y, ys, e, r, t⟩ := h
    subst e
    exact ⟨y, ys.take n, rfl, r, RelDs.take n t⟩
theorem RelDs.drop : ∀ {ds : List D} {vs : List V} (n : Nat), RelDs K H ds vs → RelDs K H (ds.drop n) (vs.drop n)
  | _, _, 0, h => h
  | [], _, n + 1, h => by rw [show _ = [] from h]; simp [RelDs]
  | d :: ds, vs, n + 1, h => by
    obtain ⟨y, ys, e, r, t⟩ := h
    subst e
    exact RelDs.drop n t
theorem RelDs.set : ∀ {ds : List D} {vs : List V} {d : D} {v : V} (i : Nat), RelDs K H ds vs → RelD K H d v → RelDs K H (ds.set i d) (vs.set i v)
  | [], _, _, _, _, h, _ => by rw [show _ = [] from h]; simp [RelDs]
  | d :: ds, vs, _, _, 0, h, r' => by
    obtain ⟨y, ys, e, r, t⟩ := h
    subst e
    exact ⟨_, _, rfl, r', t⟩
  | d :: ds, vs, _, _, i + 1, h, r' => by
    obtain ⟨y, ys, e, r, t⟩ := h
    subst e
    exact ⟨_, _, rfl, r, RelDs.set i t r'⟩
theorem RelDs.eraseIdx : ∀ {ds : List D} {vs : List V} (i : Nat), RelDs K H ds vs → RelDs K H (ds.eraseIdx i) (vs.eraseIdx i)
  | [], _, _, h => by rw [show _ = [] from h]; simp [RelDs]
  | d :: ds, vs, 0, h => by
    obtain ⟨y, ys, e, r, t⟩ := h
    subst e
    exact t
  | d :: ds, vs, i + 1, h => by
    obtain ⟨y, ys, e, r, t⟩ := h
    subst e
    exact ⟨_, _, rfl, r, RelDs.eraseIdx i t⟩
theorem RelDs.reverse : ∀ {ds : List D} {vs : List V}, RelDs K H ds vs → RelDs K H ds.reverse vs.reverse
  | [], _, h => by rw [show _ = [] from h]; simp [RelDs]
  | d :: ds, vs, h => by
    obtain ⟨y, ys, e, r, t⟩ := h
    subst e
    rw [List.reverse_cons, List.reverse_cons]
    exact (RelDs.reverse t).snoc r
theorem RelDs.dropLast {ds : List D} {vs : List V} (h : RelDs K H ds vs) : RelDs K H ds.dropLast vs.dropLast := by
  rw [List.dropLast_eq_take, List.dropLast_eq_take, h.length]
  exact h.take _
theorem RelDs.ints : ∀ {ns : List Int}, RelDs K H (ns.map D.int) (ns.map V.int)
  | [] => rfl
  | n :: ns => ⟨_, _, rfl, rfl, RelDs.ints⟩
theorem RelDs.flat {α : Type} {f : α → D} {g : α → V} (hfg : ∀ x, RelD K H (f x) (g x)) : ∀ {xs : List α}, RelDs K H (xs.map f) (xs.map g)
  | [] => rfl
  | x :: xs => ⟨_, _, rfl, hfg x, RelDs.flat hfg⟩
theorem RelDs.ofInts : ∀ {ns : List Int} {vs : List V}, RelDs K H (ns.map D.int) vs → vs = ns.map V.int
  | [], _, h => h
  | n :: ns, vs, h => by
    obtain ⟨y, ys, e, r, t⟩ := h
    rw [e, show y = _ from r, RelDs.ofInts t] <;> rfl
theorem RelDs.ofStrs : ∀ {ns : List Str} {vs : List V}, RelDs K H (ns.map D.str) vs → vs = ns.map V.str
  | [], _, h => h
  | n :: ns, vs, h => by
    obtain ⟨y, ys, e, r, t⟩ := h
    rw [e, show y = _ from r, RelDs.ofStrs t] <;> rfl
end

def RelKV {κ : Type} (K : PySem.W.Frag) (H : Hp) (ds : List (κ × D)) (vs : List (κ × V)) : Prop := vs.map (·.1) = ds.map (·.1) ∧ RelDs K H (ds.map (·.2)) (vs.map (·.2))
theorem RelKV.keep {κ : Type} {K : PySem.W.Frag} {H H' : Hp} {ds : List (κ × D)} {vs : List (κ × V)} (k : Keep H H') (h : RelKV K H ds vs) : RelKV K H' ds vs := ⟨h.1, h.2.keep k⟩

/-- the law's deal: a list of two, the cells and the mix -/
def DealAt (H : Hp) (a b : Addr) : Prop := ∃ (m : Int) (ns : List Int), H a = some (.lst [.ref b, .int m]) ∧ H b = some (.lst (ns.map V.int)) ∧ (0 ≤ m ∧ m < 2147483647) ∧ ns.length ≤ 1000 ∧ (∀ n ∈ ns, 0 ≤ n ∧ n < 2 ^ 1300) ∧ a ≠ b

def CellOk (K : PySem.W.Frag) (H : Hp) (a : Addr) : C → Prop
  | .lst ds => ∃ xs, H a = some (.lst xs) ∧ RelDs K H ds xs ∧ xs.length ≤ sizeLine
  | .dic kvs => ∃ ks, H a = some (.dK ks) ∧ RelKV K H kvs ks
  | .dit kvs => ∃ ks, H a = some (.dT ks) ∧ RelKV K H kvs ks
  | .ins cn fs => ∃ dx ys, H a = some (.ins (He.ga K cn) dx ys) ∧ RelKV K H fs ys
  | .deal => H a ≠ none

structure RS (K : PySem.W.Frag) (H : Hp) (S : Sto) : Prop where
  ok : ∀ a c, S a = some c → CellOk K H a c
  hid : ∃ hid : Addr → Addr, (∀ a, S a = some .deal → DealAt H a (hid a) ∧ S (hid a) = none) ∧ ∀ a b, S a = some .deal → S b = some .deal → hid a = hid b → a = b

theorem CellOk.keep {K : PySem.W.Frag} {H H' : Hp} {a : Addr} {c : C} (k : Keep H H') (e : H' a = H a) (h : CellOk K H a c) : CellOk K H' a c := by
  cases c with
  | lst ds => obtain ⟨xs, h1, h2, h3⟩ := h; exact ⟨xs, by rw [e]; exact h1, h2.keep k, h3⟩
  | dic kvs => obtain ⟨ks, h1, h2⟩ := h; exact ⟨ks, by rw [e]; exact h1, h2.keep k⟩
  | dit kvs => obtain ⟨ks, h1, h2⟩ := h; exact ⟨ks, by rw [e]; exact h1, h2.keep k⟩
  | ins cn fs => obtain ⟨dx, ys, h1, h2⟩ := h; exact ⟨dx, ys, by rw [e]; exact h1, h2.keep k⟩
  | deal => exact k.dom a h

/-- less is known -/
theorem RS.sub {K : PySem.W.Frag} {H : Hp} {S T : Sto} (h : RS K H T) (s : Sub S T) : RS K H S := by
  obtain ⟨hid, h1, h2⟩ := h.hid
  refine ⟨fun a c e => h.ok a c (s a c e), hid, fun a e => ?_, fun a b ea eb => h2 a b (s _ _ ea) (s _ _ eb)⟩
  obtain ⟨q1, q2⟩ := h1 a (s _ _ e)
  exact ⟨q1, s.none q2⟩
theorem RS.step {K : PySem.W.Frag} {H H' : Hp} {S S' : Sto} (h : RS K H S) (k : Keep H H') (un : ∀ b, S b = none → H b ≠ none → H' b = H b)
    (hc : ∀ b c, S' b = some c → (S b = some c ∧ H' b = H b) ∨ (c ≠ .deal ∧ CellOk K H' b c ∧ (S b ≠ none ∨ H b = none))) : RS K H' S' := by
  obtain ⟨hid, h1, h2⟩ := h.hid
  have old : ∀ a, S' a = some .deal → S a = some .deal ∧ H' a = H a := fun a e => by
    rcases hc a _ e with q | ⟨q, _⟩
    · exact q
    · exact absurd rfl q
  refine ⟨fun a c e => ?_, hid, fun a e => ?_, fun a b ea eb => h2 a b (old a ea).1 (old b eb).1⟩
  · rcases hc a c e with ⟨q1, q2⟩ | ⟨_, q, _⟩
    · exact (h.ok a c q1).keep k q2
    · exact q
  · obtain ⟨o1, o2⟩ := old a e
    obtain ⟨⟨m, ns, d1, d2, d3⟩, q2⟩ := h1 a o1
    have hh : H (hid a) ≠ none := by rw [d2]; simp
    refine ⟨⟨m, ns, by rw [o2]; exact d1, by rw [un _ q2 hh]; exact d2, d3⟩, ?_⟩
    cases z : S' (hid a) with
    | none => rfl
    | some c =>
      rcases hc _ _ z with ⟨q, _⟩ | ⟨_, _, q | q⟩
      · rw [q2] at q; cases q
      · exact absurd q2 q
      · exact absurd q hh
/-- what is tracked stands in the heap -/
theorem RS.dom {K : PySem.W.Frag} {H : Hp} {S : Sto} {a : Addr} {c : C} (h : RS K H S) (e : S a = some c) : H a ≠ none := by
  have q := h.ok _ _ e
  intro hp
  cases c with
  | lst => obtain ⟨_, q, _⟩ := q; rw [hp] at q; cases q
  | dic => obtain ⟨_, q, _⟩ := q; rw [hp] at q; cases q
  | dit => obtain ⟨_, q, _⟩ := q; rw [hp] at q; cases q
  | ins => obtain ⟨_, _, q, _⟩ := q; rw [hp] at q; cases q
  | deal => exact q hp
theorem RS.free {K : PySem.W.Frag} {H : Hp} {S : Sto} {p : Addr} (h : RS K H S) (hp : H p = none) : S p = none := by
  cases e : S p with
  | none => rfl
  | some c => exact absurd hp (h.dom e)
theorem RS.same {K : PySem.W.Frag} {H H' : Hp} {S : Sto} {a p : Addr} {c : C} (h : RS K H S) (k : Keep H H') (hp : H p = none) (he : ∀ b, b ≠ p → H' b = H b) (e : S a = some c) :
    (S a = some c ∧ H' a = H a) ∨ (c ≠ .deal ∧ CellOk K H' a c ∧ (S a ≠ none ∨ H a = none)) :=
  .inl ⟨e, he a fun z => h.dom e (z ▸ hp)⟩
/-- a new object, not told of -/
theorem RS.lay {K : PySem.W.Frag} {H : Hp} {S : Sto} {p : Addr} {o : HO} (h : RS K H S) (hp : H p = none) : RS K (upd H p o) S :=
  h.step (.new hp) (fun b _ q => upd_ne fun z => q (z ▸ hp)) fun _ _ e => h.same (.new hp) hp (fun _ n => upd_ne n) e
/-- a new object, told of -/
theorem RS.new {K : PySem.W.Frag} {H : Hp} {S : Sto} {p : Addr} {o : HO} {c : C} (h : RS K H S) (hp : H p = none) (hd : c ≠ .deal) (hc : CellOk K (upd H p o) p c) : RS K (upd H p o) (sup S p c) :=
  h.step (.new hp) (fun b _ q => upd_ne fun z => q (z ▸ hp)) fun b d e => by
    by_cases hb : b = p
    · subst hb
      rw [sup_same] at e
      cases e
      exact .inr ⟨hd, hc, .inr hp⟩
    · rw [sup_ne hb] at e
      exact h.same (.new hp) hp (fun _ n => upd_ne n) e
/-- an object changed -/
theorem RS.put {K : PySem.W.Frag} {H : Hp} {S : Sto} {p : Addr} {o u : HO} {c d : C} (h : RS K H S) (hp : H p = some u) (hu : noTup u) (hs : S p = some d) (hd : c ≠ .deal) (hc : CellOk K (upd H p o) p c) : RS K (upd H p o) (sup S p c) :=
  h.step (.put hp hu) (fun b q _ => upd_ne fun z => by subst z; rw [hs] at q; cases q) fun b e q => by
    by_cases hb : b = p
    · subst hb
      rw [sup_same] at q
      cases q
      exact .inr ⟨hd, hc, .inl (by rw [hs]; simp)⟩
    · rw [sup_ne hb] at q
      exact .inl ⟨q, upd_ne hb⟩

/-- the slots -/
structure RelEnv (K : PySem.W.Frag) (H : Hp) (σ : L2.St) (ρ : Env) : Prop where
  len : ρ.length ≤ σ.length
  get : ∀ (i : Nat) (d : D), ρ[i]? = some (some d) → ∃ v, σ[i]? = some (some v) ∧ RelD K H d v
theorem RelEnv.keep {K : PySem.W.Frag} {H H' : Hp} {σ : L2.St} {ρ : Env} (k : Keep H H') (h : RelEnv K H σ ρ) : RelEnv K H' σ ρ :=
  ⟨h.len, fun i d e => let ⟨v, e1, r⟩ := h.get i d e; ⟨v, e1, r.keep k⟩⟩
theorem RelEnv.set {K : PySem.W.Frag} {H : Hp} {σ : L2.St} {ρ : Env} {d : D} {v : V} (i : Nat) (h : RelEnv K H σ ρ) (r : RelD K H d v) : RelEnv K H (σ.set i (some v)) (ρ.set i (some d)) := by
  refine ⟨by rw [List.length_set, List.length_set]; exact h.len, fun j e q => ?_⟩
  by_cases hj : i = j
  · subst hj
    have hl : i < ρ.length := by
      have := (List.getElem?_eq_some_iff.mp q).1
      rw [List.length_set] at this
      exact this
    rw [List.getElem?_set_self hl] at q
    cases q
    exact ⟨v, List.getElem?_set_self (Nat.lt_of_lt_of_le hl h.len), r⟩
  · rw [List.getElem?_set_ne hj] at q
    rw [List.getElem?_set_ne hj]
    exact h.get j e q

/-- what may be told anew was free -/
def Ext (H : Hp) (S S' : Sto) : Prop := ∀ a, S' a ≠ none → S a ≠ none ∨ H a = none
theorem Ext.refl {H : Hp} {S : Sto} : Ext H S S := fun _ h => .inl h
theorem Ext.sub {H : Hp} {S S' : Sto} (h : Sub S' S) : Ext H S S' := fun a q => .inl fun z => q (h.none z)
theorem Ext.trans {H H1 : Hp} {S S1 S2 : Sto} (k : Keep H H1) (a : Ext H S S1) (b : Ext H1 S1 S2) : Ext H S S2 := fun c h => by
  rcases b c h with q | q
  · exact a c q
  · refine .inr ?_
    cases z : H c with
    | none => rfl
    | some u => exact absurd q (k.dom c (by rw [z]; simp))
theorem Ext.new {H : Hp} {S : Sto} {p : Addr} {c : C} (hp : H p = none) : Ext H S (sup S p c) := fun a h => by
  by_cases e : a = p
  · subst e; exact .inr hp
  · rw [sup_ne e] at h; exact .inl h
theorem Ext.put {H : Hp} {S : Sto} {p : Addr} {c d : C} (hp : S p = some d) : Ext H S (sup S p c) := fun a h => by
  by_cases e : a = p
  · subst e; exact .inl (by rw [hp]; simp)
  · rw [sup_ne e] at h; exact .inl h
theorem Ext.less {H : Hp} {S S1 S2 : Sto} (a : Ext H S S1) (h : Sub S2 S1) : Ext H S S2 := fun b q => a b fun z => q (h.none z)

/-! ## what data transformers say of the layer's readings -/
section
variable (K : PySem.W.Frag)
def Post (H : Hp) (S : Sto) (Kd : Kt) (Q : VK) : Prop := ∀ d S' v H', Kd d S' → Keep H H' → Ext H S S' → RS K H' S' → RelD K H' d v → Q v H'
def PostT (H : Hp) (S : Sto) (Kd : Bool → Sto → Prop) (Q : Bool → Hp → Prop) : Prop := ∀ b S' H', Kd b S' → Keep H H' → Ext H S S' → RS K H' S' → Q b H'
def PostA (H : Hp) (S : Sto) (Kd : List D → Sto → Prop) (Q : List V → Hp → Prop) : Prop := ∀ ds S' vs H', Kd ds S' → Keep H H' → Ext H S S' → RS K H' S' → RelDs K H' ds vs → Q vs H'
def PostN (H : Hp) (S : Sto) (Kd : Env → Sto → Prop) (Q : L2.St → Hp → Prop) : Prop := ∀ ρ S' σ H', Kd ρ S' → Keep H H' → Ext H S S' → RS K H' S' → RelEnv K H' σ ρ → Q σ H'
structure PostS (H : Hp) (S : Sto) (Kd : DEnds) (Q : Ends) : Prop where
  nx : PostN K H S Kd.nx Q.nx
  rt : Post K H S Kd.rt Q.rt
  bk : PostN K H S Kd.bk Q.bk
  ct : PostN K H S Kd.ct Q.ct
def LiftE (t : DE) : TE := fun σ H Q => ∃ ρ S Kd, RelEnv K H σ ρ ∧ RS K H S ∧ t ρ S Kd ∧ Post K H S Kd Q
def LiftT (t : DT) : TT := fun σ H Q => ∃ ρ S Kd, RelEnv K H σ ρ ∧ RS K H S ∧ t ρ S Kd ∧ PostT K H S Kd Q
def LiftA (t : DA) : TA := fun σ H Q => ∃ ρ S Kd, RelEnv K H σ ρ ∧ RS K H S ∧ t ρ S Kd ∧ PostA K H S Kd Q
def LiftS (t : DS) : TS := fun D σ H => ∃ ρ S Kd, RelEnv K H σ ρ ∧ RS K H S ∧ t Kd ρ S ∧ PostS K H S Kd D
end
section
variable {K : PySem.W.Frag} {H H1 : Hp} {S S1 : Sto}
theorem Post.go {Kd : Kt} {Q : VK} (p : Post K H S Kd Q) (k : Keep H H1) (e : Ext H S S1) : Post K H1 S1 Kd Q := fun d S' v H' q k' e' r rd => p d S' v H' q (k.trans k') (e.trans k e') r rd
theorem PostT.go {Kd : Bool → Sto → Prop} {Q : Bool → Hp → Prop} (p : PostT K H S Kd Q) (k : Keep H H1) (e : Ext H S S1) : PostT K H1 S1 Kd Q := fun d S' H' q k' e' r => p d S' H' q (k.trans k') (e.trans k e') r
theorem PostA.go {Kd : List D → Sto → Prop} {Q : List V → Hp → Prop} (p : PostA K H S Kd Q) (k : Keep H H1) (e : Ext H S S1) : PostA K H1 S1 Kd Q := fun d S' v H' q k' e' r rd => p d S' v H' q (k.trans k') (e.trans k e') r rd
theorem PostN.go {Kd : Env → Sto → Prop} {Q : L2.St → Hp → Prop} (p : PostN K H S Kd Q) (k : Keep H H1) (e : Ext H S S1) : PostN K H1 S1 Kd Q := fun d S' v H' q k' e' r rd => p d S' v H' q (k.trans k') (e.trans k e') r rd
theorem PostS.go {Kd : DEnds} {Q : Ends} (p : PostS K H S Kd Q) (k : Keep H H1) (e : Ext H S S1) : PostS K H1 S1 Kd Q := ⟨p.nx.go k e, p.rt.go k e, p.bk.go k e, p.ct.go k e⟩
end

abbrev PDE (X : Cx) (e : Expr) (t : DE) : Prop := PE X e (LiftE X.K t)
abbrev PDT (X : Cx) (e : Expr) (t : DT) : Prop := PT X e (LiftT X.K t)
abbrev PDW (X : Cx) (e : Expr) (t : DT) : Prop := PW X e (LiftT X.K t)
abbrev PDA (X : Cx) (es : List Expr) (t : DA) : Prop := PA X es (LiftA X.K t)
abbrev PDS (X : Cx) (st : Stmt) (t : DS) : Prop := PS X st (LiftS X.K t)
abbrev PDSs (X : Cx) (st : List Stmt) (t : DS) : Prop := PSs X st (LiftS X.K t)
theorem peI {X : Cx} {e : Expr} {t t' : TE} (h : PE X e t) (i : ∀ σ H Q, t' σ H Q → t σ H Q) : PE X e t' := ⟨fun pins s σ H Q I q => h.run pins s σ H Q I (i _ _ _ q)⟩
theorem ptI {X : Cx} {e : Expr} {t t' : TT} (h : PT X e t) (i : ∀ σ H Q, t' σ H Q → t σ H Q) : PT X e t' := ⟨fun pins s σ H Q I q => h.run pins s σ H Q I (i _ _ _ q)⟩
theorem pwI {X : Cx} {e : Expr} {t t' : TT} (h : PW X e t) (i : ∀ σ H Q, t' σ H Q → t σ H Q) : PW X e t' := ⟨fun w pins s σ H Q I q => h.run w pins s σ H Q I (i _ _ _ q)⟩
theorem paI {X : Cx} {e : List Expr} {t t' : TA} (h : PA X e t) (i : ∀ σ H Q, t' σ H Q → t σ H Q) : PA X e t' := ⟨fun p pins s σ H Q I q => h.run p pins s σ H Q I (i _ _ _ q)⟩
theorem psI {X : Cx} {e : Stmt} {t t' : TS} (h : PS X e t) (i : ∀ D σ H, t' D σ H → t D σ H) : PS X e t' := ⟨fun pins s σ H Q I q => h.run pins s σ H Q I (i _ _ _ q)⟩
theorem pssI {X : Cx} {e : List Stmt} {t t' : TS} (h : PSs X e t) (i : ∀ D σ H, t' D σ H → t D σ H) : PSs X e t' := ⟨fun pins s σ H Q I q => h.run pins s σ H Q I (i _ _ _ q)⟩
end Lt

set_option Elab.async false
set_option linter.all false
set_option maxRecDepth 100000
namespace Lt
open PySem PySem.Spec PyProof.Rows L2

/-! ## the little language -/
inductive BOp where | add | sub | mul | fdiv | mod | pow | shl | shr | band | bor | bxor
  deriving DecidableEq
inductive COp where | eq | ne | lt | le | gt | ge | is_ | isnot | in_ | notin
  deriving DecidableEq
/-- built-in functions, methods, types -/
inductive BF where | len | tuple | list | int | abs | max | min | sum | set | sorted
  deriving DecidableEq
inductive BM where | append | pop | count | join | get | items | keys | values
  deriving DecidableEq
inductive TY where | int | bool | str | tup | lst | dict | cls (cn : Str)
  deriving DecidableEq
mutual
/-- targets: a slot; a tuple of targets -/
inductive LT where | name (i : Nat) | tup (ts : LTs)
inductive LTs where | nil | cons (t : LT) (ts : LTs)
end
mutual
inductive LE where
  | var (i : Nat) | int (i : Int) | bl (b : Bool) | non | str (x : Str) | glo (x : Str)
  | tup (es : LEs) | lst (es : LEs) | dic0
  | bin (op : BOp) (a b : LE) | neg (a : LE) | inv (a : LE)
  | cmp (op : COp) (a b : LE) | chain (op op' : COp) (a b c : LE)
  | one (a : LE) | and (a b : LE) | or (a b : LE) | not (a : LE)
  | ite (c : LB) (a b : LE)
  | idx (a i : LE) | slc (a : LE) (lo hi : LO) | rev (a : LE)
  | call (f : Str) (es : LEs) | callk (f : Str) (es : LEs) (ks : List Str) (vs : LEs)
  | bcall (f : BF) (es : LEs) | lof (it : LI) | tof (it : LI) | lzip (a b : LE)
  | bm (m : BM) (o : LE) (es : LEs)
  | isi (a : LE) (ts : List TY)
  | fld (o : LE) (f : Str) | mk (cn : Str) (es : LEs) | meth (m : Str) (o : LE) (es : LEs)
  | comp (elt : LE) (t : LT) (it : LI) (ifs : LBO) (own : List (Str × Nat))
inductive LB where | val (e : LE) | tru (e : LE) | not (a : LB) | and (a b : LB) | or (a b : LB) | last (a : LB)
inductive LO where | none | some (e : LE)
inductive LBO where | none | some (b : LB)
inductive LEs where | nil | cons (e : LE) (es : LEs)
/-- what is walked -/
inductive LI where | ex (e : LE) | rng1 (a : LE) | rng2 (a b : LE) | zip (a b : LE) | enum (a : LE)
end
mutual
inductive LS where
  | asg (t : LT) (e : LE) | par (is : List Nat) (es : LEs) | sub (o i e : LE) | fld (o : LE) (f : Str) (e : LE)
  | aug (i : Nat) (op : BOp) (e : LE) | ex (e : LE) | ret (e : LE) | retN
  | ite (c : LB) (a b : LSs) | for_ (t : LT) (it : LI) (body : LSs) | whl (c : LB) (body : LSs) | brk | cont | pass | never
inductive LSs where | nil | cons (s : LS) (ss : LSs)
end

/-! ## its meaning over data -/
def putR (ρ : Env) (i : Nat) (d : D) : Env := ρ.set i (some d)
mutual
def LT.bind : LT → D → Env → Option Env
  | .name i, d, ρ => some (putR ρ i d)
  | .tup ts, .tup ds, ρ => LTs.bind ts ds ρ
  | .tup _, _, _ => none
def LTs.bind : LTs → List D → Env → Option Env
  | .nil, [], ρ => some ρ
  | .cons t ts, d :: ds, ρ => match LT.bind t d ρ with
    | some ρ1 => LTs.bind ts ds ρ1
    | none => none
  | .nil, _ :: _, _ => none
  | .cons _ _, [], _ => none
end
def pars : List Nat → List D → Env → Option Env
  | [], [], ρ => some ρ
  | i :: is, d :: ds, ρ => pars is ds (putR ρ i d)
  | _, _, _ => none

mutual
/-- data without references -/
def pd : D → Option PyData
  | .non => some .none
  | .bl b => some (.bool b)
  | .int i => some (.int i)
  | .str x => some (.str x)
  | .ref _ => none
  | .fn _ => none
  | .tup ds => match pds ds with
    | some xs => some (.tuple xs)
    | none => none
  | .rl ds => match pds ds with
    | some xs => some (.list xs)
    | none => none
def pds : List D → Option (List PyData)
  | [] => some []
  | d :: ds => match pd d, pds ds with
    | some x, some xs => some (x :: xs)
    | _, _ => none
end
def pdT (S : Sto) : D → Option PyData
  | .ref a => match S a with
    | some (.lst ds) => (pds ds).map PyData.list
    | _ => none
  | d => pd d

/-- flat values, compared as Python does -/
def flatD : D → Bool
  | .non => true | .bl _ => true | .int _ => true | .str _ => true
  | _ => false
def eqF : D → D → Bool
  | .non, .non => true
  | .bl a, .bl b => a == b
  | .bl a, .int j => (if a then 1 else 0) == j
  | .int i, .bl b => i == (if b then 1 else 0)
  | .int i, .int j => i == j
  | .str x, .str y => x == y
  | _, _ => false

def cutD (xs : List D) (lo hi : Option Int) : List D := (xs.drop (HT.sIx xs.length 0 lo)).take (HT.sIx xs.length xs.length hi - HT.sIx xs.length 0 lo)
def newL (xs : List D) (S : Sto) (K : Kt) : Prop := ∀ p, S p = none → K (.ref p) (sup S p (.lst xs))

def binD : BOp → D → D → Sto → Kt → Prop
  | .add, .int i, .int j, S, K => K (.int (i + j)) S
  | .add, .str a, .str b, S, K => a.length + b.length ≤ sizeLine ∧ K (.str (a ++ b)) S
  | .add, .tup a, .tup b, S, K => a.length + b.length ≤ sizeLine ∧ K (.tup (a ++ b)) S
  | .add, .ref p, .ref q, S, K => match S p, S q with
    | some (.lst a), some (.lst b) => a.length + b.length ≤ sizeLine ∧ newL (a ++ b) S K
    | _, _ => False
  | .sub, .int i, .int j, S, K => K (.int (i - j)) S
  | .mul, .int i, .int j, S, K => CMulW i j ∧ K (.int (i * j)) S
  | .mul, .tup a, .int k, S, K => (-1000000000 ≤ k ∧ k ≤ 1000000000 ∧ a.length * k.toNat ≤ 1000000) ∧ K (.tup (List.replicate k.toNat a).flatten) S
  | .fdiv, .int i, .int j, S, K => CDivW i j ∧ K (.int (i / j)) S
  | .mod, .int i, .int j, S, K => 0 < j ∧ K (.int (i % j)) S
  | .pow, .int i, .int j, S, K => CPow i j ∧ K (.int (i ^ j.toNat)) S
  | .shl, .int i, .int j, S, K => CPow i j ∧ K (.int (i * 2 ^ j.toNat)) S
  | .shr, .int i, .int j, S, K => 0 ≤ j ∧ K (.int (i / 2 ^ j.toNat)) S
  | .band, .int i, .int j, S, K => K (.int (Builtin.bitAnd i j)) S
  | .bor, .int i, .int j, S, K => K (.int (Builtin.bitOr i j)) S
  | .bxor, .int i, .int j, S, K => K (.int (Builtin.bitXor i j)) S
  | _, _, _, _, _ => False

def isNonD : D → Bool
  | .non => true
  | _ => false
def isBlD (b : Bool) : D → Bool
  | .bl c => b == c
  | _ => false
/-- whether two data are equal, where that is told -/
def eqD (x y : D) (S : Sto) (K : Bool → Prop) : Prop := match x, y with
  | .int i, .int j => K (decide (i = j))
  | .str i, .str j => K (decide (i = j))
  | .bl i, .bl j => K (decide (i = j))
  | x, y => match pdT S x, pdT S y with
    | some d, some e => SeqAt.shaped d = true ∧ SeqAt.shaped e = true ∧ K (PyData.eqv d e)
    | _, _ => False
def inD (x y : D) (S : Sto) (K : Bool → Prop) : Prop := match y with
  | .tup ds => flatD x = true ∧ ds.all flatD = true ∧ K (ds.any fun z => eqF z x)
  | .rl ds => flatD x = true ∧ ds.all flatD = true ∧ K (ds.any fun z => eqF z x)
  | .ref a => match S a with
    | some (.lst ds) => flatD x = true ∧ ds.all flatD = true ∧ K (ds.any fun z => eqF z x)
    | _ => False
  | _ => False
def cmpD : COp → D → D → Sto → Kt → Prop
  | .eq, x, y, S, K => eqD x y S fun b => K (.bl b) S
  | .ne, x, y, S, K => eqD x y S fun b => K (.bl (!b)) S
  | .lt, .int i, .int j, S, K => K (.bl (decide (i < j))) S
  | .le, .int i, .int j, S, K => K (.bl (decide (i ≤ j))) S
  | .gt, .int i, .int j, S, K => K (.bl (decide (j < i))) S
  | .ge, .int i, .int j, S, K => K (.bl (decide (j ≤ i))) S
  | .is_, x, .non, S, K => K (.bl (isNonD x)) S
  | .isnot, x, .non, S, K => K (.bl (!isNonD x)) S
  | .is_, x, .bl b, S, K => K (.bl (isBlD b x)) S
  | .isnot, x, .bl b, S, K => K (.bl (!isBlD b x)) S
  | .in_, x, y, S, K => inD x y S fun b => K (.bl b) S
  | .notin, x, y, S, K => inD x y S fun b => K (.bl (!b)) S
  | _, _, _, _, _ => False

def idxD (x i : D) (S : Sto) (K : Kt) : Prop := match x, i with
  | .tup ds, .int i => match atI ds i with
    | some d => K d S
    | none => False
  | .ref a, .int i => match S a with
    | some (.lst ds) => (match atI ds i with
      | some d => K d S
      | none => False)
    | _ => False
  | .rl ds, .int i => match atI ds i with
    | some d => K d S
    | none => False
  | _, _ => False
def slcD (x : D) (l h : Option Int) (S : Sto) (K : Kt) : Prop := match x with
  | .tup ds => K (.tup (cutD ds l h)) S
  | .ref a => (match S a with
    | some (.lst ds) => newL (cutD ds l h) S K
    | _ => False)
  | .rl ds => newL (cutD ds l h) S K
  | .str z => z.length ≤ sizeLine ∧ K (.str (cutS z l h)) S
  | _ => False
def revD (x : D) (S : Sto) (K : Kt) : Prop := match x with
  | .tup ds => K (.tup ds.reverse) S
  | .ref a => match S a with
    | some (.lst ds) => newL ds.reverse S K
    | _ => False
  | .rl ds => newL ds.reverse S K
  | _ => False
def truD (x : D) (S : Sto) (K : Bool → Prop) : Prop := match x with
  | .bl b => K b
  | .non => K false
  | .int i => K (i != 0)
  | .tup ds => K (!ds.isEmpty)
  | .ref a => match S a with
    | some (.lst ds) => K (!ds.isEmpty)
    | _ => False
  | _ => False
def ints? : List D → Option (List Int)
  | [] => some []
  | .int i :: r => (ints? r).map (i :: ·)
  | _ => none
def lenD (args : List D) (S : Sto) (K : Kt) : Prop := match args with
  | [.tup ds] => K (.int ds.length) S
  | [.str z] => z.length ≤ sizeLine ∧ K (.int z.length) S
  | [.ref a] => (match S a with
    | some (.lst ds) => K (.int ds.length) S
    | _ => False)
  | [.rl ds] => K (.int ds.length) S
  | _ => False
def tupleD (args : List D) (S : Sto) (K : Kt) : Prop := match args with
  | [.tup ds] => K (.tup ds) S
  | [.ref a] => (match S a with
    | some (.lst ds) => K (.tup ds) S
    | _ => False)
  | [.rl ds] => K (.tup ds) S
  | _ => False
def listD (args : List D) (S : Sto) (K : Kt) : Prop := match args with
  | [.tup ds] => newL ds S K
  | [.ref a] => (match S a with
    | some (.lst ds) => newL ds S K
    | _ => False)
  | [.rl ds] => newL ds S K
  | _ => False
def intD (args : List D) (S : Sto) (K : Kt) : Prop := match args with
  | [.int i] => K (.int i) S
  | [.bl b] => K (.int (if b then 1 else 0)) S
  | _ => False
def absD (args : List D) (S : Sto) (K : Kt) : Prop := match args with
  | [.int i] => K (.int (if i < 0 then -i else i)) S
  | _ => False
def intsOf (S : Sto) (d : D) : Option (List Int) := match d with
  | .ref a => (match S a with
    | some (.lst ds) => ints? ds
    | _ => none)
  | _ => none
def maxD (args : List D) (S : Sto) (K : Kt) : Prop := match args with
  | [.int i, .int j] => K (.int (if j > i then j else i)) S
  | [d] => (match intsOf S d with
    | some (n :: ns) => ∀ m, m ∈ n :: ns → (∀ y, y ∈ n :: ns → y ≤ m) → K (.int m) S
    | _ => False)
  | _ => False
def minD (args : List D) (S : Sto) (K : Kt) : Prop := match args with
  | [.int i, .int j] => K (.int (if j < i then j else i)) S
  | [d] => (match intsOf S d with
    | some (n :: ns) => ∀ m, m ∈ n :: ns → (∀ y, y ∈ n :: ns → m ≤ y) → K (.int m) S
    | _ => False)
  | _ => False
def sumD (args : List D) (S : Sto) (K : Kt) : Prop := match args with
  | [d] => (match intsOf S d with
    | some ns => K (.int ns.sum) S
    | none => False)
  | _ => False
def bltD : BF → List D → Sto → Kt → Prop
  | .len => lenD
  | .tuple => tupleD
  | .list => listD
  | .int => intD
  | .abs => absD
  | .max => maxD
  | .min => minD
  | .sum => sumD
  | _ => fun _ _ _ => False
def appendD (o : D) (args : List D) (S : Sto) (K : Kt) : Prop := match o, args with
  | .ref a, [d] => (match S a with
    | some (.lst ds) => ds.length < sizeLine ∧ K .non (sup S a (.lst (ds ++ [d])))
    | _ => False)
  | _, _ => False
def popD (o : D) (args : List D) (S : Sto) (K : Kt) : Prop := match o, args with
  | .ref a, [] => (match S a with
    | some (.lst ds) => (match ds.getLast? with
      | some d => K d (sup S a (.lst ds.dropLast))
      | none => False)
    | _ => False)
  | .ref a, [.int i] => (match S a with
    | some (.lst ds) => (match ixN ds.length i with
      | some k => (match ds[k]? with
        | some d => K d (sup S a (.lst (ds.eraseIdx k)))
        | none => False)
      | none => False)
    | _ => False)
  | _, _ => False
def countD (o : D) (args : List D) (S : Sto) (K : Kt) : Prop := match o, args with
  | .tup ds, [.int k] => (match ints? ds with
    | some ns => K (.int (ns.count k)) S
    | none => False)
  | _, _ => False
/-- the receiver's type -/
inductive RT where | list | tuple | str | dict
def rcvT (x : D) (S : Sto) : Option RT := match x with
  | .tup _ => some .tuple
  | .str _ => some .str
  | .rl _ => some .list
  | .ref a => match S a with
    | some (.lst _) => some .list
    | some (.dic _) => some .dict
    | some (.dit _) => some .dict
    | _ => none
  | _ => none
def hasM : RT → BM → Bool
  | .list, .append => true
  | .list, .pop => true
  | .tuple, .count => true
  | _, _ => false
def bmD : RT → BM → D → List D → Sto → Kt → Prop
  | .list, .append => appendD
  | .list, .pop => popD
  | .tuple, .count => countD
  | _, _ => fun _ _ _ _ => False
/-- kinds of values -/
inductive KD where | non | bool | int | str | tup | lst | dict | ins (cn : Str)
def knd (d : D) (S : Sto) : Option KD := match d with
  | .non => some .non
  | .bl _ => some .bool
  | .int _ => some .int
  | .str _ => some .str
  | .tup _ => some .tup
  | .rl _ => some .lst
  | .fn _ => none
  | .ref a => match S a with
    | some (.lst _) => some .lst
    | some (.dic _) => some .dict
    | some (.dit _) => some .dict
    | some (.ins cn _) => some (.ins cn)
    | _ => none
def isK : KD → TY → Bool
  | .bool, .bool => true
  | .bool, .int => true
  | .int, .int => true
  | .str, .str => true
  | .tup, .tup => true
  | .lst, .lst => true
  | .dict, .dict => true
  | .ins cn, .cls c => decide (cn = c)
  | _, _ => false
/-- of what classes is told -/
def kOk (classes : List Str) (k : KD) (t : TY) : Bool := (match k with
  | .ins cn => decide (cn ∈ classes)
  | _ => true) && match t with
  | .cls c => decide (c ∈ classes)
  | _ => true
def putFD (f : Str) (v : D) : List (Str × D) → List (Str × D)
  | [] => [(f, v)]
  | (g, u) :: r => if g = f then (f, v) :: r else (g, u) :: putFD f v r
/-- the meaning of calls: a def by its name, a method by its class and name, the making of an instance -/
structure Calls where
  fn : Str → List D → Sto → Kt → Prop
  meth : Str → Str → List D → Sto → Kt → Prop
  init : Str → List D → Sto → Kt → Prop
/-- what is fixed of a program -/
structure Glob where
  con : Str → Option D
  free : List Str
  fns : List Str
  pars : Str → List Str
  kws : List (Str × Nat × List Str)
  classes : List Str
  fields : Str → List Str
  meths : List (Str × Str)
  mks : List Str

/-- a comprehension's turns; p: the new list -/
def compGo (bnd : D → Env → Option Env) (tst : DT) (elt : DE) (ρ : Env) (st : Sto → Prop) (p : Addr) : List D → Sto → Kt → Prop
  | [], S, K => st S ∧ K (.ref p) S
  | d :: ds, S, K => st S ∧ match bnd d ρ with
    | some ρ1 => tst ρ1 S fun b S1 => if b = true then elt ρ1 S1 fun y S2 => (match S2 p with
        | some (.lst acc) => acc.length < sizeLine ∧ compGo bnd tst elt ρ st p ds (sup S2 p (.lst (acc ++ [y]))) K
        | _ => False) else compGo bnd tst elt ρ st p ds S1 K
    | none => False
/-- a for's turns -/
def forGo (bnd : D → Env → Option Env) (body : DS) (st : Sto → Prop) : List D → DEnds → Env → Sto → Prop
  | [], K, ρ, S => st S ∧ K.nx ρ S
  | d :: ds, K, ρ, S => st S ∧ match bnd d ρ with
    | some ρ1 => body { nx := forGo bnd body st ds K, ct := forGo bnd body st ds K, bk := K.nx, rt := K.rt } ρ1 S
    | none => False
def whlGo (c : DT) (body : DS) : Nat → DS
  | 0, _, _, _ => False
  | n + 1, K, ρ, S => c ρ S fun b S1 => if b = true then body { nx := whlGo c body n K, ct := whlGo c body n K, bk := K.nx, rt := K.rt } ρ S1 else K.nx ρ S1
def rngD (i : Int) : Nat → List D
  | 0 => []
  | n + 1 => .int i :: rngD (i + 1) n
def zipD : List D → List D → List D
  | x :: xs, y :: ys => .tup [x, y] :: zipD xs ys
  | _, _ => []
def enumD (i : Int) : List D → List D
  | [] => []
  | x :: xs => .tup [.int i, x] :: enumD (i + 1) xs
abbrev Stay (a : Addr) (ds : List D) : Sto → Prop := fun S => S a = some (.lst ds)
def walkD (x : D) (S : Sto) (K : List D → (Sto → Prop) → Sto → Prop) : Prop := match x with
  | .tup ds => K ds (fun _ => True) S
  | .ref a => match S a with
    | some (.lst ds) => K ds (Stay a ds) S
    | _ => False
  | .rl ds => K ds (fun _ => True) S
  | _ => False

/-- a call by keywords: the values in the parameters' order -/
def kwOrd {α : Type} (ps : List Str) (n : Nat) (ks : List Str) (zs : List α) : List α := (ps.drop n).filterMap fun p => (ks.zip zs).lookup p
def LEs.len : LEs → Nat
  | .nil => 0
  | .cons _ r => r.len + 1

section
variable (G : Glob) (c : Calls)
mutual
def wE : LE → DE
  | .var i => fun ρ S K => match ρ[i]? with
    | some (some d) => K d S
    | _ => False
  | .int i => fun _ S K => K (.int i) S
  | .bl b => fun _ S K => K (.bl b) S
  | .non => fun _ S K => K .non S
  | .str x => fun _ S K => K (.str x) S
  | .glo x => fun _ S K => match G.con x with
    | some d => K d S
    | none => False
  | .tup es => fun ρ S K => wEs es ρ S fun ds S1 => ds.length ≤ sizeLine ∧ K (.tup ds) S1
  | .lst es => fun ρ S K => wEs es ρ S fun ds S1 => ds.length ≤ sizeLine ∧ newL ds S1 K
  | .dic0 => fun _ S K => ∀ p, S p = none → K (.ref p) (sup S p (.dic []))
  | .bin op a b => fun ρ S K => wE a ρ S fun x S1 => wE b ρ S1 fun y S2 => binD op x y S2 K
  | .neg a => fun ρ S K => wE a ρ S fun x S1 => match x with
    | .int i => K (.int (-i)) S1
    | _ => False
  | .inv a => fun ρ S K => wE a ρ S fun x S1 => match x with
    | .int i => K (.int (Builtin.bitNot i)) S1
    | _ => False
  | .cmp op a b => fun ρ S K => wE a ρ S fun x S1 => wE b ρ S1 fun y S2 => cmpD op x y S2 K
  | .chain op op' a b e => fun ρ S K => wE a ρ S fun x S1 => wE b ρ S1 fun y S2 => cmpD op x y S2 fun z S3 => match z with
    | .bl k => if k = true then wE e ρ S3 fun u S4 => cmpD op' y u S4 fun z' S5 => (match z' with
      | .bl k' => K (.bl k') S5
      | _ => False) else K (.bl false) S3
    | _ => False
  | .one a => wE a
  | .and a b => fun ρ S K => wE a ρ S fun x S1 => match x with
    | .bl k => if k = true then wE b ρ S1 K else K (.bl false) S1
    | _ => False
  | .or a b => fun ρ S K => wE a ρ S fun x S1 => match x with
    | .bl k => if k = true then K (.bl true) S1 else wE b ρ S1 K
    | _ => False
  | .not a => fun ρ S K => wE a ρ S fun x S1 => match x with
    | .bl k => K (.bl (!k)) S1
    | _ => False
  | .ite t a b => fun ρ S K => wB t ρ S fun k S1 => if k = true then wE a ρ S1 K else wE b ρ S1 K
  | .idx a i => fun ρ S K => wE a ρ S fun x S1 => wE i ρ S1 fun y S2 => idxD x y S2 K
  | .slc a lo hi => fun ρ S K => wE a ρ S fun x S1 => wO lo ρ S1 fun l S2 => wO hi ρ S2 fun h S3 => slcD x l h S3 K
  | .rev a => fun ρ S K => wE a ρ S fun x S1 => revD x S1 K
  | .call f es => fun ρ S K => wEs es ρ S fun ds S1 => c.fn f ds S1 K
  | .callk f es ks vs => fun ρ S K => wEs es ρ S fun ds S1 => wEs vs ρ S1 fun zs S2 => (ds.length = es.len ∧ zs.length = ks.length) ∧ c.fn f (ds ++ kwOrd (G.pars f) es.len ks zs) S2 K
  | .bcall f es => fun ρ S K => wEs es ρ S fun ds S1 => bltD f ds S1 K
  | .lof it => fun ρ S K => wI it ρ S fun ds _ S1 => ds.length ≤ sizeLine ∧ newL ds S1 K
  | .tof it => fun ρ S K => wI it ρ S fun ds _ S1 => ds.length ≤ sizeLine ∧ K (.tup ds) S1
  | .lzip a b => fun ρ S K => wE a ρ S fun x S1 => wE b ρ S1 fun y S2 => (match x, y with
    | .tup xs, .tup ys => newL (zipD xs ys) S2 K
    | _, _ => False)
  | .bm m o es => fun ρ S K => wE o ρ S fun x S1 => match rcvT x S1 with
    | some T => hasM T m = true ∧ wEs es ρ S1 fun ds S2 => bmD T m x ds S2 K
    | none => False
  | .isi a ts => fun ρ S K => wE a ρ S fun x S1 => match knd x S1 with
    | some k => (ts.all fun t => kOk G.classes k t) = true ∧ K (.bl (ts.any fun t => isK k t)) S1
    | none => False
  | .fld o f => fun ρ S K => wE o ρ S fun x S1 => match x with
    | .ref a => (match S1 a with
      | some (.ins cn fs) => (cn ∈ G.classes ∧ f ∈ G.fields cn) ∧ (match fs.lookup f with
        | some d => K d S1
        | none => False)
      | _ => False)
    | _ => False
  | .mk cn es => fun ρ S K => wEs es ρ S fun ds S1 => ∀ p, S1 p = none → c.init cn (.ref p :: ds) (sup S1 p (.ins cn [])) fun d S2 => isNonD d = true ∧ K (.ref p) S2
  | .meth m o es => fun ρ S K => wE o ρ S fun x S1 => match x with
    | .ref a => (match S1 a with
      | some (.ins cn fs) => ((cn, m) ∈ G.meths ∧ fs.lookup m = none) ∧ wEs es ρ S1 fun ds S2 => c.meth cn m (x :: ds) S2 K
      | _ => False)
    | _ => False
  | .comp elt t it ifs _ => fun ρ S K => wI it ρ S fun ds st S1 => ∀ p, S1 p = none → compGo (LT.bind t) (wBO ifs) (wE elt) ρ st p ds (sup S1 p (.lst [])) K
def wB : LB → DT
  | .val e => fun ρ S K => wE e ρ S fun x S1 => match x with
    | .bl b => K b S1
    | _ => False
  | .tru e => fun ρ S K => wE e ρ S fun x S1 => truD x S1 fun b => K b S1
  | .not a => fun ρ S K => wB a ρ S fun b S1 => K (!b) S1
  | .and a b => fun ρ S K => wB a ρ S fun x S1 => if x = true then wB b ρ S1 K else K false S1
  | .or a b => fun ρ S K => wB a ρ S fun x S1 => if x = true then K true S1 else wB b ρ S1 K
  | .last a => wB a
def wO : LO → Env → Sto → (Option Int → Sto → Prop) → Prop
  | .none => fun _ S K => K Option.none S
  | .some e => fun ρ S K => wE e ρ S fun d S1 => match d with
    | .int i => K (Option.some i) S1
    | _ => False
def wBO : LBO → DT
  | .none => fun _ S K => K true S
  | .some b => wB b
def wEs : LEs → DA
  | .nil => fun _ S K => K [] S
  | .cons e es => fun ρ S K => wE e ρ S fun d S1 => wEs es ρ S1 fun ds S2 => K (d :: ds) S2
def wI : LI → Env → Sto → (List D → (Sto → Prop) → Sto → Prop) → Prop
  | .ex e => fun ρ S K => wE e ρ S fun x S1 => walkD x S1 K
  | .rng1 a => fun ρ S K => wE a ρ S fun x S1 => match x with
    | .int j => (-(2 ^ 62) ≤ j ∧ j < 2 ^ 62) ∧ K (rngD 0 j.toNat) (fun _ => True) S1
    | _ => False
  | .rng2 a b => fun ρ S K => wE a ρ S fun x S1 => wE b ρ S1 fun y S2 => match x, y with
    | .int i, .int j => (-(2 ^ 62) ≤ i ∧ i < 2 ^ 62 ∧ -(2 ^ 62) ≤ j ∧ j < 2 ^ 62) ∧ K (rngD i (j - i).toNat) (fun _ => True) S2
    | _, _ => False
  | .zip a b => fun ρ S K => wE a ρ S fun x S1 => wE b ρ S1 fun y S2 => walkD x S2 fun xs st _ => walkD y S2 fun ys st' _ => K (zipD xs ys) (fun S => st S ∧ st' S) S2
  | .enum a => fun ρ S K => wE a ρ S fun x S1 => walkD x S1 fun xs st S2 => K (enumD 0 xs) st S2
end
mutual
def wS : LS → DS
  | .asg t e => fun K ρ S => wE G c e ρ S fun d S1 => match LT.bind t d ρ with
    | some ρ1 => K.nx ρ1 S1
    | none => False
  | .par is es => fun K ρ S => wEs G c es ρ S fun ds S1 => match pars is ds ρ with
    | some ρ1 => K.nx ρ1 S1
    | none => False
  | .sub o i e => fun K ρ S => wE G c e ρ S fun d S1 => wE G c o ρ S1 fun x S2 => wE G c i ρ S2 fun y S3 => match x, y with
    | .ref a, .int k => (match S3 a with
      | some (.lst ds) => (match ixN ds.length k with
        | some j => K.nx ρ (sup S3 a (.lst (ds.set j d)))
        | none => False)
      | _ => False)
    | _, _ => False
  | .fld o f e => fun K ρ S => wE G c e ρ S fun d S1 => wE G c o ρ S1 fun x S2 => match x with
    | .ref a => (match S2 a with
      | some (.ins cn fs) => ((cn ∈ G.classes ∧ f ∈ G.fields cn) ∧ fs.length < 1000) ∧ K.nx ρ (sup S2 a (.ins cn (putFD f d fs)))
      | _ => False)
    | _ => False
  | .aug i op e => fun K ρ S => match ρ[i]? with
    | some (some x) => wE G c e ρ S fun y S1 => binD op x y S1 fun z S2 => K.nx (putR ρ i z) S2
    | _ => False
  | .ex e => fun K ρ S => wE G c e ρ S fun _ S1 => K.nx ρ S1
  | .ret e => fun K ρ S => wE G c e ρ S K.rt
  | .retN => fun K _ S => K.rt .non S
  | .ite t a b => fun K ρ S => wB G c t ρ S fun k S1 => if k = true then wSs a K ρ S1 else wSs b K ρ S1
  | .for_ t it body => fun K ρ S => wI G c it ρ S fun ds st S1 => forGo (LT.bind t) (wSs body) st ds K ρ S1
  | .whl t body => fun K ρ S => ∃ n, whlGo (wB G c t) (wSs body) n K ρ S
  | .brk => fun K ρ S => K.bk ρ S
  | .cont => fun K ρ S => K.ct ρ S
  | .pass => fun K ρ S => K.nx ρ S
  | .never => fun _ _ _ => False
def wSs : LSs → DS
  | .nil => fun K ρ S => K.nx ρ S
  | .cons s ss => fun K ρ S => wS s { K with nx := wSs ss K } ρ S
end
end
end Lt

set_option Elab.async false
set_option linter.all false
set_option maxRecDepth 100000
set_option maxHeartbeats 1000000
namespace Lt
open PySem PySem.Spec PyProof.Rows L2

section
variable {X : Cx} {pos : Pos}
/-! ### names, constants -/
theorem pd_var {i : Nat} {x : Str} (hN : X.N[i]? = some x) (hv : Vis X.env.scope x) (hd : (x == ("__debug__" : Str)) = false) (hcd : (x == ("__classdict__" : Str)) = false) :
    PDE X (.Name x pos) (fun ρ S K => match ρ[i]? with
      | some (some d) => K d S
      | _ => False) := peI (pe_var hN hv hd hcd) fun σ H Q ⟨ρ, S, Kd, he, hs, ht, hp⟩ => by
  cases e : ρ[i]? with
  | none => simp only [e] at ht
  | some o =>
    cases o with
    | none => simp only [e] at ht
    | some d =>
      simp only [e] at ht
      obtain ⟨v, e1, r⟩ := he.get i d e
      exact ⟨v, e1, hp d S v H ht (.refl H) .refl hs r⟩
theorem pd_c {e : Expr} {d : D} {v : V} (h : PE X e (tC v)) (r : ∀ H, RelD X.K H d v) : PDE X e (fun _ S K => K d S) :=
  peI h fun σ H Q ⟨ρ, S, Kd, he, hs, ht, hp⟩ => hp d S v H ht (.refl H) .refl hs (r H)
theorem pd_int {i : Int} {j} : PDE X (.Constant (.int i) j pos) (fun _ S K => K (.int i) S) := pd_c pe_int fun _ => rfl
theorem pd_bl {b : Bool} {j} : PDE X (.Constant (.bool b) j pos) (fun _ S K => K (.bl b) S) := pd_c pe_bl fun _ => rfl
theorem pd_non {j} : PDE X (.Constant .none j pos) (fun _ S K => K .non S) := pd_c pe_non fun _ => rfl
theorem pd_str {x : Str} {j} : PDE X (.Constant (.str x) j pos) (fun _ S K => K (.str x) S) := pd_c pe_str fun _ => rfl

/-! ### argument lists, displays -/
variable {e : Expr} {es : List Expr} {te : DE} {ta : DA}
theorem pd_nil : PDA X [] (fun _ S K => K [] S) := paI pa_nil fun σ H Q ⟨ρ, S, Kd, he, hs, ht, hp⟩ => hp [] S [] H ht (.refl H) .refl hs rfl
theorem pd_cons (h : PDE X e te) (hr : PDA X es ta) (hst : starEach (e :: es) X.env = (false, eval e X.env) :: starEach es X.env) : PDA X (e :: es) (fun ρ S K => te ρ S fun d S1 => ta ρ S1 fun ds S2 => K (d :: ds) S2) :=
  paI (pa_cons h hr hst) fun σ H Q ⟨ρ, S, Kd, he, hs, ht, hp⟩ => by
    refine ⟨ρ, S, _, he, hs, ht, fun d S1 v H1 h1 k1 e1 r1 rd1 => ?_⟩
    refine ⟨ρ, S1, _, he.keep k1, r1, h1, fun ds S2 vs H2 h2 k2 e2 r2 rd2 => ?_⟩
    exact hp (d :: ds) S2 (v :: vs) H2 h2 (k1.trans k2) (e1.trans k1 e2) r2 ⟨v, vs, rfl, rd1.keep k2, rd2⟩
/-- a new tuple, at the library's level -/
abbrev tupObj (us : List Value) : Obj := { cls := .type "tuple", data := .seq us.toArray }
theorem tup_end {pins : List (Addr × Obj)} {σ : L2.St} {H : Hp} {s : Shared} {S : Sto} {Kd : Kt} {Q : VK} {ds : List D} {vs : List V} {us : List Value} (I : Inv X pins σ H s) (hs : RS X.K H S) (rd : RelDs X.K H ds vs) (r : Vals vs us) (hz : ds.length ≤ sizeLine) (h : Kd (.tup ds) S) (hp : Post X.K H S Kd Q) (t' : Nat) :
    EP X pins σ Q (.ref s.heap.objs.size) { s with heap := s.heap.push (tupObj us), toks := t' } := by
  have hn : H s.heap.objs.size = none := I.hok.fresh (Nat.le_refl _)
  have kn : Keep H (upd H s.heap.objs.size (.frz (tupObj us) (.tup vs))) := .new hn
  have hz' : vs.length ≤ sizeLine := by rw [rd.length]; exact hz
  have e : (s.heap.push (tupObj us)).get? s.heap.objs.size = some (tupObj us) := Heap.get?_push_size _ rfl
  refine ⟨.ref s.heap.objs.size, _, I.laid (t' := t') (o := .frz (tupObj us) (.tup vs)) (fun b u q => Heap.get?_push_of_some _ q) (Nat.le_refl _) ⟨e, hz', us, r, ⟨_, e, rfl, _, rfl⟩⟩, rfl, ?_⟩
  exact hp (.tup ds) S _ _ h kn .refl (hs.lay hn) ⟨_, vs, rfl, .inl ⟨_, upd_same, rfl⟩, hz', rd.keep kn⟩
theorem pd_tup {x1} (h : PDA X es ta) : PDE X (.Tuple es x1 pos) (fun ρ S K => ta ρ S fun ds S1 => ds.length ≤ sizeLine ∧ K (.tup ds) S1) := by
  refine ⟨fun pins s σ H Q I ⟨ρ, S, Kd, he, hs, ht, hp⟩ => ?_⟩
  refine wpAny_Tuple_spliced (thn (h.run pos pins s σ H (fun vs H1 => ∃ ds S1, (ds.length ≤ sizeLine ∧ Kd (.tup ds) S1) ∧ Keep H H1 ∧ Ext H S S1 ∧ RS X.K H1 S1 ∧ RelDs X.K H1 ds vs) I
    ⟨ρ, S, _, he, hs, ht, fun ds S1 vs H1 h1 k1 e1 r1 rd1 => ⟨ds, S1, h1, k1, e1, r1, rd1⟩⟩) fun us s1 ⟨vs, H1, I1, r, ds, S1, ⟨hz, h1⟩, k1, e1, r1, rd1⟩ => ⟨by rw [← r.length, rd1.length]; exact hz, ?_⟩)
  exact tup_end I1 r1 rd1 r hz h1 (hp.go k1 e1) s1.toks
/-- a new list -/
theorem new_list {H : Hp} {S : Sto} {Kd : Kt} {Q : VK} {ds : List D} {vs : List V} (hs : RS X.K H S) (rd : RelDs X.K H ds vs) (hz : ds.length ≤ sizeLine) (h : newL ds S Kd) (hp : Post X.K H S Kd Q) : ∀ p, H p = none → Q (.ref p) (upd H p (.lst vs)) := fun p hn => by
  have kn : Keep H (upd H p (.lst vs)) := .new hn
  exact hp (.ref p) _ _ _ (h p (hs.free hn)) kn (.new hn) (hs.new hn (fun z => by cases z) ⟨vs, upd_same, rd.keep kn, by rw [rd.length]; exact hz⟩) rfl

theorem pd_lst (h : PDA X es ta) : PDE X (.List es pos) (fun ρ S K => ta ρ S fun ds S1 => ds.length ≤ sizeLine ∧ newL ds S1 K) :=
  peI (pe_lst h) fun σ H Q ⟨ρ, S, Kd, he, hs, ht, hp⟩ => by
    refine ⟨ρ, S, _, he, hs, ht, fun ds S1 vs H1 ⟨hz, h1⟩ k1 e1 r1 rd1 => ⟨by rw [rd1.length]; exact hz, new_list r1 rd1 hz h1 (hp.go k1 e1)⟩⟩

/-! ### operators -/
def rD (K : PySem.W.Frag) (g : D → D → Sto → Kt → Prop) : R2 := fun vx vy H Q => ∃ x y S Kd, RS K H S ∧ RelD K H x vx ∧ RelD K H y vy ∧ g x y S Kd ∧ Post K H S Kd Q
theorem rD_of {K : PySem.W.Frag} {g : D → D → Sto → Kt → Prop} {ta tb : DE} {σ : L2.St} {H : Hp} {Q : VK} (h : LiftE K (fun ρ S K => ta ρ S fun x S1 => tb ρ S1 fun y S2 => g x y S2 K) σ H Q) : tOp (rD K g) (LiftE K ta) (LiftE K tb) σ H Q := by
  obtain ⟨ρ, S, Kd, he, hs, ht, hp⟩ := h
  refine ⟨ρ, S, _, he, hs, ht, fun x S1 v H1 h1 k1 e1 r1 rd1 => ?_⟩
  refine ⟨ρ, S1, _, he.keep k1, r1, h1, fun y S2 u H2 h2 k2 e2 r2 rd2 => ?_⟩
  exact ⟨x, y, S2, Kd, r2, rd1.keep k2, rd2, h2, hp.go (k1.trans k2) (e1.trans k1 e2)⟩
variable {a b c : Expr} {tb tc : DE}
theorem pd_bin {op : Operator} {g : D → D → Sto → Kt → Prop} (ho : OpR X (binaryOp op) (rD X.K g)) (ha : PDE X a te) (hb : PDE X b tb) : PDE X (.BinOp a op b pos) (fun ρ S K => te ρ S fun x S1 => tb ρ S1 fun y S2 => g x y S2 K) :=
  peI (pe_op ho ha hb) fun _ _ _ => rD_of
theorem pd_cmp {op : CmpOp} {g : D → D → Sto → Kt → Prop} (ho : OpR X (compareOp op) (rD X.K g)) (ha : PDE X a te) (hb : PDE X b tb) (hm : behindInMarks op b = false) : PDE X (.Compare a [op] [b] pos) (fun ρ S K => te ρ S fun x S1 => tb ρ S1 fun y S2 => g x y S2 K) :=
  peI (pe_cmpR ho ha hb hm) fun _ _ _ => rD_of
/-- a bool's test -/
def tstB (t : DE) : DT := fun ρ S K => t ρ S fun x S1 => match x with
  | .bl b => K b S1
  | _ => False
theorem tst_of {K : PySem.W.Frag} {te : TE} {t : DE} (h : ∀ σ H Q, LiftE K t σ H Q → te σ H Q) : ∀ σ H Q, LiftT K (tstB t) σ H Q → tTest te σ H Q := by
  intro σ H Q ⟨ρ, S, Kd, he, hs, ht, hp⟩
  refine h σ H _ ⟨ρ, S, _, he, hs, ht, fun x S1 v H1 h1 k1 e1 r1 rd1 => ?_⟩
  cases x with
  | bl b => exact ⟨b, rd1, hp b S1 H1 h1 k1 e1 r1⟩
  | _ => exact (show False from h1).elim
theorem pdt_cmp {op : CmpOp} {g : D → D → Sto → Kt → Prop} (ho : OpR X (compareOp op) (rD X.K g)) (ha : PDE X a te) (hb : PDE X b tb) (hm : behindInMarks op b = false) : PDT X (.Compare a [op] [b] pos) (tstB fun ρ S K => te ρ S fun x S1 => tb ρ S1 fun y S2 => g x y S2 K) :=
  ptI (pt_cmpR ho ha hb hm) (tst_of fun _ _ _ => rD_of)
theorem pdt_val {e : Expr} (h : PDE X e te) (he : ∀ whole, isTrue e X.env whole = (do let v ← whole; standAt e.pos; holding [v] (truthy v))) : PDT X e (tstB te) :=
  ptI (pt_val h he) (tst_of fun _ _ _ q => q)

theorem od_sub : OpR X (binaryOp .Sub) (rD X.K (binD .sub)) := by
  rintro pins s σ H vx vy v u Q I rx ry ⟨x, y, S, Kd, hs, r1, r2, h, hp⟩
  cases x <;> cases y <;> first
    | exact (show False from h).elim
    | (cases r1; cases r2; exact op_sub pins s σ H _ _ v u Q I rx ry ⟨_, _, rfl, rfl, hp _ _ _ _ h (.refl H) .refl hs rfl⟩)
theorem od_int {op : Operator} {bop : BOp} {C : Int → Int → Prop} {f : Int → Int → Int} (ho : OpR X (binaryOp op) (rI C fun i j => .int (f i j)))
    (hb : ∀ x y S Kd, binD bop x y S Kd → ∃ i j, x = .int i ∧ y = .int j ∧ C i j ∧ Kd (.int (f i j)) S) : OpR X (binaryOp op) (rD X.K (binD bop)) := by
  rintro pins s σ H vx vy v u Q I rx ry ⟨x, y, S, Kd, hs, r1, r2, h, hp⟩
  obtain ⟨i, j, rfl, rfl, hc, q⟩ := hb _ _ _ _ h
  cases r1
  cases r2
  exact ho pins s σ H _ _ v u Q I rx ry ⟨_, _, rfl, rfl, hc, hp _ _ _ _ q (.refl H) .refl hs rfl⟩
theorem od_int0 {op : Operator} {bop : BOp} {f : Int → Int → Int} (ho : OpR X (binaryOp op) (rI0 fun i j => .int (f i j)))
    (hb : ∀ x y S Kd, binD bop x y S Kd → ∃ i j, x = .int i ∧ y = .int j ∧ Kd (.int (f i j)) S) : OpR X (binaryOp op) (rD X.K (binD bop)) := by
  rintro pins s σ H vx vy v u Q I rx ry ⟨x, y, S, Kd, hs, r1, r2, h, hp⟩
  obtain ⟨i, j, rfl, rfl, q⟩ := hb _ _ _ _ h
  cases r1
  cases r2
  exact ho pins s σ H _ _ v u Q I rx ry ⟨_, _, rfl, rfl, hp _ _ _ _ q (.refl H) .refl hs rfl⟩
theorem od_fdiv : OpR X (binaryOp .FloorDiv) (rD X.K (binD .fdiv)) := od_int op_fdivW fun x y S Kd h => by
  cases x <;> cases y <;> first | exact (show False from h).elim | exact ⟨_, _, rfl, rfl, h.1, h.2⟩
theorem od_mod : OpR X (binaryOp .Mod) (rD X.K (binD .mod)) := od_int op_mod fun x y S Kd h => by
  cases x <;> cases y <;> first | exact (show False from h).elim | exact ⟨_, _, rfl, rfl, h.1, h.2⟩
theorem od_pow : OpR X (binaryOp .Pow) (rD X.K (binD .pow)) := od_int op_pow fun x y S Kd h => by
  cases x <;> cases y <;> first | exact (show False from h).elim | exact ⟨_, _, rfl, rfl, h.1, h.2⟩
theorem od_shl : OpR X (binaryOp .LShift) (rD X.K (binD .shl)) := od_int op_shl fun x y S Kd h => by
  cases x <;> cases y <;> first | exact (show False from h).elim | exact ⟨_, _, rfl, rfl, h.1, h.2⟩
theorem od_shr : OpR X (binaryOp .RShift) (rD X.K (binD .shr)) := od_int op_shr fun x y S Kd h => by
  cases x <;> cases y <;> first | exact (show False from h).elim | exact ⟨_, _, rfl, rfl, h.1, h.2⟩
theorem od_band : OpR X (binaryOp .BitAnd) (rD X.K (binD .band)) := od_int0 op_and fun x y S Kd h => by
  cases x <;> cases y <;> first | exact (show False from h).elim | exact ⟨_, _, rfl, rfl, h⟩
theorem od_bor : OpR X (binaryOp .BitOr) (rD X.K (binD .bor)) := od_int0 op_or fun x y S Kd h => by
  cases x <;> cases y <;> first | exact (show False from h).elim | exact ⟨_, _, rfl, rfl, h⟩
theorem od_bxor : OpR X (binaryOp .BitXor) (rD X.K (binD .bxor)) := od_int0 op_xor fun x y S Kd h => by
  cases x <;> cases y <;> first | exact (show False from h).elim | exact ⟨_, _, rfl, rfl, h⟩
/-- a tuple that is there already -/
theorem tup_there {H : Hp} {S : Sto} {Kd : Kt} {Q : VK} {ds : List D} {vs : List V} {p : Addr} (hs : RS X.K H S) (rd : RelDs X.K H ds vs) (hz : ds.length ≤ sizeLine) (h : Kd (.tup ds) S) (hp : Post X.K H S Kd Q) (hT : TupS X.K H p vs) : Q (.ref p) H :=
  hp (.tup ds) S _ H h (.refl H) .refl hs ⟨p, vs, rfl, hT, by rw [rd.length]; exact hz, rd⟩
theorem RelDs.nil_iff {K : PySem.W.Frag} {H : Hp} {ds : List D} {vs : List V} (r : RelDs K H ds vs) : vs = [] ↔ ds = [] := by
  have l := r.length
  constructor
  · intro e
    subst e
    exact List.eq_nil_of_length_eq_zero l.symm
  · intro e
    subst e
    exact List.eq_nil_of_length_eq_zero l
theorem RS.lst {K : PySem.W.Frag} {H : Hp} {S : Sto} {a : Addr} {ds : List D} (h : RS K H S) (e : S a = some (.lst ds)) : ∃ xs, H a = some (.lst xs) ∧ RelDs K H ds xs ∧ xs.length ≤ sizeLine := h.ok a _ e
theorem od_add : OpR X (binaryOp .Add) (rD X.K (binD .add)) := by
  rintro pins s σ H vx vy v u Q I rx ry ⟨x, y, S, Kd, hs, r1, r2, h, hp⟩
  cases x <;> cases y <;> first
    | exact (show False from h).elim
    | (cases r1; cases r2; exact op_add pins s σ H _ _ v u Q I rx ry ⟨_, _, rfl, rfl, hp _ _ _ _ h (.refl H) .refl hs rfl⟩)
    | (cases r1; cases r2; exact op_add_str pins s σ H _ _ v u Q I rx ry ⟨_, _, rfl, rfl, h.1, hp _ _ _ _ h.2 (.refl H) .refl hs rfl⟩)
    | skip
  · rename_i p q
    cases r1
    cases r2
    have h' : (match S p, S q with
      | some (.lst a), some (.lst b) => a.length + b.length ≤ sizeLine ∧ newL (a ++ b) S Kd
      | _, _ => False) := h
    cases e1 : S p with
    | none => rw [e1] at h'; exact h'.elim
    | some c1 =>
      cases e2 : S q with
      | none => rw [e1, e2] at h'; cases c1 <;> exact h'.elim
      | some c2 =>
        rw [e1, e2] at h'
        cases c1 <;> cases c2 <;> first | exact h'.elim | skip
        rename_i as bs
        obtain ⟨xs, h1, rd1, _⟩ := hs.lst e1
        obtain ⟨ys, h2, rd2, _⟩ := hs.lst e2
        exact op_cat pins s σ H _ _ v u Q I rx ry ⟨_, _, xs, ys, rfl, rfl, h1, h2, by rw [rd1.length, rd2.length]; exact h'.1, new_list hs (rd1.append rd2) (by rw [List.length_append]; exact h'.1) h'.2 hp⟩
  · rename_i as bs
    obtain ⟨p, xs, rfl, t1, z1, rd1⟩ := r1
    obtain ⟨q, ys, rfl, t2, z2, rd2⟩ := r2
    obtain ⟨hz, h⟩ := h
    have hz' : (as ++ bs).length ≤ sizeLine := by rw [List.length_append]; exact hz
    cases rx
    cases ry
    obtain ⟨its, q1, p1, _⟩ := I.tuple t1.sqt
    obtain ⟨its2, q2, p2, _⟩ := I.tuple t2.sqt
    by_cases hx : xs = []
    · have e' := rd1.nil_iff.mp hx
      subst e'
      subst hx
      cases q1
      exact cat_tup0 p1 p2 ⟨.ref q, H, I, rfl, tup_there hs (ds := [] ++ bs) rd2 hz' h hp t2⟩
    · refine HT.cat_tup p1 p2 (fun z => hx (q1.nil_iff.mp z)) (fun z => ⟨.ref p, H, I, rfl, ?_⟩) (fun z => ?_) (by rw [← q1.length, ← q2.length, rd1.length, rd2.length]; exact hz)
      · have e' := rd2.nil_iff.mp (q2.nil_iff.mp z)
        subst e'
        exact tup_there hs (ds := as ++ []) (by rw [List.append_nil]; exact rd1) hz' h hp t1
      · exact tup_end I hs (rd1.append rd2) (q1.append q2) hz' h hp s.toks
end
end Lt

set_option Elab.async false
set_option linter.all false
set_option maxRecDepth 100000
set_option maxHeartbeats 4000000
namespace Lt
open PySem PySem.Spec PyProof.Rows L2 HT

/-! ### tuple * int, whatever the number -/
theorem tuple_mul_same (l : Addr) (items : Array Value) (n : Nat) (dd : Option Addr) (sl : Array (Option Value)) (x : Int) (u : Tok) (c0 : (decide (x < -(2 ^ 63)) || decide (x ≥ 2 ^ 63)) = false) (c1 : (items.isEmpty || x == 1) = true) :
    Meets (Builtin.«tuple.__mul__» ⟨[.ref l, .int x u], []⟩) (fun _ R s => s.heap.get? l = some { cls := .type "tuple", dict := dd, data := .seq items n, slots := sl } ∧ R (.ok (.ret (Value.ref l))) s) :=
  .of_wp fun prog w A R s h => by
    obtain ⟨hp, g, d, tk, os⟩ := s
    obtain ⟨hl, h⟩ := h
    have f1 := AutoSeq1.idx_int
    wp_walk using wpAny_loadPart' hl
    repeat (first
      | (refine wpAny_ite_false (decide_eq_false (by rw [c0]; exact Bool.false_ne_true)) ?_; wp_walk using wpAny_loadPart' hl)
      | (refine wpAny_ite_true (decide_eq_true (by rw [c1])) ?_; wp_walk using wpAny_loadPart' hl))
    exact ⟨_, rfl, h⟩
theorem tuple_mul_nil (l : Addr) (items : Array Value) (n : Nat) (dd : Option Addr) (sl : Array (Option Value)) (x : Int) (u : Tok) (c0 : (decide (x < -(2 ^ 63)) || decide (x ≥ 2 ^ 63)) = false) (c1 : (items.isEmpty || x == 1) = false) (c2 : (decide (x ≤ 0) || items.isEmpty) = true) :
    Meets (Builtin.«tuple.__mul__» ⟨[.ref l, .int x u], []⟩) (fun _ R s => s.heap.get? l = some { cls := .type "tuple", dict := dd, data := .seq items n, slots := sl } ∧
      R (.ok (.ret (Value.ref s.heap.objs.size))) { s with heap := s.heap.push { cls := Value.type "tuple", data := Data.seq #[] }, toks := s.toks }) :=
  .of_wp fun prog w A R s h => by
    obtain ⟨hp, g, d, tk, os⟩ := s
    obtain ⟨hl, h⟩ := h
    have f1 := AutoSeq1.idx_int
    wp_walk using wpAny_loadPart' hl
    repeat (first
      | (refine wpAny_ite_false (decide_eq_false (by rw [c0]; exact Bool.false_ne_true)) ?_; wp_walk using wpAny_loadPart' hl)
      | (refine wpAny_ite_false (decide_eq_false (by rw [c1]; exact Bool.false_ne_true)) ?_; wp_walk using wpAny_loadPart' hl)
      | (refine wpAny_ite_true (decide_eq_true (by rw [c2])) ?_; wp_walk using wpAny_loadPart' hl))
    exact ⟨_, rfl, h⟩

section
variable {X : Cx}
theorem RelDs.rep {K : PySem.W.Frag} {H : Hp} {ds : List D} {vs : List V} (r : RelDs K H ds vs) : ∀ n, RelDs K H (List.replicate n ds).flatten (List.replicate n vs).flatten
  | 0 => rfl
  | n + 1 => by
    rw [List.replicate_succ, List.replicate_succ, List.flatten_cons, List.flatten_cons]
    exact r.append (RelDs.rep r n)
theorem rep_tup {pins : List (Addr × Obj)} {σ : L2.St} {H : Hp} {s : Shared} {S : Sto} {Kd : Kt} {Q : VK} {ds : List D} {xs : List V} {l : Addr} {k : Int} {v u : Value} (I : Inv X pins σ H s) (rx : RelV (.ref l) v) (ry : RelV (.int k) u) (hs : RS X.K H S) (hT : TupS X.K H l xs) (rd : RelDs X.K H ds xs)
    (h1 : -1000000000 ≤ k) (h2 : k ≤ 1000000000) (hz : xs.length * k.toNat ≤ 1000000) (h : Kd (.tup (List.replicate k.toNat ds).flatten) S) (hp : Post X.K H S Kd Q) : wpAny (model X.prog X.w) X.A (binaryOp .Mult v u) (EP X pins σ Q) X.xe s := by
  cases rx
  obtain ⟨t, rfl⟩ := ry
  obtain ⟨its, r, ⟨⟨cls, dd, data, sl⟩, ho, hc, n, hd⟩, hsz⟩ := I.tuple hT.sqt
  have hzd : (List.replicate k.toNat ds).flatten.length ≤ sizeLine := by
    rw [PyProof.Rows.lm_len_rep_flat, sizeLine_eq, Nat.mul_comm, ← rd.length]
    omega
  simp only at hc hd
  subst hc hd
  have hle : its.length = xs.length := r.length.symm
  have c0 : (decide (k < -(2 ^ 63)) || decide (k ≥ 2 ^ 63)) = false := by
    rw [decide_eq_false (by omega), decide_eq_false (by omega)] <;> rfl
  have hie : its.toArray.isEmpty = true ↔ xs = [] := by
    cases its with
    | nil =>
      rw [List.length_nil] at hle
      exact ⟨fun _ => List.eq_nil_of_length_eq_zero hle.symm, fun _ => rfl⟩
    | cons a b =>
      refine ⟨fun e => (by simp at e), fun e => ?_⟩
      subst e
      simp at hle
  by_cases hsame : xs = [] ∨ k = 1
  · have c1 : (its.toArray.isEmpty || k == 1) = true := by
      rcases hsame with e | e
      · rw [hie.mpr e, Bool.true_or]
      · subst e
        simp
    have eq : (List.replicate k.toNat ds).flatten = ds := by
      rcases hsame with e | e
      · have e' := rd.nil_iff.mp e
        subst e'
        simp
      · subst e
        simp
    exact wpAny_binaryOp_repeat_ref (T := "tuple") (U := "int") (by decide) ⟨_, ho, rfl⟩ (fun s' => typeIs_int s' k t) noFill_tuple_mul F.fills_int_mul F.slot_int_rmul repeat_tuple F.slot_int_index.lookup
      (call_meets F.slot_int_rmul (typeIs_int s k t) F.entry_int_rmul (F.args_int_rmul_2 _ _) (int_rmul_tuple k t l its.toArray n dd sl)
        ⟨ho, rfl, ⟨_, ho, rfl⟩, call_meets F.slot_tuple_mul ⟨_, ho, rfl⟩ F.entry_tuple_mul (F.args_tuple_mul_2 _ _) (tuple_mul_same l its.toArray n dd sl k t c0 c1) ⟨ho, ⟨.ref l, H, I, rfl, tup_there hs (ds := (List.replicate k.toNat ds).flatten) (by rw [eq]; exact rd) hzd h hp hT⟩⟩⟩)
  · have hne : xs ≠ [] := fun e => hsame (.inl e)
    have hk1 : k ≠ 1 := fun e => hsame (.inr e)
    have hi : its.toArray.isEmpty = false := by
      cases q : its.toArray.isEmpty with
      | false => rfl
      | true => exact absurd (hie.mp q) hne
    have c1 : (its.toArray.isEmpty || k == 1) = false := by
      rw [hi, Bool.false_or]
      exact beq_eq_false_iff_ne.mpr hk1
    by_cases hk : k ≤ 0
    · have c2 : (decide (k ≤ 0) || its.toArray.isEmpty) = true := by rw [decide_eq_true hk, Bool.true_or]
      have e0 : k.toNat = 0 := by omega
      refine wpAny_binaryOp_repeat_ref (T := "tuple") (U := "int") (by decide) ⟨_, ho, rfl⟩ (fun s' => typeIs_int s' k t) noFill_tuple_mul F.fills_int_mul F.slot_int_rmul repeat_tuple F.slot_int_index.lookup
        (call_meets F.slot_int_rmul (typeIs_int s k t) F.entry_int_rmul (F.args_int_rmul_2 _ _) (int_rmul_tuple k t l its.toArray n dd sl)
          ⟨ho, rfl, ⟨_, ho, rfl⟩, call_meets F.slot_tuple_mul ⟨_, ho, rfl⟩ F.entry_tuple_mul (F.args_tuple_mul_2 _ _) (tuple_mul_nil l its.toArray n dd sl k t c0 c1 c2) ⟨ho, ?_⟩⟩)
      have q := tup_end (ds := []) (vs := []) (us := []) I hs rfl .nil (Nat.zero_le _) (by rw [e0] at h; exact h) hp s.toks
      exact q
    · have hm : ((its.toArray.size : Nat) : Int) * k ≤ 1000000 := by
        rw [List.size_toArray, hle]
        have e : ((xs.length * k.toNat : Nat) : Int) = (xs.length : Int) * k := by rw [Int.natCast_mul, Int.toNat_of_nonneg (by omega)]
        rw [← e]
        omega
      have flen : (List.replicate k.toNat its).flatten.length ≤ sizeLine := by
        rw [PyProof.Rows.lm_len_rep_flat, hle, sizeLine_eq, Nat.mul_comm]
        omega
      have c2 : (decide (k ≤ 0) || its.toArray.isEmpty) = false := by
        rw [hi, Bool.or_false]
        exact decide_eq_false hk
      have c4 : Builtin.Tuple.tupleTooMany (((its.toArray.size : Nat) : Int) * k) = false := by
        unfold Builtin.Tuple.tupleTooMany
        rw [sizeLine_eq]
        exact decide_eq_false (by omega)
      refine wpAny_binaryOp_repeat_ref (T := "tuple") (U := "int") (by decide) ⟨_, ho, rfl⟩ (fun s' => typeIs_int s' k t) noFill_tuple_mul F.fills_int_mul F.slot_int_rmul repeat_tuple F.slot_int_index.lookup
        (call_meets F.slot_int_rmul (typeIs_int s k t) F.entry_int_rmul (F.args_int_rmul_2 _ _) (int_rmul_tuple k t l its.toArray n dd sl)
          ⟨ho, rfl, ⟨_, ho, rfl⟩, call_meets F.slot_tuple_mul ⟨_, ho, rfl⟩ F.entry_tuple_mul (F.args_tuple_mul_2 _ _) (tuple_mulW l its.toArray n dd sl k t c0 c1 c2 (by omega) c4 (by rw [size_rep, List.size_toArray]; exact flen)) ⟨ho, ?_⟩⟩)
      rw [size_rep]
      exact tup_end I hs (rd.rep _) (r.rep k.toNat) hzd h hp s.toks
theorem od_mul : OpR X (binaryOp .Mult) (rD X.K (binD .mul)) := by
  rintro pins s σ H vx vy v u Q I rx ry ⟨x, y, S, Kd, hs, r1, r2, h, hp⟩
  cases x <;> cases y <;> first
    | exact (show False from h).elim
    | (cases r1; cases r2; exact op_mulW pins s σ H _ _ v u Q I rx ry ⟨_, _, rfl, rfl, h.1, hp _ _ _ _ h.2 (.refl H) .refl hs rfl⟩)
    | skip
  rename_i ds k
  obtain ⟨p, xs, rfl, t1, z1, rd1⟩ := r1
  cases r2
  obtain ⟨⟨h1, h2, h3⟩, h⟩ := h
  exact rep_tup I rx ry hs t1 rd1 h1 h2 (by rw [rd1.length]; exact h3) h hp
end
end Lt

set_option Elab.async false
set_option linter.all false
set_option maxRecDepth 100000
set_option maxHeartbeats 4000000
namespace Lt
open PySem PySem.Spec PyProof.Rows L2

/-! ### comparisons -/
section
variable {K : PySem.W.Frag} {H : Hp}
mutual
theorem pd_dp : ∀ {x : D} {v : V} {d : PyData}, RelD K H x v → pd x = some d → Dp K H v d
  | .non, v, d, r, e => by
    have e : some PyData.none = some d := e
    cases e
    rw [show v = _ from r]
    exact .non
  | .bl b, v, d, r, e => by
    have e : some (PyData.bool b) = some d := e
    cases e
    rw [show v = _ from r]
    exact .bl b
  | .int i, v, d, r, e => by
    have e : some (PyData.int i) = some d := e
    cases e
    rw [show v = _ from r]
    exact .int i
  | .str z, v, d, r, e => by
    have e : some (PyData.str z) = some d := e
    cases e
    rw [show v = _ from r]
    exact .str z
  | .ref a, v, d, r, e => by
    have e : none = some d := e
    cases e
  | .fn a, v, d, r, e => by
    have e : none = some d := e
    cases e
  | .tup ds, v, d, r, e => by
    have e : (match pds ds with
      | some xs => some (PyData.tuple xs)
      | none => none) = some d := e
    cases q : pds ds with
    | none =>
      rw [q] at e
      cases e
    | some xs =>
      rw [q] at e
      cases e
      obtain ⟨a, ys, rfl, t, _, rd⟩ := r
      exact .tup t.sqt (pds_dp rd q)
  | .rl ds, v, d, r, e => by
    have e : (match pds ds with
      | some xs => some (PyData.list xs)
      | none => none) = some d := e
    cases q : pds ds with
    | none =>
      rw [q] at e
      cases e
    | some xs =>
      rw [q] at e
      cases e
      obtain ⟨a, ys, rfl, t, _, rd⟩ := r
      exact .lst t.sql (pds_dp rd q)
theorem pds_dp : ∀ {xs : List D} {vs : List V} {ds : List PyData}, RelDs K H xs vs → pds xs = some ds → DpAll K H vs ds
  | [], vs, ds, r, e => by
    have e : some [] = some ds := e
    cases e
    rw [show vs = [] from r]
    exact .nil
  | x :: xs, vs, ds, r, e => by
    obtain ⟨y, ys, rfl, r1, r2⟩ := r
    have e : (match pd x, pds xs with
      | some x, some xs => some (x :: xs)
      | _, _ => none) = some ds := e
    cases q1 : pd x with
    | none =>
      rw [q1] at e
      cases e
    | some d =>
      cases q2 : pds xs with
      | none =>
        rw [q1, q2] at e
        cases e
      | some es =>
        rw [q1, q2] at e
        cases e
        exact .cons (pd_dp r1 q1) (pds_dp r2 q2)
end
theorem pdT_dp {S : Sto} {x : D} {v : V} {d : PyData} (hs : RS K H S) (r : RelD K H x v) (e : pdT S x = some d) : Dp K H v d := by
  cases x with
  | ref a =>
    have e : (match S a with
      | some (.lst ds) => (pds ds).map PyData.list
      | _ => none) = some d := e
    cases q : S a with
    | none => rw [q] at e; cases e
    | some c =>
      rw [q] at e
      cases c <;> first | (cases e; done) | skip
      rename_i ds
      have e : (pds ds).map PyData.list = some d := e
      cases q2 : pds ds with
      | none => rw [q2] at e; cases e
      | some es =>
        rw [q2] at e
        cases e
        obtain ⟨xs, h1, rd, _⟩ := hs.lst q
        cases r
        exact .lst (.of h1) (pds_dp rd q2)
  | non => exact pd_dp r e
  | bl => exact pd_dp r e
  | int => exact pd_dp r e
  | str => exact pd_dp r e
  | fn => exact pd_dp r e
  | tup => exact pd_dp r e
  | rl => exact pd_dp r e
end
section
variable {X : Cx}
theorem eq_of {K : PySem.W.Frag} {H : Hp} {S : Sto} {x y : D} {vx vy : V} {Kb : Bool → Prop} (hs : RS K H S) (r1 : RelD K H x vx) (r2 : RelD K H y vy) (h : eqD x y S Kb) :
    (scal vx vy = true ∧ Kb (decide (vx = vy))) ∨ ∃ d e, Dp K H vx d ∧ Dp K H vy e ∧ SeqAt.shaped d = true ∧ SeqAt.shaped e = true ∧ Kb (PyData.eqv d e) := by
  have gen : (match pdT S x, pdT S y with
      | some d, some e => SeqAt.shaped d = true ∧ SeqAt.shaped e = true ∧ Kb (PyData.eqv d e)
      | _, _ => False) → ∃ d e, Dp K H vx d ∧ Dp K H vy e ∧ SeqAt.shaped d = true ∧ SeqAt.shaped e = true ∧ Kb (PyData.eqv d e) := fun h => by
    cases q1 : pdT S x with
    | none => rw [q1] at h; exact h.elim
    | some d =>
      cases q2 : pdT S y with
      | none => rw [q1, q2] at h; exact h.elim
      | some e =>
        rw [q1, q2] at h
        exact ⟨d, e, pdT_dp hs r1 q1, pdT_dp hs r2 q2, h.1, h.2.1, h.2.2⟩
  cases x <;> cases y <;> first
    | exact .inr (gen h)
    | (cases r1; cases r2
       refine .inl ⟨rfl, ?_⟩
       have h := h
       unfold eqD at h
       simpa using h)
theorem od_eq (hu : X.A.units + 64 < cLine) : OpR X (compareOp .Eq) (rD X.K (cmpD .eq)) := by
  rintro pins s σ H vx vy v u Q I rx ry ⟨x, y, S, Kd, hs, r1, r2, h, hp⟩
  rcases eq_of (Kb := fun b => Kd (.bl b) S) hs r1 r2 h with ⟨hsc, q⟩ | ⟨d, e, h1, h2, h3, h4, q⟩
  · exact op_eq pins s σ H _ _ v u Q I rx ry ⟨hsc, hp _ _ _ _ q (.refl H) .refl hs rfl⟩
  · exact op_eqD hu pins s σ H _ _ v u Q I rx ry ⟨d, e, h1, h2, h3, h4, hp _ _ _ _ q (.refl H) .refl hs rfl⟩
theorem od_ne (hu : X.A.units + 64 < cLine) : OpR X (compareOp .NotEq) (rD X.K (cmpD .ne)) := by
  rintro pins s σ H vx vy v u Q I rx ry ⟨x, y, S, Kd, hs, r1, r2, h, hp⟩
  rcases eq_of (Kb := fun b => Kd (.bl (!b)) S) hs r1 r2 h with ⟨hsc, q⟩ | ⟨d, e, h1, h2, h3, h4, q⟩
  · exact op_ne pins s σ H _ _ v u Q I rx ry ⟨hsc, hp _ _ _ _ q (.refl H) .refl hs rfl⟩
  · exact op_neD hu pins s σ H _ _ v u Q I rx ry ⟨d, e, h1, h2, h3, h4, hp _ _ _ _ q (.refl H) .refl hs rfl⟩
theorem od_cmpI {op : CmpOp} {cop : COp} {f : Int → Int → Bool} (ho : OpR X (compareOp op) (rI0 fun i j => .bl (f i j)))
    (hb : ∀ x y S Kd, cmpD cop x y S Kd → ∃ i j, x = .int i ∧ y = .int j ∧ Kd (.bl (f i j)) S) : OpR X (compareOp op) (rD X.K (cmpD cop)) := by
  rintro pins s σ H vx vy v u Q I rx ry ⟨x, y, S, Kd, hs, r1, r2, h, hp⟩
  obtain ⟨i, j, rfl, rfl, q⟩ := hb _ _ _ _ h
  cases r1
  cases r2
  exact ho pins s σ H _ _ v u Q I rx ry ⟨_, _, rfl, rfl, hp _ _ _ _ q (.refl H) .refl hs rfl⟩
theorem od_lt : OpR X (compareOp .Lt) (rD X.K (cmpD .lt)) := od_cmpI op_lt fun x y S Kd h => by
  cases x <;> cases y <;> first | exact (show False from h).elim | exact ⟨_, _, rfl, rfl, h⟩
theorem od_le : OpR X (compareOp .LtE) (rD X.K (cmpD .le)) := od_cmpI op_le fun x y S Kd h => by
  cases x <;> cases y <;> first | exact (show False from h).elim | exact ⟨_, _, rfl, rfl, h⟩
theorem od_gt : OpR X (compareOp .Gt) (rD X.K (cmpD .gt)) := od_cmpI op_gt fun x y S Kd h => by
  cases x <;> cases y <;> first | exact (show False from h).elim | exact ⟨_, _, rfl, rfl, h⟩
theorem od_ge : OpR X (compareOp .GtE) (rD X.K (cmpD .ge)) := od_cmpI op_ge fun x y S Kd h => by
  cases x <;> cases y <;> first | exact (show False from h).elim | exact ⟨_, _, rfl, rfl, h⟩
/-- x is True, x is False, whatever x is -/
theorem is_bl {pins : List (Addr × Obj)} {s : Shared} {σ : L2.St} {H : Hp} {x : V} {v : Value} {b : Bool} {Q : VK} (I : Inv X pins σ H s) (rx : RelV x v) (h : Q (.bl (decide (x = .bl b))) H) : wpAny (model X.prog X.w) X.A (compareOp .Is v (.bool b)) (EP X pins σ Q) X.xe s := by
  have other : plainIs v (.bool b) = true → v ≠ .bool b → decide (x = .bl b) = false → wpAny (model X.prog X.w) X.A (compareOp .Is v (.bool b)) (EP X pins σ Q) X.xe s := fun p n e => by
    rw [e] at h
    exact wpAny_is_other p n ⟨.bl false, H, I, rfl, h⟩
  cases x with
  | bl c =>
    cases rx
    by_cases e : c = b
    · subst e
      exact wpAny_is_self rfl ⟨.bl true, H, I, rfl, by simpa using h⟩
    · exact other rfl (fun z => e (Value.bool.inj z)) (by simpa using e)
  | non => cases rx; exact other rfl (fun z => nomatch z) rfl
  | int i => obtain ⟨t, rfl⟩ := rx; exact other rfl (fun z => nomatch z) rfl
  | str i => obtain ⟨t, rfl⟩ := rx; exact other rfl (fun z => nomatch z) rfl
  | byt i => obtain ⟨t, rfl⟩ := rx; exact other rfl (fun z => nomatch z) rfl
  | flt i => obtain ⟨t, rfl⟩ := rx; exact other rfl (fun z => nomatch z) rfl
  | ref i => cases rx; exact other rfl (fun z => nomatch z) rfl
  | ty i => cases rx; exact other rfl (fun z => nomatch z) rfl
theorem isnot_bl {pins : List (Addr × Obj)} {s : Shared} {σ : L2.St} {H : Hp} {x : V} {v : Value} {b : Bool} {Q : VK} (I : Inv X pins σ H s) (rx : RelV x v) (h : Q (.bl (!decide (x = .bl b))) H) : wpAny (model X.prog X.w) X.A (compareOp .IsNot v (.bool b)) (EP X pins σ Q) X.xe s := by
  have other : plainIs v (.bool b) = true → v ≠ .bool b → decide (x = .bl b) = false → wpAny (model X.prog X.w) X.A (compareOp .IsNot v (.bool b)) (EP X pins σ Q) X.xe s := fun p n e => by
    rw [e] at h
    exact wpAny_isNot_other p n ⟨.bl true, H, I, rfl, h⟩
  cases x with
  | bl c =>
    cases rx
    by_cases e : c = b
    · subst e
      exact wpAny_isNot_self rfl ⟨.bl false, H, I, rfl, by simpa using h⟩
    · exact other rfl (fun z => e (Value.bool.inj z)) (by simpa using e)
  | non => cases rx; exact other rfl (fun z => nomatch z) rfl
  | int i => obtain ⟨t, rfl⟩ := rx; exact other rfl (fun z => nomatch z) rfl
  | str i => obtain ⟨t, rfl⟩ := rx; exact other rfl (fun z => nomatch z) rfl
  | byt i => obtain ⟨t, rfl⟩ := rx; exact other rfl (fun z => nomatch z) rfl
  | flt i => obtain ⟨t, rfl⟩ := rx; exact other rfl (fun z => nomatch z) rfl
  | ref i => cases rx; exact other rfl (fun z => nomatch z) rfl
  | ty i => cases rx; exact other rfl (fun z => nomatch z) rfl
theorem isNon_rel {K : PySem.W.Frag} {H : Hp} {x : D} {v : V} (r : RelD K H x v) : decide (v = .non) = isNonD x := by
  cases x with
  | tup ds => obtain ⟨a, xs, rfl, _⟩ := r; rfl
  | rl ds => obtain ⟨a, xs, rfl, _⟩ := r; rfl
  | _ => rw [show v = _ from r]; rfl
theorem isBl_rel {K : PySem.W.Frag} {H : Hp} {x : D} {v : V} {b : Bool} (r : RelD K H x v) : decide (v = .bl b) = isBlD b x := by
  cases x with
  | tup ds => obtain ⟨a, xs, rfl, _⟩ := r; rfl
  | rl ds => obtain ⟨a, xs, rfl, _⟩ := r; rfl
  | bl c =>
    rw [show v = _ from r]
    show decide (V.bl c = V.bl b) = (b == c)
    cases b <;> cases c <;> rfl
  | _ => rw [show v = _ from r]; rfl
theorem od_is : OpR X (compareOp .Is) (rD X.K (cmpD .is_)) := by
  rintro pins s σ H vx vy v u Q I rx ry ⟨x, y, S, Kd, hs, r1, r2, h, hp⟩
  cases y with
  | non =>
    cases r2
    have h : Kd (.bl (isNonD x)) S := by cases x <;> exact h
    exact op_isN pins s σ H _ _ v u Q I rx ry ⟨rfl, by rw [isNon_rel r1]; exact hp _ _ _ _ h (.refl H) .refl hs rfl⟩
  | bl b =>
    cases r2
    cases ry
    have h : Kd (.bl (isBlD b x)) S := by cases x <;> exact h
    exact is_bl I rx (by rw [isBl_rel r1]; exact hp _ _ _ _ h (.refl H) .refl hs rfl)
  | _ => exfalso; cases x <;> exact h
theorem od_isnot : OpR X (compareOp .IsNot) (rD X.K (cmpD .isnot)) := by
  rintro pins s σ H vx vy v u Q I rx ry ⟨x, y, S, Kd, hs, r1, r2, h, hp⟩
  cases y with
  | non =>
    cases r2
    have h : Kd (.bl (!isNonD x)) S := by cases x <;> exact h
    exact op_notN pins s σ H _ _ v u Q I rx ry ⟨rfl, by rw [isNon_rel r1]; exact hp _ _ _ _ h (.refl H) .refl hs rfl⟩
  | bl b =>
    cases r2
    cases ry
    have h : Kd (.bl (!isBlD b x)) S := by cases x <;> exact h
    exact isnot_bl I rx (by rw [isBl_rel r1]; exact hp _ _ _ _ h (.refl H) .refl hs rfl)
  | _ => exfalso; cases x <;> exact h
/-- flat values -/
theorem flat_rel {K : PySem.W.Frag} {H : Hp} {x : D} {v : V} (r : RelD K H x v) (f : flatD x = true) : flatV v = true := by
  cases x with
  | tup ds => cases f
  | rl ds => cases f
  | ref a => cases f
  | fn a => cases f
  | _ => rw [show v = _ from r]; rfl
theorem eqF_rel {K : PySem.W.Frag} {H : Hp} {x y : D} {v u : V} (r1 : RelD K H x v) (r2 : RelD K H y u) (f1 : flatD x = true) (f2 : flatD y = true) : eqV v u = eqF x y := by
  cases x <;> cases y <;> first
    | (cases f1; done)
    | (cases f2; done)
    | (rw [show v = _ from r1, show u = _ from r2]; rfl)
theorem any_rel {K : PySem.W.Frag} {H : Hp} {x : D} {v : V} (r1 : RelD K H x v) (f1 : flatD x = true) : ∀ {ds : List D} {vs : List V}, RelDs K H ds vs → ds.all flatD = true → vs.all flatV = true ∧ inV v vs = ds.any fun z => eqF z x
  | [], vs, h, _ => by
    rw [show vs = [] from h]
    exact ⟨rfl, rfl⟩
  | d :: ds, vs, h, f => by
    obtain ⟨y, ys, rfl, r2, r3⟩ := h
    rw [List.all_cons, Bool.and_eq_true] at f
    obtain ⟨q1, q2⟩ := any_rel r1 f1 r3 f.2
    refine ⟨by rw [List.all_cons, flat_rel r2 f.1, q1]; rfl, ?_⟩
    unfold inV at q2 ⊢
    rw [List.any_cons, List.any_cons, eqF_rel r2 r1 f.1 f1, q2]
theorem in_of {K : PySem.W.Frag} {H : Hp} {S : Sto} {x y : D} {vx vy : V} {Kb : Bool → Prop} (hs : RS K H S) (r1 : RelD K H x vx) (r2 : RelD K H y vy) (h : inD x y S Kb) :
    ∃ p xs, vy = .ref p ∧ (SqL K H p xs ∨ SqT K H p xs) ∧ flatV vx = true ∧ xs.all flatV = true ∧ Kb (inV vx xs) := by
  cases y with
  | tup ds =>
    obtain ⟨f1, f2, h⟩ := h
    obtain ⟨a, xs, rfl, t, _, rd⟩ := r2
    obtain ⟨q1, q2⟩ := any_rel r1 f1 rd f2
    exact ⟨a, xs, rfl, .inr t.sqt, flat_rel r1 f1, q1, by rw [q2]; exact h⟩
  | rl ds =>
    obtain ⟨f1, f2, h⟩ := h
    obtain ⟨a, xs, rfl, t, _, rd⟩ := r2
    obtain ⟨q1, q2⟩ := any_rel r1 f1 rd f2
    exact ⟨a, xs, rfl, .inl t.sql, flat_rel r1 f1, q1, by rw [q2]; exact h⟩
  | ref a =>
    have h : (match S a with
      | some (.lst ds) => flatD x = true ∧ ds.all flatD = true ∧ Kb (ds.any fun z => eqF z x)
      | _ => False) := h
    cases q : S a with
    | none => rw [q] at h; exact h.elim
    | some c =>
      rw [q] at h
      cases c <;> first | exact h.elim | skip
      rename_i ds
      obtain ⟨f1, f2, h⟩ := h
      obtain ⟨xs, h1, rd, _⟩ := hs.lst q
      obtain ⟨q1, q2⟩ := any_rel r1 f1 rd f2
      cases r2
      exact ⟨a, xs, rfl, .inl (.of h1), flat_rel r1 f1, q1, by rw [q2]; exact h⟩
  | _ => exact (show False from h).elim
theorem od_in : OpR X (compareOp .In) (rD X.K (cmpD .in_)) := by
  rintro pins s σ H vx vy v u Q I rx ry ⟨x, y, S, Kd, hs, r1, r2, h, hp⟩
  have h : inD x y S fun b => Kd (.bl b) S := by cases x <;> cases y <;> exact h
  obtain ⟨p, xs, e, t, f1, f2, q⟩ := in_of hs r1 r2 h
  exact op_in_seq pins s σ H _ _ v u Q I rx ry ⟨p, xs, e, t, f1, f2, hp _ _ _ _ q (.refl H) .refl hs rfl⟩
theorem od_notin : OpR X (compareOp .NotIn) (rD X.K (cmpD .notin)) := by
  rintro pins s σ H vx vy v u Q I rx ry ⟨x, y, S, Kd, hs, r1, r2, h, hp⟩
  have h : inD x y S fun b => Kd (.bl (!b)) S := by cases x <;> cases y <;> exact h
  obtain ⟨p, xs, e, t, f1, f2, q⟩ := in_of (Kb := fun b => Kd (.bl (!b)) S) hs r1 r2 h
  exact op_notIn_seq pins s σ H _ _ v u Q I rx ry ⟨p, xs, e, t, f1, f2, hp _ _ _ _ q (.refl H) .refl hs rfl⟩
end
end Lt

set_option Elab.async false
set_option linter.all false
set_option maxRecDepth 100000
set_option maxHeartbeats 4000000
namespace Lt
open PySem PySem.Spec PyProof.Rows L2

section
variable {X : Cx} {pos : Pos} {a b c : Expr} {ta tb tc : DE} {tA tB : DT} {rest : List Expr}
/-! ### and, or, not, a if t else b: as values -/
theorem pd_one {op} (h : PDE X a ta) : PDE X (.BoolOp op [a] pos) ta := pe_one h
theorem pd_and (ha : PDE X a ta) (hb : PDE X (.BoolOp .And (b :: rest) pos) tb) : PDE X (.BoolOp .And (a :: b :: rest) pos) (fun ρ S K => ta ρ S fun x S1 => match x with
    | .bl k => if k = true then tb ρ S1 K else K (.bl false) S1
    | _ => False) := peI (pe_and ha hb) fun σ H Q ⟨ρ, S, Kd, he, hs, ht, hp⟩ => by
  refine ⟨ρ, S, _, he, hs, ht, fun x S1 v H1 h1 k1 e1 r1 rd1 => ?_⟩
  cases x with
  | bl k =>
    cases rd1
    refine ⟨k, rfl, ?_⟩
    cases k with
    | true => exact ⟨ρ, S1, _, he.keep k1, r1, h1, hp.go k1 e1⟩
    | false => exact hp _ _ _ _ h1 k1 e1 r1 rfl
  | _ => exact (show False from h1).elim
theorem pd_or (ha : PDE X a ta) (hb : PDE X (.BoolOp .Or (b :: rest) pos) tb) : PDE X (.BoolOp .Or (a :: b :: rest) pos) (fun ρ S K => ta ρ S fun x S1 => match x with
    | .bl k => if k = true then K (.bl true) S1 else tb ρ S1 K
    | _ => False) := peI (pe_or ha hb) fun σ H Q ⟨ρ, S, Kd, he, hs, ht, hp⟩ => by
  refine ⟨ρ, S, _, he, hs, ht, fun x S1 v H1 h1 k1 e1 r1 rd1 => ?_⟩
  cases x with
  | bl k =>
    cases rd1
    refine ⟨k, rfl, ?_⟩
    cases k with
    | false => exact ⟨ρ, S1, _, he.keep k1, r1, h1, hp.go k1 e1⟩
    | true => exact hp _ _ _ _ h1 k1 e1 r1 rfl
  | _ => exact (show False from h1).elim
theorem pd_not (ha : PDE X a ta) : PDE X (.UnaryOp .Not a pos) (fun ρ S K => ta ρ S fun x S1 => match x with
    | .bl k => K (.bl (!k)) S1
    | _ => False) := peI (pe_not ha) fun σ H Q ⟨ρ, S, Kd, he, hs, ht, hp⟩ => by
  refine ⟨ρ, S, _, he, hs, ht, fun x S1 v H1 h1 k1 e1 r1 rd1 => ?_⟩
  cases x with
  | bl k =>
    cases rd1
    exact ⟨k, rfl, hp _ _ _ _ h1 k1 e1 r1 rfl⟩
  | _ => exact (show False from h1).elim
theorem pd_neg (ha : PDE X a ta) : PDE X (.UnaryOp .USub a pos) (fun ρ S K => ta ρ S fun x S1 => match x with
    | .int i => K (.int (-i)) S1
    | _ => False) := peI (pe_un un_neg ha) fun σ H Q ⟨ρ, S, Kd, he, hs, ht, hp⟩ => by
  refine ⟨ρ, S, _, he, hs, ht, fun x S1 v H1 h1 k1 e1 r1 rd1 => ?_⟩
  cases x with
  | int i =>
    cases rd1
    exact ⟨i, rfl, hp _ _ _ _ h1 k1 e1 r1 rfl⟩
  | _ => exact (show False from h1).elim
theorem pd_inv (ha : PDE X a ta) : PDE X (.UnaryOp .Invert a pos) (fun ρ S K => ta ρ S fun x S1 => match x with
    | .int i => K (.int (Builtin.bitNot i)) S1
    | _ => False) := peI (pe_un un_inv ha) fun σ H Q ⟨ρ, S, Kd, he, hs, ht, hp⟩ => by
  refine ⟨ρ, S, _, he, hs, ht, fun x S1 v H1 h1 k1 e1 r1 rd1 => ?_⟩
  cases x with
  | int i =>
    cases rd1
    exact ⟨i, rfl, hp _ _ _ _ h1 k1 e1 r1 rfl⟩
  | _ => exact (show False from h1).elim
theorem pd_ite (hc : PDT X c tA) (ha : PDE X a ta) (hb : PDE X b tb) : PDE X (.IfExp c a b pos) (fun ρ S K => tA ρ S fun k S1 => if k = true then ta ρ S1 K else tb ρ S1 K) := peI (pe_ifExp hc ha hb) fun σ H Q ⟨ρ, S, Kd, he, hs, ht, hp⟩ => by
  refine ⟨ρ, S, _, he, hs, ht, fun k S1 H1 h1 k1 e1 r1 => ?_⟩
  cases k with
  | true => exact ⟨ρ, S1, _, he.keep k1, r1, h1, hp.go k1 e1⟩
  | false => exact ⟨ρ, S1, _, he.keep k1, r1, h1, hp.go k1 e1⟩
/-! ### .. as tests -/
theorem pdw_and1 (ha : PDT X a tA) : PDW X (.BoolOp .And [a] pos) tA := pw_and1 ha
theorem pdw_or1 (ha : PDT X a tA) : PDW X (.BoolOp .Or [a] pos) tA := pw_or1 ha
theorem pdw_and (ha : PDT X a tA) (hb : PDW X (.BoolOp .And (b :: rest) pos) tB) : PDW X (.BoolOp .And (a :: b :: rest) pos) (fun ρ S K => tA ρ S fun x S1 => if x = true then tB ρ S1 K else K false S1) :=
  pwI (pw_and ha hb) fun σ H Q ⟨ρ, S, Kd, he, hs, ht, hp⟩ => by
    refine ⟨ρ, S, _, he, hs, ht, fun k S1 H1 h1 k1 e1 r1 => ?_⟩
    cases k with
    | true => exact ⟨ρ, S1, _, he.keep k1, r1, h1, hp.go k1 e1⟩
    | false => exact hp _ _ _ h1 k1 e1 r1
theorem pdw_or (ha : PDT X a tA) (hb : PDW X (.BoolOp .Or (b :: rest) pos) tB) : PDW X (.BoolOp .Or (a :: b :: rest) pos) (fun ρ S K => tA ρ S fun x S1 => if x = true then K true S1 else tB ρ S1 K) :=
  pwI (pw_or ha hb) fun σ H Q ⟨ρ, S, Kd, he, hs, ht, hp⟩ => by
    refine ⟨ρ, S, _, he, hs, ht, fun k S1 H1 h1 k1 e1 r1 => ?_⟩
    cases k with
    | false => exact ⟨ρ, S1, _, he.keep k1, r1, h1, hp.go k1 e1⟩
    | true => exact hp _ _ _ h1 k1 e1 r1
theorem pdt_not (ha : PDT X a tA) : PDT X (.UnaryOp .Not a pos) (fun ρ S K => tA ρ S fun b S1 => K (!b) S1) := ptI (pt_not ha) fun σ H Q ⟨ρ, S, Kd, he, hs, ht, hp⟩ =>
  ⟨ρ, S, _, he, hs, ht, fun k S1 H1 h1 k1 e1 r1 => hp _ _ _ h1 k1 e1 r1⟩
theorem isEmpty_rel {K : PySem.W.Frag} {H : Hp} {ds : List D} {vs : List V} (r : RelDs K H ds vs) : vs.isEmpty = ds.isEmpty := by
  cases ds with
  | nil => rw [show vs = [] from r] <;> rfl
  | cons d ds => obtain ⟨y, ys, rfl, _⟩ := r; rfl
theorem pdt_tru (ha : PDE X a ta) (he : ∀ whole, isTrue a X.env whole = (do let v ← whole; standAt a.pos; holding [v] (truthy v))) : PDT X a (fun ρ S K => ta ρ S fun x S1 => truD x S1 fun b => K b S1) :=
  ptI (pt_truth ha he) fun σ H Q ⟨ρ, S, Kd, he, hs, ht, hp⟩ => by
    refine ⟨ρ, S, _, he, hs, ht, fun x S1 v H1 h1 k1 e1 r1 rd1 => ?_⟩
    cases x with
    | bl k => cases rd1; exact ⟨k, rfl, hp _ _ _ h1 k1 e1 r1⟩
    | non => cases rd1; exact ⟨false, rfl, hp _ _ _ h1 k1 e1 r1⟩
    | int i => cases rd1; exact ⟨_, rfl, hp _ _ _ h1 k1 e1 r1⟩
    | tup ds =>
      obtain ⟨p, xs, rfl, t, z, rd⟩ := rd1
      exact ⟨_, .inr (.inl ⟨xs, t.sqt, rfl⟩), by rw [isEmpty_rel rd]; exact hp _ _ _ h1 k1 e1 r1⟩
    | ref p =>
      have h1 : (match S1 p with
        | some (.lst ds) => Kd (!ds.isEmpty) S1
        | _ => False) := h1
      cases q : S1 p with
      | none => rw [q] at h1; exact h1.elim
      | some cc =>
        rw [q] at h1
        cases cc <;> first | exact h1.elim | skip
        obtain ⟨xs, g1, rd, _⟩ := r1.lst q
        cases rd1
        exact ⟨_, .inl ⟨xs, .of g1, rfl⟩, by rw [isEmpty_rel rd]; exact hp _ _ _ h1 k1 e1 r1⟩
    | _ => exact (show False from h1).elim
theorem pd_chain {op op' : CmpOp} {g g' : D → D → Sto → Kt → Prop} (ho : OpR X (compareOp op) (rD X.K g)) (ho' : OpR X (compareOp op') (rD X.K g')) (ha : PDE X a ta) (hb : PDE X b tb) (hc : PDE X c tc) (hm : lastMarks [op, op'] [b, c] = false) :
    PDE X (.Compare a [op, op'] [b, c] pos) (fun ρ S K => ta ρ S fun x S1 => tb ρ S1 fun y S2 => g x y S2 fun z S3 => match z with
      | .bl k => if k = true then tc ρ S3 fun u S4 => g' y u S4 fun z' S5 => (match z' with
        | .bl k' => K (.bl k') S5
        | _ => False) else K (.bl false) S3
      | _ => False) := peI (pe_chain ho ho' ha hb hc hm) fun σ H Q ⟨ρ, S, Kd, he, hs, ht, hp⟩ => by
  refine ⟨ρ, S, _, he, hs, ht, fun x S1 v H1 h1 k1 e1 r1 rd1 => ?_⟩
  refine ⟨ρ, S1, _, he.keep k1, r1, h1, fun y S2 u H2 h2 k2 e2 r2 rd2 => ?_⟩
  refine ⟨x, y, S2, _, r2, rd1.keep k2, rd2, h2, fun z S3 w H3 h3 k3 e3 r3 rd3 => ?_⟩
  cases z with
  | bl k =>
    cases rd3
    refine ⟨k, rfl, ?_⟩
    have k123 := k1.trans (k2.trans k3)
    have e123 := e1.trans k1 (e2.trans k2 e3)
    cases k with
    | false => exact hp _ _ _ _ h3 k123 e123 r3 rfl
    | true =>
      refine ⟨ρ, S3, _, he.keep k123, r3, h3, fun t S4 q H4 h4 k4 e4 r4 rd4 => ?_⟩
      refine ⟨y, t, S4, _, r4, rd2.keep (k3.trans k4), rd4, h4, fun z' S5 w' H5 h5 k5 e5 r5 rd5 => ?_⟩
      cases z' with
      | bl k' =>
        cases rd5
        exact hp _ _ _ _ h5 (k123.trans (k4.trans k5)) (e123.trans k123 (e4.trans k4 e5)) r5 rfl
      | _ => exact (show False from h5).elim
  | _ => exact (show False from h3).elim
/-! ### subscripts -/
theorem atI_rel {K : PySem.W.Frag} {H : Hp} {ds : List D} {vs : List V} {i : Int} {d : D} (r : RelDs K H ds vs) (e : atI ds i = some d) : ∃ v, atI vs i = some v ∧ RelD K H d v := by
  unfold atI at e ⊢
  rw [r.length]
  cases q : ixN ds.length i with
  | none => rw [q] at e; cases e
  | some j =>
    rw [q] at e
    exact r.get (show ds[j]? = some d from e)
def rIxD (K : PySem.W.Frag) : R2 := rD K idxD
theorem ix_D : IxR X (rIxD X.K) := by
  rintro value slice pins s σ H vx vy v u Q I rx ry ⟨x, y, S, Kd, hs, r1, r2, h, hp⟩ hsub
  cases x with
  | tup ds =>
    cases y with
    | int i =>
      have h : (match atI ds i with
        | some d => Kd d S
        | none => False) := h
      cases e : atI ds i with
      | none => rw [e] at h; exact h.elim
      | some d =>
        rw [e] at h
        obtain ⟨p, xs, rfl, t, z, rd⟩ := r1
        cases r2
        obtain ⟨w, e2, rw'⟩ := atI_rel rd e
        exact ix_tup value slice pins s σ H _ _ v u Q I rx ry ⟨p, xs, i, w, rfl, rfl, t.sqt, e2, hp _ _ _ _ h (.refl H) .refl hs rw'⟩ hsub
    | _ => exact (show False from h).elim
  | rl ds =>
    cases y with
    | int i =>
      have h : (match atI ds i with
        | some d => Kd d S
        | none => False) := h
      cases e : atI ds i with
      | none => rw [e] at h; exact h.elim
      | some d =>
        rw [e] at h
        obtain ⟨p, xs, rfl, t, z, rd⟩ := r1
        cases r2
        obtain ⟨w, e2, rw'⟩ := atI_rel rd e
        exact ix_list value slice pins s σ H _ _ v u Q I rx ry ⟨p, xs, i, w, rfl, rfl, t.sql, e2, hp _ _ _ _ h (.refl H) .refl hs rw'⟩ hsub
    | _ => exact (show False from h).elim
  | ref p =>
    cases y with
    | int i =>
      have h : (match S p with
        | some (.lst ds) => (match atI ds i with
          | some d => Kd d S
          | none => False)
        | _ => False) := h
      cases q : S p with
      | none => rw [q] at h; exact h.elim
      | some cc =>
        rw [q] at h
        cases cc <;> first | exact h.elim | skip
        rename_i ds
        have h : (match atI ds i with
          | some d => Kd d S
          | none => False) := h
        cases e : atI ds i with
        | none => rw [e] at h; exact h.elim
        | some d =>
          rw [e] at h
          obtain ⟨xs, g1, rd, _⟩ := hs.lst q
          cases r1
          cases r2
          obtain ⟨w, e2, rw'⟩ := atI_rel rd e
          exact ix_list value slice pins s σ H _ _ v u Q I rx ry ⟨p, xs, i, w, rfl, rfl, .of g1, e2, hp _ _ _ _ h (.refl H) .refl hs rw'⟩ hsub
    | _ => exact (show False from h).elim
  | _ => exact (show False from h).elim
theorem pd_ix (ha : PDE X a ta) (hb : PDE X b tb) (hx : PlainIx b) : PDE X (.Subscript a b pos) (fun ρ S K => ta ρ S fun x S1 => tb ρ S1 fun y S2 => idxD x y S2 K) := peI (pe_ix ix_D ha hb hx) fun _ _ _ => rD_of

/-! ### slices -/
theorem cut_rel {K : PySem.W.Frag} {H : Hp} {ds : List D} {vs : List V} {lo hi : Option Int} (r : RelDs K H ds vs) : RelDs K H (cutD ds lo hi) (cutV vs lo hi) := by
  unfold cutD cutV
  rw [r.length]
  exact (r.drop _).take _
theorem cutD_le (ds : List D) (lo hi : Option Int) : (cutD ds lo hi).length ≤ ds.length := by
  unfold cutD
  rw [List.length_take, List.length_drop]
  omega
abbrev DO := Env → Sto → (Option Int → Sto → Prop) → Prop
def LiftO (K : PySem.W.Frag) (t : DO) : TO := fun σ H Q => ∃ ρ S Kd, RelEnv K H σ ρ ∧ RS K H S ∧ t ρ S Kd ∧ ∀ o S' H', Kd o S' → Keep H H' → Ext H S S' → RS K H' S' → Q o H'
abbrev rSlD (K : PySem.W.Frag) : V → Option Int → Option Int → Hp → VK → Prop := fun vx lo hi H Q => ∃ x S Kd, RS K H S ∧ RelD K H x vx ∧ slcD x lo hi S Kd ∧ Post K H S Kd Q
theorem sl_D : SlR X (rSlD X.K) := by
  rintro pins s σ H vx v vl vu lo hi sl Q I rx hsl pl pu ⟨x, S, Kd, hs, r1, h, hp⟩
  cases x with
  | tup ds =>
    obtain ⟨p, xs, rfl, t, z, rd⟩ := r1
    have hz : ds.length ≤ sizeLine := by rw [← rd.length]; exact z
    have hz2 : (cutD ds lo hi).length ≤ sizeLine := Nat.le_trans (cutD_le _ _ _) hz
    cases rx
    obtain ⟨its, r, ht, hzs⟩ := I.tuple t.sqt
    have hlen : its.toArray.size = xs.length := by rw [List.size_toArray]; exact r.length.symm
    by_cases hw : HT.sIx xs.length 0 lo = 0 ∧ HT.sIx xs.length xs.length hi = xs.length
    · have ec : cutD ds lo hi = ds := by
        unfold cutD
        rw [rd.length] at hw
        rw [hw.1, hw.2]
        simp
      exact ⟨"tuple", _, PyProof.Rows.slot_tuple_getitem.lookup, ht.typeIs, getItem_tuple_whole ht hsl pl pu (by rw [hlen]; exact hw) ⟨.ref p, H, I, rfl, tup_there hs (ds := cutD ds lo hi) (by rw [ec]; exact rd) hz2 h hp t⟩⟩
    · refine ⟨"tuple", _, PyProof.Rows.slot_tuple_getitem.lookup, ht.typeIs, ?_⟩
      refine HT.getItem_tuple_cut ht hsl pl pu (by rw [hlen]; exact hw) ?_ (by rw [hlen]; exact z)
      rw [hlen]
      exact tup_end I hs (cut_rel rd) ((r.drop (HT.sIx xs.length 0 lo)).take (HT.sIx xs.length xs.length hi - HT.sIx xs.length 0 lo)) hz2 h hp s.toks
  | rl ds =>
    obtain ⟨p, xs, rfl, t, z, rd⟩ := r1
    have hz : ds.length ≤ sizeLine := by rw [← rd.length]; exact z
    exact sl_list pins s σ H _ v vl vu lo hi sl Q I rx hsl pl pu ⟨p, xs, rfl, t.sql, new_list hs (cut_rel rd) (Nat.le_trans (cutD_le _ _ _) hz) h hp⟩
  | ref p =>
    have h : (match S p with
      | some (.lst ds) => newL (cutD ds lo hi) S Kd
      | _ => False) := h
    cases q : S p with
    | none => rw [q] at h; exact h.elim
    | some cc =>
      rw [q] at h
      cases cc <;> first | exact h.elim | skip
      rename_i ds
      obtain ⟨xs, g1, rd, z⟩ := hs.lst q
      have hz : ds.length ≤ sizeLine := by rw [← rd.length]; exact z
      cases r1
      exact sl_list pins s σ H _ v vl vu lo hi sl Q I rx hsl pl pu ⟨p, xs, rfl, .of g1, new_list hs (cut_rel rd) (Nat.le_trans (cutD_le _ _ _) hz) h hp⟩
  | str z =>
    cases r1
    exact sl_str pins s σ H _ v vl vu lo hi sl Q I rx hsl pl pu ⟨z, rfl, h.1, hp _ _ _ _ h.2 (.refl H) .refl hs rfl⟩
  | _ => exact (show False from h).elim
theorem po_D0 : PO X none (LiftO X.K fun _ S K => K none S) := ⟨fun pins s σ H Q I ⟨ρ, S, Kd, he, hs, ht, hp⟩ =>
  po_none.run pins s σ H Q I (hp none S H ht (.refl H) .refl hs)⟩
theorem po_D1 (ha : PDE X a ta) : PO X (some a) (LiftO X.K fun ρ S K => ta ρ S fun d S1 => match d with
    | .int i => K (some i) S1
    | _ => False) := ⟨fun pins s σ H Q I ⟨ρ, S, Kd, he, hs, ht, hp⟩ => by
  refine (po_some ha).run pins s σ H Q I ⟨ρ, S, _, he, hs, ht, fun d S1 v H1 h1 k1 e1 r1 rd1 => ?_⟩
  cases d with
  | int j =>
    cases rd1
    exact ⟨j, rfl, hp _ _ _ h1 k1 e1 r1⟩
  | _ => exact (show False from h1).elim⟩
theorem pd_slc {lo hi : Option Expr} {p2 : Pos} {tl th : DO} (ha : PDE X a ta) (hl : PO X lo (LiftO X.K tl)) (hh : PO X hi (LiftO X.K th)) : PDE X (.Subscript a (.Slice lo hi none p2) pos) (fun ρ S K => ta ρ S fun x S1 => tl ρ S1 fun l S2 => th ρ S2 fun h S3 => slcD x l h S3 K) :=
  peI (pe_slice sl_D ha hl hh) fun σ H Q ⟨ρ, S, Kd, he, hs, ht, hp⟩ => by
    refine ⟨ρ, S, _, he, hs, ht, fun x S1 v H1 h1 k1 e1 r1 rd1 => ?_⟩
    refine ⟨ρ, S1, _, he.keep k1, r1, h1, fun l S2 H2 h2 k2 e2 r2 => ?_⟩
    refine ⟨ρ, S2, _, he.keep (k1.trans k2), r2, h2, fun h S3 H3 h3 k3 e3 r3 => ?_⟩
    exact ⟨x, S3, Kd, r3, rd1.keep (k2.trans k3), h3, hp.go (k1.trans (k2.trans k3)) (e1.trans k1 (e2.trans k2 e3))⟩
/-! ### a[::-1] -/
open HT in
theorem getItem_tuple_rev {prog : Program} {w : World} {A : Around} {E : Value → Shared → Prop} {s : Shared} {t sl : Addr} {items : Array Value} {tk : Tok} {Q : Value → Shared → Prop} (ht : IsTup s.heap t items) (hs : s.heap.IsSliceOf sl .none .none (.int (-1) tk))
    (h : Q (.ref s.heap.objs.size) { s with heap := s.heap.push { cls := .type "tuple", data := .seq items.toList.reverse.toArray } }) (hsz : items.size ≤ sizeLine) : wpAny (model prog w) A (getItem (.ref t) (.ref sl)) Q E s := by
  obtain ⟨os, hos, hcs, hds⟩ := id hs
  have hTs : s.TypeIs (.ref sl) "slice" := ⟨os, hos, hcs⟩
  unfold getItem
  try with_reducible refine wpAny_holding ?_
  first | refine wpAny_bind (wpAny_pure ?_) | skip
  refine wpAny_bind (wpAny_sequenceKey ht.typeIs (by decide) ?_)
  refine wpAny_bind (wpAny_callSpecial?_slot (name := Str.ofString "__getitem__") ht.typeIs PyProof.Rows.slot_tuple_getitem
    (wpAny_call_entry PyProof.Rows.slot_tuple_getitem ht.typeIs entry_tuple_getitem ?_ (args_tuple_getitem _ _)))
  show wpAny _ _ (Builtin.Tuple.tupleItemsOf (.ref t) >>= _) _ _ s
  refine wpAny_bind (tupleItemsOf_ ht ?_)
  refine wpAny_bind (wpAny_typeOf hTs ?_)
  rw [if_pos (by decide)]
  have happ : ∀ {R : Int × Int × Nat → Shared → Prop} {A : Around} {E : Value → Shared → Prop}, R ((items.size : Int) - 1, -1, items.size) s → wpAny (model prog w) A (Builtin.Slice.sliceApplied (.ref sl) (pure (items.size : Int))) R E s := fun {R A E} hR => by
    unfold Builtin.Slice.sliceApplied Builtin.Slice.sliceFields
    refine wpAny_bind (wpAny_bind (wpAny_field hos hds (x := .none) rfl (wpAny_bind (wpAny_field hos hds (x := .none) rfl (wpAny_bind (wpAny_field hos hds (x := .int (-1) tk) rfl (wpAny_pure ?_)))))))
    refine wpAny_bind (slicePart_int ?_)
    show wpAny _ _ (if ((-1 : Int) == 0) = true then _ else _) _ _ s
    rw [if_neg (by decide)]
    refine wpAny_bind (slicePart_none (wpAny_bind (slicePart_none (wpAny_bind (wpAny_pure ?_)))))
    show wpAny _ _ (match Builtin.Slice.sliceAdjust none none (-1) (items.size : Int) with | (lo, hi) => pure (lo, (-1 : Int), Builtin.Slice.slicePlaces lo hi (-1))) _ _ s
    have e1 : Builtin.Slice.sliceAdjust none none (-1) (items.size : Int) = ((items.size : Int) - 1, -1) := by
      unfold Builtin.Slice.sliceAdjust
      simp
    rw [e1]
    have e2 : Builtin.Slice.slicePlaces ((items.size : Int) - 1) (-1) (-1) = items.size := by
      unfold Builtin.Slice.slicePlaces
      simp
      try omega
    show wpAny _ _ (pure ((items.size : Int) - 1, (-1 : Int), Builtin.Slice.slicePlaces ((items.size : Int) - 1) (-1) (-1))) _ _ s
    rw [e2]
    exact wpAny_pure hR
  refine wpAny_bind (happ ?_)
  have hno : ¬ ((((items.size : Int) - 1 == 0 && (-1 : Int) == 1 && items.size == items.size)) = true) := by simp
  show wpAny _ _ (if ((items.size : Int) - 1 == 0 && (-1 : Int) == 1 && items.size == items.size) = true then _ else _) _ _ s
  rw [if_neg hno]
  have hpick : (List.filterMap (fun (k : Nat) => items[(((items.size : Int) - 1) + (k : Int) * (-1)).toNat]?) (List.range items.size)).toArray = items.toList.reverse.toArray := by
    congr 1
    have e : (List.range items.size).filterMap (fun (k : Nat) => items[(((items.size : Int) - 1) + (k : Int) * (-1)).toNat]?) = ((List.range items.size).map fun k => items.size - 1 - k).filterMap (items[·]?) := by
      rw [List.filterMap_map]
      have e3 : (fun (k : Nat) => items[(((items.size : Int) - 1) + (k : Int) * (-1)).toNat]?) = ((fun x => items[x]?) ∘ fun k => items.size - 1 - k) := by
        funext k
        have e2 : (((items.size : Int) - 1) + (k : Int) * (-1)).toNat = items.size - 1 - k := by omega
        show items[(((items.size : Int) - 1) + (k : Int) * (-1)).toNat]? = items[items.size - 1 - k]?
        rw [e2]
      rw [e3]
    rw [e, PySem.W.krv_range, List.filterMap_reverse, PySem.W.krv_all]
  rw [hpick]
  have htake : sizeOk (.seq items.toList.reverse.toArray) := by
    show items.toList.reverse.toArray.size ≤ sizeLine
    rw [List.size_toArray, List.length_reverse, Array.length_toList]
    exact hsz
  first
    | exact wpAny_bind (m := Builtin.Tuple.tupleExact _) (wpAny_newObj_type (wpAny_pure ⟨_, rfl, wpAny_pure h⟩) htake)
    | exact wpAny_bind (m := Builtin.Tuple.tupleExact _) (wpAny_newObj_type (wpAny_bind (wpAny_pure (wpAny_pure ⟨_, rfl, wpAny_pure h⟩))) htake)
    | exact wpAny_bind (wpAny_bind (m := Builtin.Tuple.tupleExact _) (wpAny_newObj_type (wpAny_pure (wpAny_pure ⟨_, rfl, wpAny_pure h⟩)) htake))
    | exact wpAny_bind (wpAny_bind (m := Builtin.Tuple.tupleExact _) (wpAny_newObj_type (wpAny_pure ⟨_, rfl, wpAny_pure h⟩) htake))

/-- the index -1 written -/
theorem pd_rev {k : Nat} {p1 p2 p3 : Pos} (he : PDE X a ta) : PDE X (.Subscript a (.Slice none none (some (.UnaryOp .USub (.Constant (.int 1) k p1) p2)) p3) pos) (fun ρ S K => ta ρ S fun x S1 => revD x S1 K) := by
  refine ⟨fun pins s σ H Q I ⟨ρ, S, Kd, hv, hs, ht, hp⟩ => ?_⟩
  refine Subscript_ (thn (he.run pins s σ H (fun v H1 => ∃ x S1, revD x S1 Kd ∧ Keep H H1 ∧ Ext H S S1 ∧ RS X.K H1 S1 ∧ RelD X.K H1 x v) I ⟨ρ, S, _, hv, hs, ht, fun x S1 v H1 h1 k1 e1 r1 rd1 => ⟨x, S1, h1, k1, e1, r1, rd1⟩⟩) fun v s1 ⟨x, H1, I1, r1, d, S1, h1, k1, e1, q1, rd1⟩ => ?_)
  have hst : PO X (some (.UnaryOp .USub (.Constant (.int 1) k p1) p2)) (tPart (tUn (rU fun i => .int (-i)) (tC (.int 1)))) := po_some (pe_un un_neg pe_int)
  refine wpAny_Slice (thn (po_none.run pins s1 σ H1 (fun o H2 => o = none ∧ H2 = H1) I1 ⟨rfl, rfl⟩) fun vl s2 ⟨l, H2, I2, pl, el, e2⟩ => ?_)
  subst el e2
  refine thn (po_none.run pins s2 σ H2 (fun o H3 => o = none ∧ H3 = H2) I2 ⟨rfl, rfl⟩) fun vu s3 ⟨u, H3, I3, pu, eu, e3⟩ => ?_
  subst eu e3
  refine thn (hst.run pins s3 σ H3 (fun o H4 => o = some (-1) ∧ H4 = H3) I3 ⟨1, rfl, -1, rfl, rfl, rfl⟩) fun vs s4 ⟨o, H4, I4, ps, eo, e4⟩ => ?_
  subst eo e4
  have I5 : Inv X pins σ H4 { s4 with heap := s4.heap.push { cls := .type "slice", data := .fields #[vl, vu, vs] } } := I4.kept (t' := s4.toks) fun b ob q => Heap.get?_push_of_some _ q
  have hp' := hp.go k1 e1
  have list : ∀ {p : Addr} {ds : List D} {xs : List V}, v = .ref p → SqL X.K H4 p xs → RelDs X.K H4 ds xs → newL ds.reverse S1 Kd → wpAny (model X.prog X.w) X.A (subscriptTail a (.Slice none none (some (.UnaryOp .USub (.Constant (.int 1) k p1) p2)) p3) v (.ref s4.heap.objs.size)) (EP X pins σ Q) X.xe { s4 with heap := s4.heap.push { cls := .type "slice", data := .fields #[vl, vu, vs] } } := by
    intro p ds xs ev hx rd hn
    subst ev
    obtain ⟨its, r, ht, hz⟩ := I5.list hx
    have hlen := r.length
    refine tail_any (ops := [.ref p, .ref s4.heap.objs.size]) ht.isList.typeIs (PySem.slot_list_getitem.lookup) ?_ (by with_unfolding_all rfl)
    refine wpAny_getItem_list_slice ht.isList (Heap.IsSliceOf.new _ vl vu vs) pl pu ps (by decide) ?_ (by rw [List.size_toArray]; omega)
    rw [PySem.W.krv_pick]
    refine ⟨.ref _, _, I5.laid (t' := s4.toks) (o := .lst xs.reverse) (fun b ob q => Heap.get?_push_of_some _ q) (Nat.le_refl _) ?_, rfl, new_list q1 rd.reverse (by rw [List.length_reverse, ← rd.length]; exact hz) hn hp' _ (I5.hok.fresh (Nat.le_refl _))⟩
    exact ⟨by rw [List.length_reverse]; exact hz, _, 0, r.reverse, Heap.get?_push_size _ rfl⟩
  show wpAny (model X.prog X.w) X.A (subscriptTail a (.Slice none none (some (.UnaryOp .USub (.Constant (.int 1) k p1) p2)) p3) v (.ref s4.heap.objs.size)) (EP X pins σ Q) X.xe { s4 with heap := s4.heap.push { cls := .type "slice", data := .fields #[vl, vu, vs] } }
  cases d with
  | tup ds =>
    obtain ⟨p, xs, rfl, t, z, rd⟩ := rd1
    cases r1
    obtain ⟨its, r, hT, hz⟩ := I5.tuple t.sqt
    cases pl
    cases pu
    obtain ⟨tk, rfl⟩ : ∃ tk, vs = .int (-1) tk := by
      cases ps with
      | int i t => exact ⟨t, rfl⟩
    refine tail_any (ops := [.ref p, .ref s4.heap.objs.size]) hT.typeIs (PyProof.Rows.slot_tuple_getitem.lookup) ?_ (by with_unfolding_all rfl)
    refine getItem_tuple_rev hT (Heap.IsSliceOf.new _ _ _ _) ?_ (by rw [List.size_toArray, ← r.length]; exact hz)
    exact tup_end I5 q1 rd.reverse r.reverse (by rw [List.length_reverse, ← rd.length]; exact hz) h1 hp' s4.toks
  | rl ds =>
    obtain ⟨p, xs, rfl, t, z, rd⟩ := rd1
    cases r1
    exact list rfl t.sql rd h1
  | ref p =>
    have h1 : (match S1 p with
      | some (.lst ds) => newL ds.reverse S1 Kd
      | _ => False) := h1
    cases q : S1 p with
    | none => rw [q] at h1; exact h1.elim
    | some cc =>
      rw [q] at h1
      cases cc <;> first | exact h1.elim | skip
      obtain ⟨xs, g1, rd, z⟩ := q1.lst q
      cases rd1
      cases r1
      exact list rfl (.of g1) rd h1
  | _ => exact (show False from h1).elim
end
end Lt

set_option Elab.async false
set_option linter.all false
set_option maxRecDepth 100000
set_option maxHeartbeats 4000000
namespace Lt
open PySem PySem.Spec PyProof.Rows L2

section
variable {X : Cx} {pos : Pos} {a b c : Expr} {ta tb tc : DE} {es : List Expr} {tA : DA}
/-! ### built-in functions by values -/
def rC (K : PySem.W.Frag) (g : List D → Sto → Kt → Prop) : List V → Hp → VK → Prop := fun vs H Q => ∃ ds S Kd, RS K H S ∧ RelDs K H ds vs ∧ g ds S Kd ∧ Post K H S Kd Q
theorem rC_of {K : PySem.W.Frag} {g : List D → Sto → Kt → Prop} {σ : L2.St} {H : Hp} {Q : VK} (h : LiftE K (fun ρ S K => tA ρ S fun ds S1 => g ds S1 K) σ H Q) : tCB (rC K g) (LiftA K tA) σ H Q := by
  obtain ⟨ρ, S, Kd, he, hs, ht, hp⟩ := h
  exact ⟨ρ, S, _, he, hs, ht, fun ds S1 vs H1 h1 k1 e1 r1 rd1 => ⟨ds, S1, Kd, r1, rd1, h1, hp.go k1 e1⟩⟩
theorem pd_callB {g : List D → Sto → Kt → Prop} {x : Str} {p : Pos} {id : String} (hc : CallR X (.builtin id) (rC X.K g)) (hg : Gl X x) (hm : X.mg x = none) (hv : bootBuiltins x = some (.builtin id)) (ha : PDA X (a :: es) tA) (hn : x ≠ "__name__") (hdb : (x == ("__debug__" : Str)) = false)
    (he : starEach (a :: es) X.env = (false, eval a X.env) :: starEach es X.env) (hpl : (backTo pos (starEach es X.env)).any (·.1) = false) : PDE X (.Call (.Name x p) (a :: es) [] pos) (fun ρ S K => tA ρ S fun ds S1 => g ds S1 K) :=
  peI (pe_callB hc hg hm hv ha hn hdb he hpl) fun _ _ _ => rC_of
theorem pd_callTy {g : List D → Sto → Kt → Prop} {x : Str} {p : Pos} {T : String} (hc : CallR X (.type T) (rC X.K g)) (hg : Gl X x) (hm : X.mg x = none) (hv : bootBuiltins x = some (.type T)) (ha : PDA X (a :: es) tA) (hn : x ≠ "__name__") (hdb : (x == ("__debug__" : Str)) = false)
    (he : starEach (a :: es) X.env = (false, eval a X.env) :: starEach es X.env) (hpl : (backTo pos (starEach es X.env)).any (·.1) = false) : PDE X (.Call (.Name x p) (a :: es) [] pos) (fun ρ S K => tA ρ S fun ds S1 => g ds S1 K) :=
  peI (pe_callTy hc hg hm hv ha hn hdb he hpl) fun _ _ _ => rC_of
theorem RelDs.one {K : PySem.W.Frag} {H : Hp} {d : D} {vs : List V} (h : RelDs K H [d] vs) : ∃ v, vs = [v] ∧ RelD K H d v := by
  obtain ⟨y, ys, rfl, r, e⟩ := h
  rw [show ys = [] from e]
  exact ⟨y, rfl, r⟩
theorem RelDs.two {K : PySem.W.Frag} {H : Hp} {d e : D} {vs : List V} (h : RelDs K H [d, e] vs) : ∃ v u, vs = [v, u] ∧ RelD K H d v ∧ RelD K H e u := by
  obtain ⟨y, ys, rfl, r, h2⟩ := h
  obtain ⟨u, rfl, r2⟩ := RelDs.one h2
  exact ⟨y, u, rfl, r, r2⟩
/-- a list, by what is told of it -/
theorem ref_lst {K : PySem.W.Frag} {H : Hp} {S : Sto} {p : Addr} {P : List D → Prop} (hs : RS K H S) (h : match S p with
    | some (.lst ds) => P ds
    | _ => False) : ∃ ds xs, S p = some (.lst ds) ∧ P ds ∧ H p = some (.lst xs) ∧ RelDs K H ds xs ∧ xs.length ≤ sizeLine := by
  cases q : S p with
  | none => rw [q] at h; exact h.elim
  | some cc =>
    rw [q] at h
    cases cc <;> first | exact h.elim | skip
    obtain ⟨xs, g1, rd, z⟩ := hs.lst q
    exact ⟨_, xs, rfl, h, g1, rd, z⟩
theorem cb_len : CallR X (.builtin "len") (rC X.K lenD) := by
  rintro pins s σ H vs us Q I r ⟨ds, S, Kd, hs, rd, h, hp⟩
  cases ds with
  | nil => exact (show False from h).elim
  | cons d r' =>
    cases r' with
    | cons e r'' => cases d <;> exact (show False from h).elim
    | nil =>
      cases d with
      | tup ds =>
        obtain ⟨v, rfl, r1⟩ := rd.one
        obtain ⟨p, xs, rfl, t, z, rd1⟩ := r1
        exact call_len_seq pins s σ H _ us Q I r ⟨p, xs, rfl, .inr t.sqt, by rw [rd1.length]; exact hp _ _ _ _ h (.refl H) .refl hs rfl⟩
      | rl ds =>
        obtain ⟨v, rfl, r1⟩ := rd.one
        obtain ⟨p, xs, rfl, t, z, rd1⟩ := r1
        exact call_len_seq pins s σ H _ us Q I r ⟨p, xs, rfl, .inl t.sql, by rw [rd1.length]; exact hp _ _ _ _ h (.refl H) .refl hs rfl⟩
      | str z =>
        obtain ⟨v, rfl, r1⟩ := rd.one
        cases r1
        exact call_len pins s σ H _ us Q I r ⟨_, _, rfl, ⟨h.1, rfl⟩, hp _ _ _ _ h.2 (.refl H) .refl hs rfl⟩
      | ref p =>
        obtain ⟨v, rfl, r1⟩ := rd.one
        obtain ⟨es, xs, _, h, g, rd1, z⟩ := ref_lst hs (P := fun ds => Kd (.int ds.length) S) h
        cases r1
        exact call_len_seq pins s σ H _ us Q I r ⟨p, xs, rfl, .inl (.of g), by rw [rd1.length]; exact hp _ _ _ _ h (.refl H) .refl hs rfl⟩
      | _ => exact (show False from h).elim
theorem cb_tuple : CallR X (.type "tuple") (rC X.K tupleD) := by
  rintro pins s σ H vs us Q I r ⟨ds, S, Kd, hs, rd, h, hp⟩
  have of_list : ∀ {p : Addr} {xs : List V} {es : List D}, us = [.ref p] → SqL X.K H p xs → RelDs X.K H es xs → Kd (.tup es) S → wpAny (model X.prog X.w) X.A (call (.type "tuple") us) (EP X pins σ Q) X.xe s := by
    intro p xs es eu hq rd1 h
    subst eu
    obtain ⟨its, r', pl, hz⟩ := I.list hq
    have hlen := r'.length
    refine call_tuple_list pl.isList (fun h' kp => ?_) (by simp only [List.size_toArray] <;> omega)
    exact tup_end (I.kept (t' := s.toks) kp) hs rd1 r' (by rw [← rd1.length]; exact hz) h hp s.toks
  cases ds with
  | nil => exact (show False from h).elim
  | cons d r' =>
    cases r' with
    | cons e r'' => cases d <;> exact (show False from h).elim
    | nil =>
      cases d with
      | tup ds =>
        obtain ⟨v, rfl, r1⟩ := rd.one
        obtain ⟨p, xs, rfl, t, z, rd1⟩ := r1
        exact call_tuple_of pins s σ H _ us Q I r ⟨p, xs, rfl, .inr ⟨t.sqt, tup_there hs rd1 (by rw [← rd1.length]; exact z) h hp t⟩⟩
      | rl ds =>
        obtain ⟨v, rfl, r1⟩ := rd.one
        obtain ⟨p, xs, rfl, t, z, rd1⟩ := r1
        exact of_list (Vals.ref1 r) t.sql rd1 h
      | ref p =>
        obtain ⟨v, rfl, r1⟩ := rd.one
        obtain ⟨es, xs, _, h, g, rd1, z⟩ := ref_lst hs (P := fun ds => Kd (.tup ds) S) h
        cases r1
        exact of_list (Vals.ref1 r) (.of g) rd1 h
      | _ => exact (show False from h).elim
theorem cb_list : CallR X (.type "list") (rC X.K listD) := by
  rintro pins s σ H vs us Q I r ⟨ds, S, Kd, hs, rd, h, hp⟩
  cases ds with
  | nil => exact (show False from h).elim
  | cons d r' =>
    cases r' with
    | cons e r'' => cases d <;> exact (show False from h).elim
    | nil =>
      cases d with
      | tup ds =>
        obtain ⟨v, rfl, r1⟩ := rd.one
        obtain ⟨p, xs, rfl, t, z, rd1⟩ := r1
        exact call_list_of pins s σ H _ us Q I r ⟨p, xs, rfl, .inr t.sqt, new_list hs rd1 (by rw [← rd1.length]; exact z) h hp⟩
      | rl ds =>
        obtain ⟨v, rfl, r1⟩ := rd.one
        obtain ⟨p, xs, rfl, t, z, rd1⟩ := r1
        exact call_list_of pins s σ H _ us Q I r ⟨p, xs, rfl, .inl t.sql, new_list hs rd1 (by rw [← rd1.length]; exact z) h hp⟩
      | ref p =>
        obtain ⟨v, rfl, r1⟩ := rd.one
        obtain ⟨es, xs, _, h, g, rd1, z⟩ := ref_lst hs (P := fun ds => newL ds S Kd) h
        cases r1
        exact call_list_of pins s σ H _ us Q I r ⟨p, xs, rfl, .inl (.of g), new_list hs rd1 (by rw [← rd1.length]; exact z) h hp⟩
      | _ => exact (show False from h).elim
theorem cb_int : CallR X (.type "int") (rC X.K intD) := by
  rintro pins s σ H vs us Q I r ⟨ds, S, Kd, hs, rd, h, hp⟩
  cases ds with
  | nil => exact (show False from h).elim
  | cons d r' =>
    cases r' with
    | cons e r'' => cases d <;> exact (show False from h).elim
    | nil =>
      cases d with
      | int i =>
        obtain ⟨v, rfl, r1⟩ := rd.one
        cases r1
        exact call_int1 pins s σ H _ us Q I r (.inl ⟨i, rfl, hp _ _ _ _ h (.refl H) .refl hs rfl⟩)
      | bl i =>
        obtain ⟨v, rfl, r1⟩ := rd.one
        cases r1
        exact call_int1 pins s σ H _ us Q I r (.inr ⟨i, rfl, hp _ _ _ _ h (.refl H) .refl hs rfl⟩)
      | _ => exact (show False from h).elim
theorem cb_abs : CallR X (.builtin "abs") (rC X.K absD) := by
  rintro pins s σ H vs us Q I r ⟨ds, S, Kd, hs, rd, h, hp⟩
  cases ds with
  | nil => exact (show False from h).elim
  | cons d r' =>
    cases r' with
    | cons e r'' => cases d <;> exact (show False from h).elim
    | nil =>
      cases d with
      | int i =>
        obtain ⟨v, rfl, r1⟩ := rd.one
        cases r1
        exact call_abs pins s σ H _ us Q I r ⟨i, rfl, hp _ _ _ _ h (.refl H) .refl hs rfl⟩
      | _ => exact (show False from h).elim
theorem ints_eq : ∀ {ds : List D} {ns : List Int}, ints? ds = some ns → ds = ns.map D.int
  | [], ns, h => by
    have h : some [] = some ns := h
    cases h
    rfl
  | .int i :: r, ns, h => by
    have h : (ints? r).map (i :: ·) = some ns := h
    cases q : ints? r with
    | none => rw [q] at h; cases h
    | some ms =>
      rw [q] at h
      cases h
      rw [ints_eq q]
      rfl
  | .non :: _, _, h => by cases h
  | .bl _ :: _, _, h => by cases h
  | .str _ :: _, _, h => by cases h
  | .ref _ :: _, _, h => by cases h
  | .fn _ :: _, _, h => by cases h
  | .tup _ :: _, _, h => by cases h
  | .rl _ :: _, _, h => by cases h
theorem intsOf_lst {K : PySem.W.Frag} {H : Hp} {S : Sto} {d : D} {v : V} {ns : List Int} (hs : RS K H S) (r : RelD K H d v) (h : intsOf S d = some ns) : ∃ p, v = .ref p ∧ SqL K H p (ns.map V.int) := by
  cases d with
  | ref p =>
    have h : (match S p with
      | some (.lst ds) => ints? ds
      | _ => none) = some ns := h
    cases q : S p with
    | none => rw [q] at h; cases h
    | some cc =>
      rw [q] at h
      cases cc <;> first | (cases h; done) | skip
      have e := ints_eq h
      subst e
      obtain ⟨xs, g1, rd, z⟩ := hs.lst q
      rw [rd.ofInts] at g1
      exact ⟨p, r, .of g1⟩
  | _ => cases h
theorem cb_max (hc : X.calm = true) : CallR X (.builtin "max") (rC X.K maxD) := by
  rintro pins s σ H vs us Q I r ⟨ds, S, Kd, hs, rd, h, hp⟩
  have one : ∀ d, ds = [d] → (match intsOf S d with
    | some (n :: ns) => ∀ m, m ∈ n :: ns → (∀ y, y ∈ n :: ns → y ≤ m) → Kd (.int m) S
    | _ => False) → wpAny (model X.prog X.w) X.A (call (.builtin "max") us) (EP X pins σ Q) X.xe s := by
    intro d e g
    subst e
    obtain ⟨v, rfl, r1⟩ := rd.one
    cases q : intsOf S d with
    | none => rw [q] at g; exact g.elim
    | some l =>
      rw [q] at g
      cases l with
      | nil => exact g.elim
      | cons n ns =>
        obtain ⟨p, rfl, hq⟩ := intsOf_lst hs r1 q
        exact cr_max hc pins s σ H _ us Q I r ⟨p, n :: ns, rfl, hq, Nat.succ_pos _, fun m h1 h2 => hp _ _ _ _ (g m h1 h2) (.refl H) .refl hs rfl⟩
  cases ds with
  | nil => exact (show False from h).elim
  | cons d r' =>
    cases r' with
    | nil => exact one d rfl (by cases d <;> exact h)
    | cons e r'' =>
      cases d <;> first | exact (show False from h).elim | skip
      rename_i i
      cases r'' with
      | cons f r3 => cases e <;> exact (show False from h).elim
      | nil =>
        cases e <;> first | exact (show False from h).elim | skip
        rename_i j
        obtain ⟨v, u, rfl, r1, r2⟩ := rd.two
        cases r1
        cases r2
        exact call_max2 hc pins s σ H _ us Q I r ⟨i, j, rfl, hp _ _ _ _ h (.refl H) .refl hs rfl⟩
theorem cb_min (hc : X.calm = true) : CallR X (.builtin "min") (rC X.K minD) := by
  rintro pins s σ H vs us Q I r ⟨ds, S, Kd, hs, rd, h, hp⟩
  have one : ∀ d, ds = [d] → (match intsOf S d with
    | some (n :: ns) => ∀ m, m ∈ n :: ns → (∀ y, y ∈ n :: ns → m ≤ y) → Kd (.int m) S
    | _ => False) → wpAny (model X.prog X.w) X.A (call (.builtin "min") us) (EP X pins σ Q) X.xe s := by
    intro d e g
    subst e
    obtain ⟨v, rfl, r1⟩ := rd.one
    cases q : intsOf S d with
    | none => rw [q] at g; exact g.elim
    | some l =>
      rw [q] at g
      cases l with
      | nil => exact g.elim
      | cons n ns =>
        obtain ⟨p, rfl, hq⟩ := intsOf_lst hs r1 q
        exact cr_min hc pins s σ H _ us Q I r ⟨p, n :: ns, rfl, hq, Nat.succ_pos _, fun m h1 h2 => hp _ _ _ _ (g m h1 h2) (.refl H) .refl hs rfl⟩
  cases ds with
  | nil => exact (show False from h).elim
  | cons d r' =>
    cases r' with
    | nil => exact one d rfl (by cases d <;> exact h)
    | cons e r'' =>
      cases d <;> first | exact (show False from h).elim | skip
      rename_i i
      cases r'' with
      | cons f r3 => cases e <;> exact (show False from h).elim
      | nil =>
        cases e <;> first | exact (show False from h).elim | skip
        rename_i j
        obtain ⟨v, u, rfl, r1, r2⟩ := rd.two
        cases r1
        cases r2
        exact call_min2 hc pins s σ H _ us Q I r ⟨i, j, rfl, hp _ _ _ _ h (.refl H) .refl hs rfl⟩
theorem cb_sum (hc : X.calm = true) : CallR X (.builtin "sum") (rC X.K sumD) := by
  rintro pins s σ H vs us Q I r ⟨ds, S, Kd, hs, rd, h, hp⟩
  cases ds with
  | nil => exact (show False from h).elim
  | cons d r' =>
    cases r' with
    | cons e r'' => exact (show False from h).elim
    | nil =>
      obtain ⟨v, rfl, r1⟩ := rd.one
      have h : (match intsOf S d with
        | some ns => Kd (.int ns.sum) S
        | none => False) := h
      cases q : intsOf S d with
      | none => rw [q] at h; exact h.elim
      | some ns =>
        rw [q] at h
        obtain ⟨p, rfl, hq⟩ := intsOf_lst hs r1 q
        exact cr_sum hc pins s σ H _ us Q I r ⟨p, ns, rfl, hq, hp _ _ _ _ h (.refl H) .refl hs rfl⟩
end
end Lt

set_option Elab.async false
set_option linter.all false
set_option maxRecDepth 100000
set_option maxHeartbeats 4000000
namespace Lt
open PySem PySem.Spec PyProof.Rows L2

section
variable {X : Cx} {pos : Pos} {a b c : Expr} {ta tb tc to : DE} {es : List Expr} {tA : DA}
/-! ### methods of built-in types -/
def rtName : RT → String
  | .list => "list"
  | .tuple => "tuple"
  | .str => "str"
  | .dict => "dict"
theorem rcv_is {pins : List (Addr × Obj)} {s : Shared} {σ : L2.St} {H : Hp} {x : D} {S : Sto} {vx : V} {v : Value} {T : RT} (I : Inv X pins σ H s) (rx : RelV vx v) (hs : RS X.K H S) (r : RelD X.K H x vx) (h : rcvT x S = some T) :
    s.TypeIs v (rtName T) ∧ ∀ a, v = .ref a → ∃ ob, s.heap.get? a = some ob ∧ ob.dict = none := by
  cases x with
  | tup ds =>
    cases h
    obtain ⟨p, xs, rfl, t, z, rd⟩ := r
    cases rx
    obtain ⟨its, _, pl, _⟩ := I.tuple t.sqt
    refine ⟨pl.typeIs, fun a e => ?_⟩
    cases e
    rcases t with ⟨o, ho, hd⟩ | ⟨o, its, n, hk, hc, hd, _⟩
    · obtain ⟨e, _⟩ := I.hok p _ ho
      exact ⟨o, e, hd⟩
    · exact ⟨o, I.kIn p o hk, hd⟩
  | str z =>
    cases h
    cases r
    exact tyV_is (T := "str") I rx rfl
  | rl ds =>
    cases h
    obtain ⟨p, xs, rfl, t, z, rd⟩ := r
    exact tyV_is (T := "list") I rx (.inl ⟨rfl, xs, t.sql⟩)
  | ref p =>
    have h : (match S p with
      | some (.lst _) => some RT.list
      | some (.dic _) => some RT.dict
      | some (.dit _) => some RT.dict
      | _ => none) = some T := h
    cases r
    cases q : S p with
    | none => rw [q] at h; cases h
    | some cc =>
      rw [q] at h
      cases cc with
      | lst ds =>
        cases h
        obtain ⟨xs, g1, rd, z⟩ := hs.lst q
        exact tyV_is (T := "list") I rx (.inl ⟨rfl, xs, .of g1⟩)
      | dic kvs =>
        cases h
        obtain ⟨ks, g1, _⟩ := hs.ok _ _ q
        exact tyV_is (T := "dict") I rx (.inr (.inr (.inl ⟨rfl, .inl ⟨ks, g1⟩⟩)))
      | dit kvs =>
        cases h
        obtain ⟨ks, g1, _⟩ := hs.ok _ _ q
        exact tyV_is (T := "dict") I rx (.inr (.inr (.inl ⟨rfl, .inr ⟨ks, g1⟩⟩)))
      | _ => cases h
  | _ => cases h
/-- a method's call by values -/
def MtDR (X : Cx) (id : String) (g : D → List D → Sto → Kt → Prop) : Prop :=
  ∀ (pins : List (Addr × Obj)) (s : Shared) (σ : L2.St) (H : Hp) (x : D) (S : Sto) (vx : V) (v : Value) (ds : List D) (vs : List V) (us : List Value) (Kd : Kt) (Q : VK), Inv X pins σ H s → RelV vx v → RelD X.K H x vx → RS X.K H S → RelDs X.K H ds vs → Vals vs us → g x ds S Kd → Post X.K H S Kd Q →
    wpAny (model X.prog X.w) X.A (call (.builtin id) (v :: us)) (EP X pins σ Q) X.xe s
/-- what stands for the method of that name of each type -/
def MtAll (X : Cx) (m : BM) (nm : Str) : Prop := ∀ T : RT, hasM T m = true → ∃ id, PlainAttrs (rtName T) ∧ Slot (rtName T) nm id ∧ typeOf (.builtin id) = pure (.type "method_descriptor") ∧ MtDR X id (bmD T m)
theorem pd_bm0 {m : BM} {nm : Str} {apos cpos : Pos} (hm : MtAll X m nm) (ho : PDE X a to) (hbase : attributeBase a nm X.env (eval a X.env) = eval a X.env) (hline : (apos.endLine == cpos.line) = true) :
    PDE X (.Call (.Attribute a nm apos) [] [] cpos) (fun ρ S K => to ρ S fun x S1 => match rcvT x S1 with
    | some T => hasM T m = true ∧ bmD T m x [] S1 K
    | none => False) := by
  refine ⟨fun pins s σ H Q I ⟨ρ, S, Kd, he, hs, ht, hp⟩ => ?_⟩
  refine wpAny_Call_method0_late hbase hline (thn (ho.run pins s σ H (fun v H1 => ∃ x S1, (match rcvT x S1 with
    | some T => hasM T m = true ∧ bmD T m x [] S1 Kd
    | none => False) ∧ Keep H H1 ∧ Ext H S S1 ∧ RS X.K H1 S1 ∧ RelD X.K H1 x v) I ⟨ρ, S, _, he, hs, ht, fun x S1 v H1 h1 k1 e1 r1 rd1 => ⟨x, S1, h1, k1, e1, r1, rd1⟩⟩) fun v s1 ⟨vx, H1, I1, r1, x, S1, h1, k1, e1, q1, rd1⟩ => ?_)
  cases eT : rcvT x S1 with
  | none => rw [eT] at h1; exact h1.elim
  | some T =>
    rw [eT] at h1
    obtain ⟨t1, t2⟩ := rcv_is I1 r1 q1 rd1 eT
    obtain ⟨hh, h1⟩ := h1
    obtain ⟨id, pa, sl, ty, run⟩ := hm T hh
    · exact ⟨rtName T, id, pa, sl, ty, t1, t2, Calls.callWith_builtin rfl (PySem.evalArgs_none (run pins s1 σ H1 x S1 vx v [] [] [] Kd Q I1 r1 rd1 q1 rfl .nil h1 (hp.go k1 e1)))⟩
theorem pd_bm {m : BM} {nm : Str} {apos cpos : Pos} (hm : MtAll X m nm) (ho : PDE X a to) (ha : PDA X (b :: es) tA) (hbase : attributeBase a nm X.env (eval a X.env) = eval a X.env)
    (hfew : ((backTo cpos (starEach (b :: es) X.env)).all (fun x => !x.1) && (backToKw cpos (keywordEach [] X.env)).all (fun x => x.1.isSome)
      && decide ((b :: es).length + ([] : List Keyword).length + (if ([] : List Keyword).isEmpty then 0 else 1) < 30)) = true)
    (hline : (apos.endLine == cpos.line) = true) (hs : starEach (b :: es) X.env = (false, eval b X.env) :: starEach es X.env) (hplain : (backTo cpos (starEach es X.env)).any (·.1) = false) :
    PDE X (.Call (.Attribute a nm apos) (b :: es) [] cpos) (fun ρ S K => to ρ S fun x S1 => match rcvT x S1 with
    | some T => hasM T m = true ∧ tA ρ S1 fun ds S2 => bmD T m x ds S2 K
    | none => False) := by
  refine ⟨fun pins s σ H Q I ⟨ρ, S, Kd, he, hS, ht, hp⟩ => ?_⟩
  refine wpAny_Call_method_late hbase hfew hline rfl (thn (ho.run pins s σ H (fun v H1 => ∃ x S1, (match rcvT x S1 with
    | some T => hasM T m = true ∧ tA ρ S1 fun ds S2 => bmD T m x ds S2 Kd
    | none => False) ∧ Keep H H1 ∧ Ext H S S1 ∧ RS X.K H1 S1 ∧ RelD X.K H1 x v) I ⟨ρ, S, _, he, hS, ht, fun x S1 v H1 h1 k1 e1 r1 rd1 => ⟨x, S1, h1, k1, e1, r1, rd1⟩⟩) fun v s1 ⟨vx, H1, I1, r1, x, S1, h1, k1, e1, q1, rd1⟩ => ?_)
  cases eT : rcvT x S1 with
  | none => rw [eT] at h1; exact h1.elim
  | some T =>
    rw [eT] at h1
    obtain ⟨t1, t2⟩ := rcv_is I1 r1 q1 rd1 eT
    obtain ⟨hh, h1⟩ := h1
    obtain ⟨id, pa, sl, ty, run⟩ := hm T hh
    · refine ⟨rtName T, id, pa, sl, ty, t1, t2, ?_⟩
      have hA := ha.run cpos pins s1 σ H1 (fun vs H2 => ∃ ds S2, bmD T m x ds S2 Kd ∧ Keep H1 H2 ∧ Ext H1 S1 S2 ∧ RS X.K H2 S2 ∧ RelDs X.K H2 ds vs) I1 ⟨ρ, S1, _, he.keep k1, q1, h1, fun ds S2 vs H2 h2 k2 e2 r2 rd2 => ⟨ds, S2, h2, k2, e2, r2, rd2⟩⟩
      rw [hs] at hA ⊢
      refine Calls.callWith_builtin (by show (false || (backTo cpos (starEach es X.env)).any (·.1)) = false; rw [hplain] <;> rfl) (Calls.evalArgs_plain ?_)
      exact thn hA fun us s2 ⟨vs, H2, I2, r2, ds, S2, h2, k2, e2, q2, rd2⟩ => run pins s2 σ H2 x S2 vx v ds vs us Kd Q I2 r1 (rd1.keep k2) q2 rd2 r2 h2 (hp.go (k1.trans k2) (e1.trans k1 e2))

theorem md_append : MtDR X "list.append" appendD := by
  intro pins s σ H x S vx v ds vs us Kd Q I rx r hs rd ru h hp
  cases x <;> first | exact (show False from h).elim | skip
  rename_i p
  cases ds with
  | nil => exact (show False from h).elim
  | cons d r' =>
    cases r' with
    | cons _ _ => exact (show False from h).elim
    | nil =>
      obtain ⟨ds, xs, hS, ⟨hz, h⟩, g, rd1, z⟩ := ref_lst hs (P := fun ds => ds.length < sizeLine ∧ Kd .non (sup S p (.lst (ds ++ [d])))) h
      obtain ⟨y, rfl, ry⟩ := rd.one
      cases r
      have hl := rd1.length
      have kn : Keep H (upd H p (.lst (xs ++ [y]))) := .put g trivial
      exact mt_append pins s σ H _ _ v us Q I rx ru ⟨p, xs, y, rfl, rfl, g, by omega, hp _ _ _ _ h kn (.put hS) (hs.put g trivial hS (fun z => by cases z) ⟨_, upd_same, (rd1.snoc ry).keep kn, by rw [List.length_append, List.length_singleton]; omega⟩) rfl⟩
theorem md_pop : MtDR X "list.pop" popD := by
  intro pins s σ H x S vx v ds vs us Kd Q I rx r hs rd ru h hp
  cases x <;> first | exact (show False from h).elim | skip
  rename_i p
  cases ds with
  | nil =>
    obtain ⟨ds, xs, hS, h, g, rd1, z⟩ := ref_lst hs (P := fun ds => match ds.getLast? with
      | some d => Kd d (sup S p (.lst ds.dropLast))
      | none => False) h
    cases e : ds.getLast? with
    | none => rw [e] at h; exact h.elim
    | some d =>
      rw [e] at h
      have e2 : ds[ds.length - 1]? = some d := by rw [← e, List.getLast?_eq_getElem?]
      obtain ⟨y, e3, ry⟩ := rd1.get e2
      rw [show vs = [] from rd] at ru
      cases r
      have kn : Keep H (upd H p (.lst xs.dropLast)) := .put g trivial
      refine mt_pop pins s σ H _ _ v us Q I rx ru ⟨p, xs, y, rfl, rfl, g, by rw [rd1.length]; exact e3, hp _ _ _ _ h kn (.put hS) (hs.put g trivial hS (fun z => by cases z) ⟨_, upd_same, rd1.dropLast.keep kn, by rw [List.length_dropLast]; omega⟩) (ry.keep kn)⟩
  | cons i r' =>
    cases r' with
    | cons _ _ => cases i <;> exact (show False from h).elim
    | nil =>
      cases i <;> first | exact (show False from h).elim | skip
      rename_i i
      obtain ⟨ds, xs, hS, h, g, rd1, z⟩ := ref_lst hs (P := fun ds => match ixN ds.length i with
        | some k => (match ds[k]? with
          | some d => Kd d (sup S p (.lst (ds.eraseIdx k)))
          | none => False)
        | none => False) h
      cases e : ixN ds.length i with
      | none => rw [e] at h; exact h.elim
      | some k =>
        rw [e] at h
        have h : (match ds[k]? with
          | some d => Kd d (sup S p (.lst (ds.eraseIdx k)))
          | none => False) := h
        cases e2 : ds[k]? with
        | none => rw [e2] at h; exact h.elim
        | some d =>
          rw [e2] at h
          obtain ⟨y, e3, ry⟩ := rd1.get e2
          obtain ⟨w, rfl, rw'⟩ := rd.one
          cases r
          cases rw'
          have kn : Keep H (upd H p (.lst (xs.eraseIdx k))) := .put g trivial
          obtain ⟨q1, q2, q3, q4⟩ := ixN_seq e
          have hl := rd1.length
          have hs2 : sizeLine = 16777216 := sizeLine_eq
          have hle : (xs.eraseIdx k).length ≤ xs.length := List.length_eraseIdx_le ..
          exact mt_popAt pins s σ H _ _ v us Q I rx ru ⟨p, xs, i, k, y, rfl, rfl, g, by omega, by omega, by rw [hl]; exact q1, e3, hp _ _ _ _ h kn (.put hS) (hs.put g trivial hS (fun z => by cases z) ⟨_, upd_same, (rd1.eraseIdx k).keep kn, by omega⟩) (ry.keep kn)⟩
theorem countP_ints {k : Int} : ∀ {ns : List Int} {us : List Value}, Vals (ns.map V.int) us → us.countP (fun y => Value.isInt k y) = ns.count k
  | [], us, r => by
    cases r
    rfl
  | n :: ns, us, r => by
    cases r with
    | cons r1 r2 =>
      obtain ⟨t, rfl⟩ := r1
      rw [List.countP_cons, countP_ints r2, List.count_cons]
      have e : Value.isInt k (Value.int n t) = (n == k) := by simp [Value.isInt]
      rw [e]
theorem md_count : MtDR X "tuple.count" countD := by
  intro pins s σ H x S vx v ds vs us Kd Q I rx r hs rd ru h hp
  cases x <;> first | exact (show False from h).elim | skip
  rename_i es
  cases ds with
  | nil => exact (show False from h).elim
  | cons i r' =>
    cases r' with
    | cons _ _ => cases i <;> exact (show False from h).elim
    | nil =>
      cases i <;> first | exact (show False from h).elim | skip
      rename_i k
      have g : (match ints? es with
        | some ns => Kd (.int (ns.count k)) S
        | none => False) := h
      cases e : ints? es with
      | none => rw [e] at g; exact g.elim
      | some ns =>
        rw [e] at g
        have e2 := ints_eq e
        subst e2
        obtain ⟨p, xs, rfl, t, z, rd1⟩ := r
        have e3 := rd1.ofInts
        subst e3
        cases rx
        obtain ⟨w, rfl, rw'⟩ := rd.one
        cases rw'
        obtain ⟨u, rfl, tk, rfl⟩ := vals1 ru
        obtain ⟨its, ri, ⟨⟨cls, dd, data, sl⟩, ho, hc, n, hd⟩, hz⟩ := I.tuple t.sqt
        simp only at hc hd
        subst hc hd
        refine call_meets PySem.F.slot_tuple_count ⟨_, ho, rfl⟩ PySem.F.entry_tuple_count (PySem.F.args_tuple_count_2 _ _) (PySem.SeqAt.tuple_countAt p its.toArray n dd sl (.int k tk) (fun y => Value.isInt k y)) ⟨ho, ?_, ?_⟩
        · intro y hy
          obtain ⟨j, hj⟩ := List.getElem?_of_mem (Array.mem_toList_iff.mpr hy)
          have hj : its[j]? = some y := by simpa using hj
          have hlt : j < (ns.map V.int).length := by
            rw [ri.length]
            exact (List.getElem?_eq_some_iff.mp hj).1
          obtain ⟨y', e4, r4⟩ := ri.get (List.getElem?_eq_getElem hlt)
          rw [hj] at e4
          cases e4
          obtain ⟨m, t2, rfl⟩ : ∃ m t2, y = .int m t2 := by
            rw [List.getElem_map] at r4
            obtain ⟨t2, e5⟩ := r4
            exact ⟨_, t2, e5⟩
          exact SeqAt.EqAt.int_int m t2 k tk
        · have ec : (its.toArray.toList.countP fun y => Value.isInt k y) = ns.count k := countP_ints (k := k) ri
          rw [ec]
          exact ⟨.int (ns.count k : Nat), H, I.tok _, ⟨_, rfl⟩, hp _ _ _ _ g (.refl H) .refl hs rfl⟩
end
end Lt

set_option Elab.async false
set_option linter.all false
set_option maxRecDepth 100000
set_option maxHeartbeats 4000000
namespace Lt
open PySem PySem.Spec PyProof.Rows L2

/-! ### the facts of a program -/
def liftSp (K : PySem.W.Frag) (g : List D → Sto → Kt → Prop) : Sp := fun vs H Q _ => ∃ ds S Kd, RelDs K H ds vs ∧ RS K H S ∧ g ds S Kd ∧ Post K H S Kd Q
def tyNames : List String := ["NoneType", "bool", "int", "str", "tuple", "list", "dict"]
structure ClsF (K : PySem.W.Frag) (cn : Str) (fields all : List Str) : Prop where
  cl : Cls K (He.ga K cn)
  ha : PySem.W.findIn K (.ref (He.ga K cn)) "__class__" = some (some (.builtin "object.__class__"))
  hn : PySem.W.specialIn K (.builtin "object.__class__") "__get__" = some (some (.builtin "getset_descriptor.__get__"))
  htk : PySem.W.takesIn K (.builtin "object.__class__") = some true
  hm : PySem.W.mroIn K (He.ga K cn) (.type "object") = some true
  kT : ∀ T ∈ tyNames, PySem.W.kitOne K (.ref (He.ga K cn)) (.type T) = some false
  kB : ∀ T ∈ tyNames, PySem.W.kitOne K (.type T) (.ref (He.ga K cn)) = some false
  kC : ∀ d ∈ all, PySem.W.kitOne K (.ref (He.ga K cn)) (.ref (He.ga K d)) = some (decide (cn = d))
  att : ∀ f ∈ fields, NoAttr K (He.ga K cn) f
structure FnF (X : Cx) (k : Nat) (f : Str) (ps : List Str) (kws : List (Str × Nat × List Str)) (g : List D → Sto → Kt → Prop) : Prop where
  mg : X.mg f = some (.ref (He.ga X.K f))
  kp : PySem.W.keepIn X.K (.ref (He.ga X.K f)) = true
  ok : ∃ fd, FnOk X.prog X.w X.K X.mg X.base CX0 k (He.ga X.K f) fd ps (liftSp X.K g) ∧ Binds X.K fd ps [] ∧
    ∀ n ks, (f, n, ks) ∈ kws → KBn X.K fd ps n ks (fun us ws => us ++ kwOrd ps n ks ws) (fun vs zs => vs ++ kwOrd ps n ks zs)
structure MethF (X : Cx) (k : Nat) (cn m : Str) (g : List D → Sto → Kt → Prop) : Prop where
  mt : Meth X.K (He.ga X.K cn) m (He.ma X.K (He.ga X.K cn) m)
  cl : Cls X.K (He.ga X.K cn)
  ok : ∃ fd ps, FnOk X.prog X.w X.K X.mg X.base CX0 k (He.ma X.K (He.ga X.K cn) m) fd ps (liftSp X.K g) ∧ Binds X.K fd ps []
structure MkF (X : Cx) (k : Nat) (cn : Str) (g : List D → Sto → Kt → Prop) : Prop where
  mg : X.mg cn = some (.ref (He.ga X.K cn))
  mak : Mk X.K (He.ga X.K cn) (He.ma X.K (He.ga X.K cn) "__init__")
  ok : ∃ j fd ps, j + 1 ≤ k ∧ FnOk X.prog X.w X.K X.mg X.base CX0 j (He.ma X.K (He.ga X.K cn) "__init__") fd ps (liftSp X.K g) ∧ Binds X.K fd ps []
structure Env1 (G : Glob) (c : Calls) (k : Nat) (X : Cx) : Prop where
  calm : X.calm = true
  nd : X.N.Nodup
  room : Room k X.A
  free : ∀ x ∈ G.free, X.mg x = none
  con : ∀ x d, G.con x = some d → ∃ v u, X.mg x = some u ∧ RelV v u ∧ ∀ H, RelD X.K H d v
  fn : ∀ f ∈ G.fns, FnF X k f (G.pars f) G.kws (c.fn f)
  cls : ∀ cn ∈ G.classes, ClsF X.K cn (G.fields cn) G.classes ∧ X.mg cn = some (.ref (He.ga X.K cn))
  meth : ∀ cn m, (cn, m) ∈ G.meths → MethF X k cn m (c.meth cn m)
  mak : ∀ cn ∈ G.mks, MkF X k cn (c.init cn)
theorem Env1.hu {G : Glob} {c : Calls} {k : Nat} {X : Cx} (E : Env1 G c k X) : X.A.units + 64 < cLine := E.room.units

section
variable {X : Cx} {pos : Pos} {a b : Expr} {ta tb to : DE} {es : List Expr} {tA tZ : DA}
/-! ### calls of the program's defs -/
theorem sp_of {K : PySem.W.Frag} {g : List D → Sto → Kt → Prop} {σ : L2.St} {H : Hp} {Q : VK} {E : XK} (h : LiftE K (fun ρ S K => tA ρ S fun ds S1 => g ds S1 K) σ H Q) : tCall (liftSp K g) [] E (LiftA K tA) σ H Q := by
  obtain ⟨ρ, S, Kd, he, hs, ht, hp⟩ := h
  exact ⟨ρ, S, _, he, hs, ht, fun ds S1 vs H1 h1 k1 e1 r1 rd1 => ⟨ds, S1, Kd, by rw [List.append_nil]; exact rd1, r1, h1, hp.go k1 e1⟩⟩
theorem pd_call {k : Nat} {f : Str} {p : Pos} {ps : List Str} {kws} {g : List D → Sto → Kt → Prop} (F : FnF X k f ps kws g) (hr : Room k X.A) (hg : Gl X f) (ha : PDA X (a :: es) tA) (hdb : (f == ("__debug__" : Str)) = false)
    (he : starEach (a :: es) X.env = (false, eval a X.env) :: starEach es X.env) (hpl : (backTo pos (starEach es X.env)).any (·.1) = false) : PDE X (.Call (.Name f p) (a :: es) [] pos) (fun ρ S K => tA ρ S fun ds S1 => g ds S1 K) := by
  obtain ⟨fd, G, hb, _⟩ := F.ok
  exact peI (pe_call G hr hg F.mg F.kp hb .nil pass0 ha hdb he hpl) fun _ _ _ => sp_of (E := E0)
theorem pd_call0 {k : Nat} {f : Str} {p : Pos} {ps : List Str} {kws} {g : List D → Sto → Kt → Prop} (F : FnF X k f ps kws g) (hr : Room k X.A) (hg : Gl X f) (hdb : (f == ("__debug__" : Str)) = false) : PDE X (.Call (.Name f p) [] [] pos) (fun ρ S K => g [] S K) := by
  obtain ⟨fd, G, hb, _⟩ := F.ok
  refine peI (pe_call0 G hr hg F.mg F.kp hb .nil pass0 hdb) fun σ H Q ⟨ρ, S, Kd, he, hs, ht, hp⟩ => ?_
  exact ⟨[], S, Kd, rfl, hs, ht, hp⟩
/-! ### by keywords -/
theorem lookup_vals : ∀ {ks : List Str} {zs : List V} {ws : List Value} {p : Str}, Vals zs ws → ((ks.zip zs).lookup p = none ∧ (ks.zip ws).lookup p = none) ∨ ∃ v u, (ks.zip zs).lookup p = some v ∧ (ks.zip ws).lookup p = some u ∧ RelV v u
  | [], zs, ws, p, r => .inl ⟨rfl, rfl⟩
  | k :: ks, zs, ws, p, r => by
    cases r with
    | nil => exact .inl ⟨rfl, rfl⟩
    | cons r1 r2 =>
      rw [List.zip_cons_cons, List.zip_cons_cons, List.lookup_cons, List.lookup_cons]
      cases p == k with
      | true => exact .inr ⟨_, _, rfl, rfl, r1⟩
      | false => exact lookup_vals r2
theorem kwOrd_vals {n : Nat} {ks : List Str} {zs : List V} {ws : List Value} (r : Vals zs ws) (ps : List Str) : Vals (kwOrd ps n ks zs) (kwOrd ps n ks ws) := by
  unfold kwOrd
  generalize ps.drop n = l
  induction l with
  | nil => exact .nil
  | cons p l ih =>
    rw [List.filterMap_cons, List.filterMap_cons]
    rcases lookup_vals (ks := ks) (p := p) r with ⟨e1, e2⟩ | ⟨v, u, e1, e2, r1⟩
    · rw [e1, e2]; exact ih
    · rw [e1, e2]; exact .cons r1 ih
theorem lookup_rel {K : PySem.W.Frag} {H : Hp} : ∀ {ks : List Str} {ds : List D} {zs : List V} {p : Str}, RelDs K H ds zs → ((ks.zip ds).lookup p = none ∧ (ks.zip zs).lookup p = none) ∨ ∃ d v, (ks.zip ds).lookup p = some d ∧ (ks.zip zs).lookup p = some v ∧ RelD K H d v
  | [], ds, zs, p, r => .inl ⟨rfl, rfl⟩
  | k :: ks, [], zs, p, r => by
    rw [show zs = [] from r]
    exact .inl ⟨rfl, rfl⟩
  | k :: ks, d :: ds, zs, p, r => by
    obtain ⟨y, ys, rfl, r1, r2⟩ := r
    rw [List.zip_cons_cons, List.zip_cons_cons, List.lookup_cons, List.lookup_cons]
    cases p == k with
    | true => exact .inr ⟨_, _, rfl, rfl, r1⟩
    | false => exact lookup_rel r2
theorem kwOrd_rel {K : PySem.W.Frag} {H : Hp} {n : Nat} {ks : List Str} {ds : List D} {zs : List V} (r : RelDs K H ds zs) (ps : List Str) : RelDs K H (kwOrd ps n ks ds) (kwOrd ps n ks zs) := by
  unfold kwOrd
  generalize ps.drop n = l
  induction l with
  | nil => rfl
  | cons p l ih =>
    rw [List.filterMap_cons, List.filterMap_cons]
    rcases lookup_rel (ks := ks) (p := p) r with ⟨e1, e2⟩ | ⟨v, u, e1, e2, r1⟩
    · rw [e1, e2]; exact ih
    · rw [e1, e2]; exact ⟨_, _, rfl, r1, ih⟩
/-- the keywords' values -/
theorem pdk_nil : PK X [] (LiftA X.K fun _ S K => K [] S) := ⟨fun pos pins s σ H Q I ⟨ρ, S, Kd, he, hs, ht, hp⟩ => pk_nil.run pos pins s σ H Q I (hp [] S [] H ht (.refl H) .refl hs rfl)⟩
theorem pdk_cons {nm : Option Str} {kpos : Pos} {kws : List Keyword} {te : DE} {ta : DA} (h : PDE X a te) (hr : PK X kws (LiftA X.K ta)) : PK X (⟨nm, a, kpos⟩ :: kws) (LiftA X.K fun ρ S K => te ρ S fun d S1 => ta ρ S1 fun ds S2 => K (d :: ds) S2) :=
  ⟨fun pos pins s σ H Q I ⟨ρ, S, Kd, he, hs, ht, hp⟩ => (pk_cons h hr).run pos pins s σ H Q I (by
    refine ⟨ρ, S, _, he, hs, ht, fun d S1 v H1 h1 k1 e1 r1 rd1 => ?_⟩
    refine ⟨ρ, S1, _, he.keep k1, r1, h1, fun ds S2 vs H2 h2 k2 e2 r2 rd2 => ?_⟩
    exact hp (d :: ds) S2 (v :: vs) H2 h2 (k1.trans k2) (e1.trans k1 e2) r2 ⟨v, vs, rfl, rd1.keep k2, rd2⟩)⟩
theorem pd_callk {k n : Nat} {f : Str} {p : Pos} {ps ks : List Str} {kws : List Keyword} {tab} {g : List D → Sto → Kt → Prop} (F : FnF X k f ps tab g) (hr : Room k X.A) (hg : Gl X f) (hmem : (f, n, ks) ∈ tab) (ha : PDA X (a :: es) tA) (hkw : PK X kws (LiftA X.K tZ))
    (hall : (backToKw pos (keywordEach kws X.env)).all (·.1.isSome) = true) (hks : (backToKw pos (keywordEach kws X.env)).filterMap (·.1) = ks)
    (hdb : (f == ("__debug__" : Str)) = false) (he : starEach (a :: es) X.env = (false, eval a X.env) :: starEach es X.env)
    (hpl : ((backTo pos (starEach (a :: es) X.env)).any (·.1) || (backToKw pos (keywordEach kws X.env)).any (·.1.isNone)) = false) :
    PDE X (.Call (.Name f p) (a :: es) kws pos) (fun ρ S K => tA ρ S fun ds S1 => tZ ρ S1 fun zs S2 => (ds.length = n ∧ zs.length = ks.length) ∧ g (ds ++ kwOrd ps n ks zs) S2 K) := by
  obtain ⟨fd, G, hb, hk⟩ := F.ok
  refine peI (pe_callN G hr hg F.mg F.kp (hk n ks hmem) pass0 ha hkw hall hks hdb he hpl) fun σ H Q ⟨ρ, S, Kd, hv, hs, ht, hp⟩ => ?_
  refine ⟨ρ, S, _, hv, hs, ht, fun ds S1 vs H1 h1 k1 e1 r1 rd1 => ?_⟩
  refine ⟨ρ, S1, _, hv.keep k1, r1, h1, fun zs S2 us H2 ⟨⟨l1, l2⟩, h2⟩ k2 e2 r2 rd2 => ⟨by rw [rd1.length]; exact l1, by rw [rd2.length]; exact l2, ?_⟩⟩
  exact ⟨ds ++ kwOrd ps n ks zs, S2, Kd, (rd1.keep k2).append (kwOrd_rel rd2 ps), r2, h2, hp.go (k1.trans k2) (e1.trans k1 e2)⟩
theorem pd_callk0 {k : Nat} {f : Str} {p : Pos} {ps ks : List Str} {kws : List Keyword} {tab} {g : List D → Sto → Kt → Prop} (F : FnF X k f ps tab g) (hr : Room k X.A) (hg : Gl X f) (hmem : (f, 0, ks) ∈ tab) (hkw : PK X kws (LiftA X.K tZ))
    (hall : (backToKw pos (keywordEach kws X.env)).all (·.1.isSome) = true) (hks : (backToKw pos (keywordEach kws X.env)).filterMap (·.1) = ks)
    (hdb : (f == ("__debug__" : Str)) = false) (hpl : ((backTo pos (starEach [] X.env)).any (·.1) || (backToKw pos (keywordEach kws X.env)).any (·.1.isNone)) = false) :
    PDE X (.Call (.Name f p) [] kws pos) (fun ρ S K => tZ ρ S fun zs S2 => zs.length = ks.length ∧ g (kwOrd ps 0 ks zs) S2 K) := by
  obtain ⟨fd, G, hb, hk⟩ := F.ok
  refine ⟨fun pins s σ H Q I ⟨ρ, S, Kd, hv, hs, ht, hp⟩ => ?_⟩
  refine wpAny_Call_Name_kw (ld_glob I hg F.mg ?_ hdb)
  refine PySem.W.callWith_KW0 (h₀ := X.base) I.ok.mod.kin F.kp hall (thn (hkw.run pos pins s σ H (fun us H2 => ∃ zs S2, (zs.length = ks.length ∧ g (kwOrd ps 0 ks zs) S2 Kd) ∧ Keep H H2 ∧ Ext H S S2 ∧ RS X.K H2 S2 ∧ RelDs X.K H2 zs us) I
    ⟨ρ, S, _, hv, hs, ht, fun zs S2 us H2 h2 k2 e2 r2 rd2 => ⟨zs, S2, h2, k2, e2, r2, rd2⟩⟩) fun ws s2 ⟨us, H2, I2, rz, zs, S2, ⟨l2, h2⟩, k2, e2, r2, rd2⟩ => ⟨I2.kIn, ?_⟩) hpl
  rw [hks]
  exact run_fnN (us := []) (vs := []) G hr (hk 0 ks hmem) pass0 I2 .nil rz rfl (by rw [rd2.length]; exact l2) ⟨kwOrd ps 0 ks zs, S2, Kd, kwOrd_rel rd2 ps, r2, h2, hp.go k2 e2⟩
end
end Lt

set_option Elab.async false
set_option linter.all false
set_option maxRecDepth 100000
set_option maxHeartbeats 4000000
namespace Lt
open PySem PySem.Spec PyProof.Rows L2

section
variable {X : Cx} {pos : Pos} {a b : Expr} {ta tb to : DE} {es : List Expr} {tA tZ : DA}
/-! ### instances -/
theorem ref_ins {K : PySem.W.Frag} {H : Hp} {S : Sto} {p : Addr} {P : Str → List (Str × D) → Prop} (hs : RS K H S) (h : match S p with
    | some (.ins cn fs) => P cn fs
    | _ => False) : ∃ cn fs dx ys, S p = some (.ins cn fs) ∧ P cn fs ∧ H p = some (.ins (He.ga K cn) dx ys) ∧ RelKV K H fs ys := by
  cases q : S p with
  | none => rw [q] at h; exact h.elim
  | some cc =>
    rw [q] at h
    cases cc <;> first | exact h.elim | skip
    rename_i cn fs
    obtain ⟨dx, ys, g1, rd⟩ := hs.ok _ _ q
    exact ⟨cn, fs, dx, ys, rfl, h, g1, rd⟩
theorem kv_lookup {K : PySem.W.Frag} {H : Hp} {f : Str} : ∀ {fs : List (Str × D)} {ys : List (Str × V)}, RelKV K H fs ys → (fs.lookup f = none ∧ ys.lookup f = none) ∨ ∃ d v, fs.lookup f = some d ∧ ys.lookup f = some v ∧ RelD K H d v
  | [], ys, ⟨h1, h2⟩ => by
    have e : ys = [] := List.map_eq_nil_iff.mp h1
    subst e
    exact .inl ⟨rfl, rfl⟩
  | (g, d) :: fs, [], ⟨h1, h2⟩ => by cases h1
  | (g, d) :: fs, (g', v) :: ys, ⟨h1, h2⟩ => by
    rw [List.map_cons, List.map_cons] at h1
    injection h1 with e1 e2
    have e1 : g' = g := e1
    subst e1
    obtain ⟨y, zs, e3, r1, r2⟩ := h2
    injection e3 with e4 e5
    subst e4 e5
    rw [List.lookup_cons, List.lookup_cons]
    cases f == g' with
    | true => exact .inr ⟨_, _, rfl, rfl, r1⟩
    | false => exact kv_lookup ⟨e2, r2⟩
theorem kv_put {K : PySem.W.Frag} {H : Hp} {f : Str} {d : D} {v : V} (r : RelD K H d v) : ∀ {fs : List (Str × D)} {ys : List (Str × V)}, RelKV K H fs ys → RelKV K H (putFD f d fs) (putF f v ys)
  | [], ys, ⟨h1, h2⟩ => by
    have e : ys = [] := List.map_eq_nil_iff.mp h1
    subst e
    exact ⟨rfl, v, [], rfl, r, rfl⟩
  | (g, d') :: fs, [], ⟨h1, h2⟩ => by cases h1
  | (g, d') :: fs, (g', v') :: ys, ⟨h1, h2⟩ => by
    rw [List.map_cons, List.map_cons] at h1
    injection h1 with e1 e2
    have e1 : g' = g := e1
    subst e1
    obtain ⟨y, zs, e3, r1, r2⟩ := h2
    injection e3 with e4 e5
    subst e4 e5
    show RelKV K H (if g' = f then (f, d) :: fs else (g', d') :: putFD f d fs) (if g' = f then (g', v) :: ys else (g', v') :: putF f v ys)
    by_cases hg : g' = f
    · rw [if_pos hg, if_pos hg]
      subst hg
      exact ⟨by rw [List.map_cons, List.map_cons, e2], v, _, rfl, r, r2⟩
    · rw [if_neg hg, if_neg hg]
      obtain ⟨q1, q2⟩ := kv_put r (fs := fs) (ys := ys) ⟨e2, r2⟩
      exact ⟨by rw [List.map_cons, List.map_cons, q1], v', _, rfl, r1, q2⟩
theorem kv_len {κ : Type} {K : PySem.W.Frag} {H : Hp} {fs : List (κ × D)} {ys : List (κ × V)} (r : RelKV K H fs ys) : ys.length = fs.length := by
  have := congrArg List.length r.1
  rw [List.length_map, List.length_map] at this
  exact this
theorem pd_fld {classes : List Str} {fields : Str → List Str} {f : Str} (hc : ∀ cn ∈ classes, ClsF X.K cn (fields cn) classes) (he : PDE X a ta) (hb : attributeBase a f X.env (eval a X.env) = eval a X.env) :
    PDE X (.Attribute a f pos) (fun ρ S K => ta ρ S fun x S1 => match x with
    | .ref p => (match S1 p with
      | some (.ins cn fs) => (cn ∈ classes ∧ f ∈ fields cn) ∧ (match fs.lookup f with
        | some d => K d S1
        | none => False)
      | _ => False)
    | _ => False) := peI (pe_fld he hb) fun σ H Q ⟨ρ, S, Kd, hv, hs, ht, hp⟩ => by
  refine ⟨ρ, S, _, hv, hs, ht, fun x S1 v H1 h1 k1 e1 r1 rd1 => ?_⟩
  cases x with
  | ref p =>
    obtain ⟨cn, fs, dx, ys, hS, ⟨⟨m1, m2⟩, h1⟩, g, rkv⟩ := ref_ins (P := fun cn fs => (cn ∈ classes ∧ f ∈ fields cn) ∧ (match fs.lookup f with
        | some d => Kd d S1
        | none => False)) r1 h1
    cases rd1
    rcases kv_lookup (f := f) rkv with ⟨q1, q2⟩ | ⟨d, w, q1, q2, r⟩
    · rw [q1] at h1; exact h1.elim
    · rw [q1] at h1
      exact ⟨p, He.ga X.K cn, dx, ys, w, rfl, g, (hc cn m1).cl, (hc cn m1).att f m2, q2, hp _ _ _ _ h1 k1 e1 r1 r⟩
  | _ => exact (show False from h1).elim
/-- a new instance -/
theorem make_of {cn : Str} {g : List D → Sto → Kt → Prop} {H : Hp} {S : Sto} {ds : List D} {vs : List V} {Kd : Kt} {Q : VK} {E : XK} (hs : RS X.K H S) (rd : RelDs X.K H ds vs) (h : ∀ p, S p = none → g (.ref p :: ds) (sup S p (.ins cn [])) fun d S2 => isNonD d = true ∧ Kd (.ref p) S2) (hp : Post X.K H S Kd Q) :
    ∀ x dx, H x = none → H dx = none → dx ≠ x → liftSp X.K g (.ref x :: (vs ++ [])) (upd (upd H dx (.own x)) x (.ins (He.ga X.K cn) dx [])) (fun v H2 => v = .non ∧ Q (.ref x) H2) E := by
  intro x dx hx hdx hne
  have k1 : Keep H (upd H dx (.own x)) := .new hdx
  have s1 : RS X.K (upd H dx (.own x)) S := hs.lay hdx
  have hx1 : (upd H dx (.own x)) x = none := by rw [upd_ne (Ne.symm hne)]; exact hx
  have k2 : Keep (upd H dx (.own x)) (upd (upd H dx (.own x)) x (.ins (He.ga X.K cn) dx [])) := .new hx1
  have s2 : RS X.K (upd (upd H dx (.own x)) x (.ins (He.ga X.K cn) dx [])) (sup S x (.ins cn [])) := s1.new hx1 (fun z => by cases z) ⟨dx, [], upd_same, rfl, rfl⟩
  refine ⟨.ref x :: ds, _, _, ⟨_, _, by rw [List.append_nil], rfl, (rd.keep (k1.trans k2))⟩, s2, h x (hs.free hx), fun d S' v H' ⟨hd, hk⟩ kk ee rr rdd => ?_⟩
  have ev : v = .non := by
    have := isNon_rel rdd
    rw [hd] at this
    exact of_decide_eq_true this
  refine ⟨ev, hp _ _ _ _ hk ((k1.trans k2).trans kk) ?_ rr rfl⟩
  intro c hc
  rcases ee c hc with q | q
  · by_cases e : c = x
    · subst e; exact .inr hx
    · rw [sup_ne e] at q; exact .inl q
  · refine .inr ?_
    cases z : H c with
    | none => rfl
    | some o => exact absurd q ((k1.trans k2).dom c (by rw [z]; simp))
theorem pd_make {k : Nat} {cn : Str} {p : Pos} {g : List D → Sto → Kt → Prop} (M : MkF X k cn g) (hr : Room k X.A) (hg : Gl X cn) (ha : PDA X (a :: es) tA) (hdb : (cn == ("__debug__" : Str)) = false)
    (he : starEach (a :: es) X.env = (false, eval a X.env) :: starEach es X.env) (hpl : (backTo pos (starEach es X.env)).any (·.1) = false) :
    PDE X (.Call (.Name cn p) (a :: es) [] pos) (fun ρ S K => tA ρ S fun ds S1 => ∀ p, S1 p = none → g (.ref p :: ds) (sup S1 p (.ins cn [])) fun d S2 => isNonD d = true ∧ K (.ref p) S2) := by
  obtain ⟨j, fd, ps, hj, F, hb⟩ := M.ok
  refine peI (pe_make M.mak F (hr.mono hj) hg M.mg hb .nil pass0 ha hdb he hpl) fun σ H Q ⟨ρ, S, Kd, hv, hs, ht, hp⟩ => ?_
  exact ⟨ρ, S, _, hv, hs, ht, fun ds S1 vs H1 h1 k1 e1 r1 rd1 => make_of (E := E0) r1 rd1 h1 (hp.go k1 e1)⟩
theorem pd_make0 {k : Nat} {cn : Str} {p : Pos} {g : List D → Sto → Kt → Prop} (M : MkF X k cn g) (hr : Room k X.A) (hg : Gl X cn) (hdb : (cn == ("__debug__" : Str)) = false) :
    PDE X (.Call (.Name cn p) [] [] pos) (fun ρ S K => ∀ p, S p = none → g [.ref p] (sup S p (.ins cn [])) fun d S2 => isNonD d = true ∧ K (.ref p) S2) := by
  obtain ⟨j, fd, ps, hj, F, hb⟩ := M.ok
  refine peI (pe_make0 M.mak F (hr.mono hj) hg M.mg hb .nil pass0 hdb) fun σ H Q ⟨ρ, S, Kd, hv, hs, ht, hp⟩ => ?_
  exact make_of (E := E0) (ds := []) (vs := []) hs rfl ht hp
/-! ### methods of own classes, the class told by the value -/
theorem pd_meth {pl : Sem Bool} {c : Calls} {k : Nat} {meths : List (Str × Str)} {m : Str} {apos : Pos} (hm : ∀ cn m, (cn, m) ∈ meths → MethF X k cn m (c.meth cn m)) (hr : Room k X.A) (he : PDE X a ta) (ha : PDA X (b :: es) tA)
    (hst : starEach (b :: es) X.env = (false, eval b X.env) :: starEach es X.env) (hpl : (backTo pos (starEach es X.env)).any (·.1) = false)
    (ht : eval (.Call (.Attribute a m apos) (b :: es) [] pos) X.env = (do
      let ov ← eval a X.env
      standAt apos.atName
      let (f, first) ← holding [ov] (getMethod ov m pl)
      callWith pos f first (backTo pos (starEach (b :: es) X.env)) (backToKw pos (keywordEach [] X.env)))) :
    PDE X (.Call (.Attribute a m apos) (b :: es) [] pos) (fun ρ S K => ta ρ S fun x S1 => match x with
    | .ref p => (match S1 p with
      | some (.ins cn fs) => ((cn, m) ∈ meths ∧ fs.lookup m = none) ∧ tA ρ S1 fun ds S2 => c.meth cn m (x :: ds) S2 K
      | _ => False)
    | _ => False) := by
  refine ⟨fun pins s σ H Q I ⟨ρ, S, Kd, hv, hs, hq, hp⟩ => ?_⟩
  refine PySem.W.methodCall_KW (pl := pl) (thn (he.run pins s σ H (fun v H1 => ∃ p S1 cn fs dx ys, v = .ref p ∧ (((cn, m) ∈ meths ∧ fs.lookup m = none) ∧ tA ρ S1 fun ds S2 => c.meth cn m (.ref p :: ds) S2 Kd) ∧ Keep H H1 ∧ Ext H S S1 ∧ RS X.K H1 S1 ∧ H1 p = some (.ins (He.ga X.K cn) dx ys) ∧ RelKV X.K H1 fs ys) I
    ⟨ρ, S, _, hv, hs, hq, fun x S1 v H1 h1 k1 e1 r1 rd1 => ?_⟩) fun u s1 ⟨vx, H1, I1, r1, p, S1, cn, fs, dx, ys, ev, ⟨⟨m1, m2⟩, h1⟩, k1, e1, q1, g, rkv⟩ => ?_) ht
  · cases x with
    | ref p =>
      obtain ⟨cn, fs, dx, ys, hS, h1, g, rkv⟩ := ref_ins (P := fun cn fs => ((cn, m) ∈ meths ∧ fs.lookup m = none) ∧ tA ρ S1 fun ds S2 => c.meth cn m (.ref p :: ds) S2 Kd) r1 h1
      exact ⟨p, S1, cn, fs, dx, ys, rd1, h1, k1, e1, r1, g, rkv⟩
    | _ => exact (show False from h1).elim
  · subst ev
    obtain rfl : u = Value.ref p := r1
    have M := hm cn m m1
    obtain ⟨fd, ps, F, hb⟩ := M.ok
    have l : ys.lookup m = none := by
      rcases kv_lookup (f := m) rkv with ⟨_, q⟩ | ⟨d, _, q, _⟩
      · exact q
      · rw [m2] at q; cases q
    refine getmeth_ok I1 g M.cl M.mt l ?_
    refine PySem.W.callWith_K (first := [.ref p]) (h₀ := X.base) I1.ok.mod.kin M.mt.kp (thn (ha.run pos pins s1 σ H1 (fun vs H2 => ∃ ds S2, c.meth cn m (.ref p :: ds) S2 Kd ∧ Keep H1 H2 ∧ Ext H1 S1 S2 ∧ RS X.K H2 S2 ∧ RelDs X.K H2 ds vs) I1
      ⟨ρ, S1, _, hv.keep k1, q1, h1, fun ds S2 vs H2 h2 k2 e2 r2 rd2 => ⟨ds, S2, h2, k2, e2, r2, rd2⟩⟩) fun us s2 ⟨vs, H2, I2, r, ds, S2, h2, k2, e2, r2, rd2⟩ => ⟨I2.kIn, ?_⟩) hst hpl
    exact run_fn (us := .ref p :: us) (vs := .ref p :: vs) (dvs := []) (ds := []) F hr hb .nil pass0 I2 (.cons rfl r) ⟨.ref p :: ds, S2, Kd, by rw [List.append_nil]; exact ⟨_, _, rfl, rfl, rd2⟩, r2, h2, hp.go (k1.trans k2) (e1.trans k1 e2)⟩
theorem pd_meth0 {pl : Sem Bool} {c : Calls} {k : Nat} {meths : List (Str × Str)} {m : Str} {apos : Pos} (hm : ∀ cn m, (cn, m) ∈ meths → MethF X k cn m (c.meth cn m)) (hr : Room k X.A) (he : PDE X a ta)
    (ht : eval (.Call (.Attribute a m apos) [] [] pos) X.env = (do
      let ov ← eval a X.env
      standAt apos.atName
      let (f, first) ← holding [ov] (getMethod ov m pl)
      callWith pos f first (backTo pos (starEach [] X.env)) (backToKw pos (keywordEach [] X.env)))) :
    PDE X (.Call (.Attribute a m apos) [] [] pos) (fun ρ S K => ta ρ S fun x S1 => match x with
    | .ref p => (match S1 p with
      | some (.ins cn fs) => ((cn, m) ∈ meths ∧ fs.lookup m = none) ∧ c.meth cn m [x] S1 K
      | _ => False)
    | _ => False) := by
  refine ⟨fun pins s σ H Q I ⟨ρ, S, Kd, hv, hs, hq, hp⟩ => ?_⟩
  refine PySem.W.methodCall_KW (pl := pl) (thn (he.run pins s σ H (fun v H1 => ∃ p S1 cn fs dx ys, v = .ref p ∧ (((cn, m) ∈ meths ∧ fs.lookup m = none) ∧ c.meth cn m [.ref p] S1 Kd) ∧ Keep H H1 ∧ Ext H S S1 ∧ RS X.K H1 S1 ∧ H1 p = some (.ins (He.ga X.K cn) dx ys) ∧ RelKV X.K H1 fs ys) I
    ⟨ρ, S, _, hv, hs, hq, fun x S1 v H1 h1 k1 e1 r1 rd1 => ?_⟩) fun u s1 ⟨vx, H1, I1, r1, p, S1, cn, fs, dx, ys, ev, ⟨⟨m1, m2⟩, h1⟩, k1, e1, q1, g, rkv⟩ => ?_) ht
  · cases x with
    | ref p =>
      obtain ⟨cn, fs, dx, ys, hS, h1, g, rkv⟩ := ref_ins (P := fun cn fs => ((cn, m) ∈ meths ∧ fs.lookup m = none) ∧ c.meth cn m [.ref p] S1 Kd) r1 h1
      exact ⟨p, S1, cn, fs, dx, ys, rd1, h1, k1, e1, r1, g, rkv⟩
    | _ => exact (show False from h1).elim
  · subst ev
    obtain rfl : u = Value.ref p := r1
    have M := hm cn m m1
    obtain ⟨fd, ps, F, hb⟩ := M.ok
    have l : ys.lookup m = none := by
      rcases kv_lookup (f := m) rkv with ⟨_, q⟩ | ⟨d, _, q, _⟩
      · exact q
      · rw [m2] at q; cases q
    refine getmeth_ok I1 g M.cl M.mt l ?_
    exact PySem.W.callWith_K0 (first := [.ref p]) I1.kIn M.mt.kp (run_fn (us := [.ref p]) (vs := [.ref p]) (dvs := []) (ds := []) F hr hb .nil pass0 I1 (.cons rfl .nil) ⟨[.ref p], S1, Kd, ⟨_, _, rfl, rfl, rfl⟩, q1, h1, hp.go k1 e1⟩)
end
end Lt

set_option Elab.async false
set_option linter.all false
set_option maxRecDepth 100000
set_option maxHeartbeats 4000000
namespace Lt
open PySem PySem.Spec PyProof.Rows L2

/-! ### isinstance -/
def tyStr : TY → String
  | .int => "int" | .bool => "bool" | .str => "str" | .tup => "tuple" | .lst => "list" | .dict => "dict"
  | .cls _ => "object"
/-- the class as a value -/
def tyV' (K : PySem.W.Frag) : TY → V × Value
  | .cls cn => (.ref (He.ga K cn), .ref (He.ga K cn))
  | t => (.ty (tyStr t), .type (tyStr t))
def kdStr : KD → String
  | .non => "NoneType" | .bool => "bool" | .int => "int" | .str => "str" | .tup => "tuple" | .lst => "list" | .dict => "dict"
  | .ins _ => "object"
theorem kit_tab {K : PySem.W.Frag} {k : KD} {t : TY} (hk : ∀ cn, k ≠ .ins cn) (ht : ∀ c, t ≠ .cls c) : PySem.W.kitOne K (.type (kdStr k)) (.type (tyStr t)) = some (isK k t) := by
  refine kit_ty ?_
  cases k <;> first
    | exact absurd rfl (hk _)
    | (cases t <;> first
        | exact absurd rfl (ht _)
        | decide +kernel)
theorem kd_mem {k : KD} (hk : ∀ cn, k ≠ .ins cn) : kdStr k ∈ tyNames := by
  cases k <;> first
    | exact absurd rfl (hk _)
    | decide
theorem ty_mem {t : TY} (ht : ∀ c, t ≠ .cls c) : tyStr t ∈ tyNames := by
  cases t <;> first
    | exact absurd rfl (ht _)
    | decide
/-- the kind as the model's type -/
def kdV (K : PySem.W.Frag) : KD → Value
  | .ins cn => .ref (He.ga K cn)
  | k => .type (kdStr k)
theorem kdV_ty {K : PySem.W.Frag} {k : KD} (hk : ∀ cn, k ≠ .ins cn) : kdV K k = .type (kdStr k) := by
  cases k <;> first
    | exact absurd rfl (hk _)
    | rfl
theorem knd_ty {K : PySem.W.Frag} {H : Hp} {S : Sto} {d : D} {v : V} {k : KD} {classes : List Str} {fields : Str → List Str} (hc : ∀ cn ∈ classes, ClsF K cn (fields cn) classes) (hs : RS K H S) (r : RelD K H d v) (h : knd d S = some k) (hk : ∀ cn, k = .ins cn → cn ∈ classes) : TyX K H v (kdV K k) := by
  cases d with
  | non => cases h; rw [show v = _ from r]; exact .base .non
  | bl b => cases h; rw [show v = _ from r]; exact .base (.bl b)
  | int b => cases h; rw [show v = _ from r]; exact .base (.int b)
  | str b => cases h; rw [show v = _ from r]; exact .base (.str b)
  | fn b => cases h
  | tup ds =>
    cases h
    obtain ⟨p, xs, rfl, t, z, rd⟩ := r
    rcases t with ⟨o, ho, hd⟩ | ⟨o, its, n, hk, hc, hd, _⟩
    · exact .fTuple ho
    · exact .kTuple hk hc
  | rl ds =>
    cases h
    obtain ⟨p, xs, rfl, t, z, rd⟩ := r
    rcases t with ⟨o, ho⟩ | ⟨o, its, n, hk, hc, hd, _⟩
    · exact .base (.frz ho)
    · exact .kList hk hc
  | ref p =>
    have h : (match S p with
      | some (.lst _) => some KD.lst
      | some (.dic _) => some .dict
      | some (.dit _) => some .dict
      | some (.ins cn _) => some (.ins cn)
      | _ => none) = some k := h
    rw [show v = _ from r]
    cases q : S p with
    | none => rw [q] at h; cases h
    | some cc =>
      rw [q] at h
      cases cc with
      | lst ds => cases h; obtain ⟨xs, g, _⟩ := hs.lst q; exact .base (.lst g)
      | dic ds => cases h; obtain ⟨xs, g, _⟩ := hs.ok _ _ q; exact .base (.dK g)
      | dit ds => cases h; obtain ⟨xs, g, _⟩ := hs.ok _ _ q; exact .base (.dT g)
      | deal => cases h
      | ins cn fs =>
        cases h
        obtain ⟨dx, ys, g, _⟩ := hs.ok _ _ q
        have F := hc cn (hk cn rfl)
        exact .base (.ins g F.cl F.ha F.hn F.htk F.hm)
theorem kit_any1 {K : PySem.W.Frag} {k : KD} {t : TY} {classes : List Str} {fields : Str → List Str} (hc : ∀ cn ∈ classes, ClsF K cn (fields cn) classes) (h : kOk classes k t = true) : PySem.W.kitOne K (kdV K k) (tyV' K t).2 = some (isK k t) := by
  unfold kOk at h
  rw [Bool.and_eq_true] at h
  obtain ⟨h1, h2⟩ := h
  by_cases hk : ∃ cn, k = .ins cn
  · obtain ⟨cn, rfl⟩ := hk
    have m := of_decide_eq_true h1
    by_cases ht : ∃ c, t = .cls c
    · obtain ⟨c, rfl⟩ := ht
      exact (hc cn m).kC c (of_decide_eq_true h2)
    · have ht : ∀ c, t ≠ .cls c := fun c e => ht ⟨c, e⟩
      have e : (tyV' K t).2 = .type (tyStr t) := by cases t <;> first | exact absurd rfl (ht _) | rfl
      rw [e, show isK (.ins cn) t = false by cases t <;> first | exact absurd rfl (ht _) | rfl]
      exact (hc cn m).kT _ (ty_mem ht)
  · have hk : ∀ cn, k ≠ .ins cn := fun cn e => hk ⟨cn, e⟩
    rw [kdV_ty hk]
    by_cases ht : ∃ c, t = .cls c
    · obtain ⟨c, rfl⟩ := ht
      rw [show isK k (.cls c) = false by cases k <;> first | exact absurd rfl (hk _) | rfl]
      exact (hc c (of_decide_eq_true h2)).kB _ (kd_mem hk)
    · have ht : ∀ c, t ≠ .cls c := fun c e => ht ⟨c, e⟩
      have e : (tyV' K t).2 = .type (tyStr t) := by cases t <;> first | exact absurd rfl (ht _) | rfl
      rw [e]
      exact kit_tab hk ht
theorem kit_anyL {K : PySem.W.Frag} {k : KD} {classes : List Str} {fields : Str → List Str} (hc : ∀ cn ∈ classes, ClsF K cn (fields cn) classes) : ∀ {ts : List TY}, (ts.all fun t => kOk classes k t) = true → PySem.W.kitAny K (kdV K k) (ts.map fun t => (tyV' K t).2) = some (ts.any fun t => isK k t)
  | [], _ => rfl
  | t :: ts, h => by
    rw [List.all_cons, Bool.and_eq_true] at h
    have q := kit_any1 hc h.1
    have ih := kit_anyL hc h.2
    rw [List.map_cons, List.any_cons]
    refine kitAny_cons q (fun e => ?_) (fun e => ?_)
    · rw [e, Bool.false_or]; exact ih
    · rw [e, Bool.true_or]
theorem cls_V {K : PySem.W.Frag} (t : TY) : ClsV (tyV' K t).1 (tyV' K t).2 := by
  cases t <;> first | exact .ty _ | exact .own _
section
variable {X : Cx} {pos : Pos} {a : Expr} {ta : DE}
/-- the name of a class as an expression -/
def ClsE (X : Cx) (e : Expr) (t : TY) : Prop := PE X e (tC (tyV' X.K t).1)
theorem pd_isi1 {t : TY} {p : Pos} {e : Expr} {classes : List Str} {fields : Str → List Str} (hc : ∀ cn ∈ classes, ClsF X.K cn (fields cn) classes) (hg : Gl X "isinstance") (hm : X.mg "isinstance" = none) (ha : PDE X a ta) (hcl : ClsE X e t)
    (he : starEach [a, e] X.env = (false, eval a X.env) :: starEach [e] X.env) (he2 : starEach [e] X.env = (false, eval e X.env) :: starEach [] X.env) (hpl : (backTo pos (starEach [e] X.env)).any (·.1) = false) :
    PDE X (.Call (.Name "isinstance" p) [a, e] [] pos) (fun ρ S K => ta ρ S fun x S1 => match knd x S1 with
    | some k => (([t] : List TY).all fun t => kOk classes k t) = true ∧ K (.bl (([t] : List TY).any fun t => isK k t)) S1
    | none => False) := by
  refine peI (pe_callB call_isi hg hm (by decide +kernel) (pa_cons ha (pa_cons hcl pa_nil he2) he) (by decide) (by decide) he hpl) fun σ H Q ⟨ρ, S, Kd, hv, hs, ht, hp⟩ => ?_
  refine ⟨ρ, S, _, hv, hs, ht, fun x S1 v H1 h1 k1 e1 r1 rd1 => ?_⟩
  cases q : knd x S1 with
  | none => rw [q] at h1; exact h1.elim
  | some k =>
    rw [q] at h1
    obtain ⟨h0, h1⟩ := h1
    rw [List.all_cons, List.all_nil, Bool.and_true] at h0
    rw [List.any_cons, List.any_nil, Bool.or_false] at h1
    have hk : ∀ cn, k = .ins cn → cn ∈ classes := fun cn e => by
      subst e
      unfold kOk at h0
      rw [Bool.and_eq_true] at h0
      exact of_decide_eq_true h0.1
    exact ⟨v, (tyV' X.K t).1, _, _, _, rfl, cls_V t, knd_ty hc r1 rd1 q hk, kit_any1 hc h0, hp _ _ _ _ h1 k1 e1 r1 rfl⟩
/-- a tuple of classes -/
def ClsEs (X : Cx) : List Expr → List TY → Prop
  | [], [] => True
  | e :: es, t :: ts => ClsE X e t ∧ starEach (e :: es) X.env = (false, eval e X.env) :: starEach es X.env ∧ ClsEs X es ts
  | _, _ => False
theorem pa_cls : ∀ {es : List Expr} {ts : List TY}, ClsEs X es ts → PA X es (fun _ H Q => Q (ts.map fun t => (tyV' X.K t).1) H)
  | [], [], _ => ⟨fun pos pins s σ H Q I h => pa_nil.run pos pins s σ H Q I h⟩
  | [], _ :: _, h => h.elim
  | _ :: _, [], h => h.elim
  | e :: es, t :: ts, ⟨h1, h2, h3⟩ => ⟨fun pos pins s σ H Q I hq => (pa_cons h1 (pa_cls h3) h2).run pos pins s σ H Q I hq⟩
theorem cls_pair {K : PySem.W.Frag} : ∀ ts : List TY, Paired ClsV (ts.map fun t => (tyV' K t).1) (ts.map fun t => (tyV' K t).2)
  | [] => .nil
  | t :: r => .cons (cls_V t) (cls_pair r)
theorem pd_isiT {ts : List TY} {p tp : Pos} {x1} {es : List Expr} {classes : List Str} {fields : Str → List Str} (hc : ∀ cn ∈ classes, ClsF X.K cn (fields cn) classes) (hg : Gl X "isinstance") (hm : X.mg "isinstance" = none) (ha : PDE X a ta) (hcl : PA X es (fun _ H Q => Q (ts.map fun t => (tyV' X.K t).1) H)) (hz : ts.length ≤ 100) (hne : ts ≠ [])
    (he : starEach [a, .Tuple es x1 tp] X.env = (false, eval a X.env) :: starEach [.Tuple es x1 tp] X.env) (he2 : starEach [.Tuple es x1 tp] X.env = (false, eval (.Tuple es x1 tp) X.env) :: starEach [] X.env) (hpl : (backTo pos (starEach [.Tuple es x1 tp] X.env)).any (·.1) = false) :
    PDE X (.Call (.Name "isinstance" p) [a, .Tuple es x1 tp] [] pos) (fun ρ S K => ta ρ S fun x S1 => match knd x S1 with
    | some k => (ts.all fun t => kOk classes k t) = true ∧ K (.bl (ts.any fun t => isK k t)) S1
    | none => False) := by
  refine peI (pe_callB call_isiT hg hm (by decide +kernel) (pa_cons ha (pa_cons (pe_tup hcl) pa_nil he2) he) (by decide) (by decide) he hpl) fun σ H Q ⟨ρ, S, Kd, hv, hs, ht, hp⟩ => ?_
  refine ⟨ρ, S, _, hv, hs, ht, fun x S1 v H1 h1 k1 e1 r1 rd1 => ?_⟩
  cases q : knd x S1 with
  | none => rw [q] at h1; exact h1.elim
  | some k =>
    rw [q] at h1
    obtain ⟨h0, h1⟩ := h1
    refine ⟨by rw [List.length_map, sizeLine_eq]; omega, fun tp hn => ?_⟩
    have kn : Keep H1 (upd H1 tp (.tup (ts.map fun t => (tyV' X.K t).1))) := .new hn
    have hk : ∀ cn, k = .ins cn → cn ∈ classes := fun cn e => by
      subst e
      obtain ⟨t, r, rfl⟩ : ∃ t r, ts = t :: r := by
        cases ts with
        | nil => exact absurd rfl hne
        | cons t r => exact ⟨t, r, rfl⟩
      rw [List.all_cons, Bool.and_eq_true] at h0
      have h0 := h0.1
      unfold kOk at h0
      rw [Bool.and_eq_true] at h0
      exact of_decide_eq_true h0.1
    exact ⟨v, tp, _, _, _, _, rfl, upd_same, cls_pair ts, knd_ty hc (r1.lay hn) (rd1.keep kn) q hk, kit_anyL hc h0, hp _ _ _ _ h1 (k1.trans kn) (e1.trans k1 .refl) (r1.lay hn) rfl⟩
end
end Lt

set_option Elab.async false
set_option linter.all false
set_option maxRecDepth 100000
set_option maxHeartbeats 4000000
namespace Lt
open PySem PySem.Spec PyProof.Rows L2

/-! ## what is walked -/
structure Walk (K : PySem.W.Frag) (J : It) (ds : List D) (st : Sto → Prop) (H0 : Hp) : Prop where
  go : ∀ i H S d, Keep H0 H → RS K H S → st S → ds[i]? = some d → J.go i H
  stop : ∀ i H S, Keep H0 H → RS K H S → st S → ds.length ≤ i → J.stop i H
  yld : ∀ i H S d x H', Keep H0 H → RS K H S → st S → ds[i]? = some d → J.yld i H x H' → Keep H H' ∧ RS K H' S ∧ RelD K H' d x ∧ ∀ b, H b ≠ none → H' b = H b
abbrev DI := Env → Sto → (List D → (Sto → Prop) → Sto → Prop) → Prop
def LiftI (K : PySem.W.Frag) (t : DI) : TI := fun σ H R => ∃ ρ S Kd, RelEnv K H σ ρ ∧ RS K H S ∧ t ρ S Kd ∧
  ∀ ds st S' J H', Kd ds st S' → Keep H H' → Ext H S S' → RS K H' S' → Walk K J ds st H' → R J H'
abbrev PDI (X : Cx) (tg e : Expr) (t : DI) : Prop := PI X tg e (LiftI X.K t)

theorem walk_list {K : PySem.W.Frag} {a : Addr} {ds : List D} {H0 : Hp} : Walk K (Itl K a) ds (Stay a ds) H0 where
  go := fun i H S d k hs hst hd => by
    obtain ⟨xs, h1, rd, _⟩ := hs.ok _ _ hst
    obtain ⟨v, hv, _⟩ := rd.get hd
    exact ⟨xs, v, .of h1, hv⟩
  stop := fun i H S k hs hst hd => by
    obtain ⟨xs, h1, rd, _⟩ := hs.ok _ _ hst
    exact ⟨xs, .of h1, by rw [rd.length]; exact hd⟩
  yld := fun i H S d x H' k hs hst hd y => by
    obtain ⟨e, y⟩ := y
    subst e
    obtain ⟨xs, h1, rd, _⟩ := hs.ok _ _ hst
    obtain ⟨v, hv, r⟩ := rd.get hd
    have q := y xs (.of h1)
    rw [hv] at q
    cases q
    exact ⟨.refl _, hs, r, fun _ _ => rfl⟩
theorem walk_rl {K : PySem.W.Frag} {a : Addr} {xs : List V} {ds : List D} {H0 : Hp} (t : RoL K H0 a xs) (rd : RelDs K H0 ds xs) : Walk K (Itl K a) ds (fun _ => True) H0 where
  go := fun i H S d k hs hst hd => by
    obtain ⟨v, hv, _⟩ := rd.get hd
    exact ⟨xs, v, (k.rl t).sql, hv⟩
  stop := fun i H S k hs hst hd => ⟨xs, (k.rl t).sql, by rw [rd.length]; exact hd⟩
  yld := fun i H S d x H' k hs hst hd y => by
    obtain ⟨e, y⟩ := y
    subst e
    obtain ⟨v, hv, r⟩ := rd.get hd
    have q := y xs (k.rl t).sql
    rw [hv] at q
    cases q
    exact ⟨.refl _, hs, r.keep k, fun _ _ => rfl⟩
theorem walk_tup {K : PySem.W.Frag} {a : Addr} {xs : List V} {ds : List D} {H0 : Hp} (t : TupS K H0 a xs) (rd : RelDs K H0 ds xs) : Walk K (Itt K a) ds (fun _ => True) H0 where
  go := fun i H S d k hs hst hd => by
    obtain ⟨v, hv, _⟩ := rd.get hd
    exact ⟨xs, v, (k.sqt t).sqt, hv⟩
  stop := fun i H S k hs hst hd => ⟨xs, (k.sqt t).sqt, by rw [rd.length]; exact hd⟩
  yld := fun i H S d x H' k hs hst hd y => by
    obtain ⟨e, y⟩ := y
    subst e
    obtain ⟨v, hv, r⟩ := rd.get hd
    have q := y xs (k.sqt t).sqt
    rw [hv] at q
    cases q
    exact ⟨.refl _, hs, r.keep k, fun _ _ => rfl⟩
theorem rngD_length : ∀ {n : Nat} {i : Int}, (rngD i n).length = n
  | 0, _ => rfl
  | n + 1, i => by rw [rngD, List.length_cons, rngD_length]
theorem rngD_get : ∀ {n : Nat} {lo : Int} {i : Nat} {d : D}, (rngD lo n)[i]? = some d → i < n ∧ d = .int (lo + i)
  | 0, _, _, _, h => by simp [rngD] at h
  | n + 1, lo, 0, d, h => by
    simp [rngD] at h
    subst h
    exact ⟨Nat.succ_pos _, by simp⟩
  | n + 1, lo, i + 1, d, h => by
    simp [rngD] at h
    obtain ⟨h1, h2⟩ := rngD_get h
    subst h2
    exact ⟨Nat.succ_lt_succ h1, by congr 1; omega⟩
theorem walk_range {K : PySem.W.Frag} {lo : Int} {n : Nat} {H0 : Hp} : Walk K (Itr lo n) (rngD lo n) (fun _ => True) H0 where
  go := fun i H S d k hs hst hd => (rngD_get hd).1
  stop := fun i H S k hs hst hd => by rw [rngD_length] at hd; exact hd
  yld := fun i H S d x H' k hs hst hd y => by
    obtain ⟨e, y⟩ := y
    subst e y
    rw [(rngD_get hd).2]
    exact ⟨.refl _, hs, rfl, fun _ _ => rfl⟩

section
variable {X : Cx} {tg l : Expr} {te ta tb : DE}
theorem pd_iter (he : PDE X l te) : PDI X tg l (fun ρ S K => te ρ S fun x S1 => walkD x S1 K) := by
  refine ⟨fun pins s σ H R I h => ?_⟩
  obtain ⟨ρ, S, Kd, hρ, hs, ht, hp⟩ := h
  refine thn (he.run pins s σ H (fun x H1 => (∃ a, x = .ref a ∧ (∃ xs, SqL X.K H1 a xs) ∧ R (Itl X.K a) H1) ∨ ∃ a, x = .ref a ∧ (∃ xs, SqT X.K H1 a xs) ∧ R (Itt X.K a) H1) I ⟨ρ, S, _, hρ, hs, ht, fun d S1 v H1 h1 k1 e1 r1 rd => ?_⟩) fun v s1 ⟨x, H1, I1, r1, q1⟩ => ?_
  · cases d with
    | tup ds =>
      obtain ⟨a, xs, rfl, t, z, rd⟩ := rd
      exact .inr ⟨a, rfl, ⟨xs, t.sqt⟩, hp _ _ _ _ _ h1 k1 e1 r1 (walk_tup t rd)⟩
    | rl ds =>
      obtain ⟨a, xs, rfl, t, z, rd⟩ := rd
      exact .inl ⟨a, rfl, ⟨xs, t.sql⟩, hp _ _ _ _ _ h1 k1 e1 r1 (walk_rl t rd)⟩
    | ref a =>
      cases rd
      have h1 : match S1 a with
        | some (.lst ds) => Kd ds (Stay a ds) S1
        | _ => False := h1
      obtain ⟨ds, xs, e, h1, g, rd, z⟩ := ref_lst r1 (P := fun ds => Kd ds (Stay a ds) S1) h1
      exact .inl ⟨a, rfl, ⟨xs, .of g⟩, hp _ _ _ _ _ h1 k1 e1 r1 walk_list⟩
    | _ => exact (show False from h1).elim
  · rcases q1 with ⟨a, e, ⟨xs, hq⟩, q⟩ | ⟨a, e, ⟨xs, hq⟩, q⟩
    · subst e
      cases r1
      obtain ⟨its, rv, p, hz⟩ := I1.list hq
      refine wpAny_pyIter_list p.isList ?_
      refine ⟨s1.heap.objs.size, [s1.heap.objs.size], _, _, H1, rfl, I1.kept (t' := s1.toks) fun b o e => Heap.get?_push_of_some _ e, turn_list a _, ⟨_, Heap.get?_push_size _ rfl, rfl, rfl⟩, fun b hb => ?_, q⟩
      have e : b = s1.heap.objs.size := by simpa using hb
      subst e
      exact I1.fpOk (Nat.le_refl _) (I1.hok.fresh (Nat.le_refl _))
    · subst e
      cases r1
      obtain ⟨its, rv, p, hz⟩ := I1.tuple hq
      refine wpAny_pyIter_tuple (show s1.heap.IsTuple a its.toArray from p) ?_
      refine ⟨s1.heap.objs.size, [s1.heap.objs.size], _, _, H1, rfl, I1.kept (t' := s1.toks) fun b o e => Heap.get?_push_of_some _ e, turn_tuple a _, ⟨_, Heap.get?_push_size _ rfl, rfl, rfl⟩, fun b hb => ?_, q⟩
      have e : b = s1.heap.objs.size := by simpa using hb
      subst e
      exact I1.fpOk (Nat.le_refl _) (I1.hok.fresh (Nat.le_refl _))
theorem piI {tg e : Expr} {t t' : TI} (h : PI X tg e t) (i : ∀ σ H R, t' σ H R → t σ H R) : PI X tg e t' := ⟨fun pins s σ H R I q => h.run pins s σ H R I (i _ _ _ q)⟩
theorem int1_of {P : Int → Prop} {ds : List D} (h : match ds with
    | [.int j] => P j
    | _ => False) : ∃ j, ds = [.int j] ∧ P j := by
  cases ds with
  | nil => exact (show False from h).elim
  | cons d r =>
    cases r with
    | nil => cases d <;> first | exact (show False from h).elim | exact ⟨_, rfl, h⟩
    | cons e r => cases d <;> exact (show False from h).elim
theorem int2_of {P : Int → Int → Prop} {ds : List D} (h : match ds with
    | [.int i, .int j] => P i j
    | _ => False) : ∃ i j, ds = [.int i, .int j] ∧ P i j := by
  cases ds with
  | nil => exact (show False from h).elim
  | cons d r =>
    cases r with
    | nil => cases d <;> exact (show False from h).elim
    | cons e r =>
      cases r with
      | nil =>
        cases d <;> first | exact (show False from h).elim | skip
        cases e <;> first | exact (show False from h).elim | exact ⟨_, _, rfl, h⟩
      | cons f r =>
        cases d <;> first | exact (show False from h).elim | skip
        cases e <;> exact (show False from h).elim
theorem pd_rng1 {a : Expr} {tA : DA} {p pos : Pos} (hg : Gl X "range") (hm : X.mg "range" = none) (ha : PDA X [a] tA) (hs : starEach [a] X.env = [(false, eval a X.env)]) :
    PDI X tg (.Call (.Name "range" p) [a] [] pos) (fun ρ S K => tA ρ S fun ds S1 => match ds with
      | [.int j] => (-(2 ^ 62) ≤ j ∧ j < 2 ^ 62) ∧ K (rngD 0 j.toNat) (fun _ => True) S1
      | _ => False) :=
  piI (pi_range1 hg hm ha hs) fun σ H R ⟨ρ, S, Kd, hρ, hs, ht, hp⟩ => ⟨ρ, S, _, hρ, hs, ht, fun ds S1 vs H1 h1 k1 e1 r1 rd => by
    obtain ⟨j, rfl, h1⟩ := int1_of h1
    obtain ⟨v, rfl, r⟩ := rd.one
    cases r
    exact ⟨j, rfl, h1.1.1, h1.1.2, hp _ _ _ _ _ h1.2 k1 e1 r1 walk_range⟩⟩
theorem pd_rng2 {a b : Expr} {tA : DA} {p pos : Pos} (hg : Gl X "range") (hm : X.mg "range" = none) (ha : PDA X [a, b] tA) (hs : starEach [a, b] X.env = [(false, eval a X.env), (false, eval b X.env)]) (hs2 : starEach [b] X.env = [(false, eval b X.env)]) :
    PDI X tg (.Call (.Name "range" p) [a, b] [] pos) (fun ρ S K => tA ρ S fun ds S1 => match ds with
      | [.int i, .int j] => (-(2 ^ 62) ≤ i ∧ i < 2 ^ 62 ∧ -(2 ^ 62) ≤ j ∧ j < 2 ^ 62) ∧ K (rngD i (j - i).toNat) (fun _ => True) S1
      | _ => False) :=
  piI (pi_range2 hg hm ha hs hs2) fun σ H R ⟨ρ, S, Kd, hρ, hs, ht, hp⟩ => ⟨ρ, S, _, hρ, hs, ht, fun ds S1 vs H1 h1 k1 e1 r1 rd => by
    obtain ⟨i, j, rfl, h1⟩ := int2_of h1
    obtain ⟨v, u, rfl, r, r'⟩ := rd.two
    cases r
    cases r'
    exact ⟨i, j, rfl, h1.1, hp _ _ _ _ _ h1.2 k1 e1 r1 walk_range⟩⟩
end
end Lt

set_option Elab.async false
set_option linter.all false
set_option maxRecDepth 100000
set_option maxHeartbeats 4000000
namespace Lt
open PySem PySem.Spec PyProof.Rows L2

/-! ## targets -/
mutual
def LT.vs : LT → List Nat
  | .name i => [i]
  | .tup ts => LTs.vs ts
def LTs.vs : LTs → List Nat
  | .nil => []
  | .cons t ts => LT.vs t ++ LTs.vs ts
end
def LTs.len : LTs → Nat
  | .nil => 0
  | .cons _ ts => ts.len + 1
section
variable (K : PySem.W.Frag)
mutual
def gLT : LT → TG
  | .name i => gName i
  | .tup ts => gTup K ts.len (gLTs ts)
def gLTs : LTs → TGs
  | .nil => gNil
  | .cons t ts => gCons (gLT t) (gLTs ts)
end
end
/-- the slots but those at W -/
structure RelX (K : PySem.W.Frag) (H : Hp) (σ : L2.St) (ρ : Env) (W : Nat → Prop) : Prop where
  len : ρ.length ≤ σ.length
  get : ∀ (i : Nat) (d : D), ¬ W i → ρ[i]? = some (some d) → ∃ v, σ[i]? = some (some v) ∧ RelD K H d v
theorem RelX.none {K : PySem.W.Frag} {H : Hp} {σ : L2.St} {ρ : Env} {W : Nat → Prop} (h : RelX K H σ ρ W) (hW : ∀ i, ¬ W i) : RelEnv K H σ ρ := ⟨h.len, fun i d e => h.get i d (hW i) e⟩
theorem RelEnv.x {K : PySem.W.Frag} {H : Hp} {σ : L2.St} {ρ : Env} (h : RelEnv K H σ ρ) : RelX K H σ ρ (fun _ => False) := ⟨h.len, fun i d _ e => h.get i d e⟩
theorem RelX.imp {K : PySem.W.Frag} {H : Hp} {σ : L2.St} {ρ : Env} {W W' : Nat → Prop} (h : RelX K H σ ρ W) (hW : ∀ i, W i → W' i) : RelX K H σ ρ W' := ⟨h.len, fun i d n e => h.get i d (fun w => n (hW i w)) e⟩
theorem RelX.set {K : PySem.W.Frag} {H : Hp} {σ : L2.St} {ρ : Env} {W : Nat → Prop} {d : D} {v : V} (i : Nat) (h : RelX K H σ ρ W) (r : RelD K H d v) : RelX K H (σ.set i (some v)) (ρ.set i (some d)) (fun j => W j ∧ j ≠ i) := by
  refine ⟨by rw [List.length_set, List.length_set]; exact h.len, fun j e n q => ?_⟩
  by_cases hj : i = j
  · subst hj
    have hl : i < ρ.length := by
      have := (List.getElem?_eq_some_iff.mp q).1
      rw [List.length_set] at this
      exact this
    rw [List.getElem?_set_self hl] at q
    cases q
    exact ⟨v, List.getElem?_set_self (Nat.lt_of_lt_of_le hl h.len), r⟩
  · rw [List.getElem?_set_ne hj] at q
    rw [List.getElem?_set_ne hj]
    exact h.get j e (fun w => n ⟨w, fun z => hj z.symm⟩) q
theorem LTs.bind_len : ∀ {ts : LTs} {ds : List D} {ρ ρ1 : Env}, LTs.bind ts ds ρ = some ρ1 → ds.length = ts.len
  | .nil, [], _, _, _ => rfl
  | .cons t ts, d :: ds, ρ, ρ1, h => by
    unfold LTs.bind at h
    cases e : LT.bind t d ρ with
    | none => rw [e] at h; cases h
    | some ρ2 =>
      rw [e] at h
      rw [List.length_cons, LTs.len, LTs.bind_len h]
  | .nil, _ :: _, _, _, h => by simp [LTs.bind] at h
  | .cons _ _, [], _, _, h => by simp [LTs.bind] at h
section
variable {K : PySem.W.Frag} {H : Hp}
mutual
theorem gLT_of : ∀ {t : LT} {d : D} {v : V} {σ : L2.St} {ρ ρ1 : Env} {W : Nat → Prop} {Q : L2.St → Hp → Prop}, RelX K H σ ρ W → RelD K H d v → LT.bind t d ρ = some ρ1 →
    (∀ σ', σ'.length = σ.length → (∀ i, i ∉ t.vs → σ'[i]? = σ[i]?) → RelX K H σ' ρ1 (fun i => W i ∧ i ∉ t.vs) → Q σ' H) → gLT K t v σ H Q
  | .name i, d, v, σ, ρ, ρ1, W, Q, h, r, e, q => by
    simp only [LT.bind, putR, Option.some.injEq] at e
    subst e
    refine q _ (by rw [List.length_set]) (fun j hj => ?_) ((h.set i r).imp fun j w => ⟨w.1, by simp only [LT.vs, List.mem_singleton]; exact w.2⟩)
    have : i ≠ j := fun z => hj (by rw [z]; simp [LT.vs])
    rw [List.getElem?_set_ne this]
  | .tup ts, d, v, σ, ρ, ρ1, W, Q, h, r, e, q => by
    cases d with
    | tup ds =>
      obtain ⟨a, xs, rfl, t, z, rd⟩ := r
      have e : LTs.bind ts ds ρ = some ρ1 := by simpa [LT.bind] using e
      refine ⟨a, xs, rfl, t.sqt, by rw [rd.length]; exact LTs.bind_len e, ?_⟩
      exact gLTs_of h rd e fun σ' l1 l2 r' => q σ' l1 (fun i hi => l2 i (by simpa [LT.vs] using hi)) (r'.imp fun i w => ⟨w.1, by simpa [LT.vs] using w.2⟩)
    | _ => simp [LT.bind] at e
theorem gLTs_of : ∀ {ts : LTs} {ds : List D} {vs : List V} {σ : L2.St} {ρ ρ1 : Env} {W : Nat → Prop} {Q : L2.St → Hp → Prop}, RelX K H σ ρ W → RelDs K H ds vs → LTs.bind ts ds ρ = some ρ1 →
    (∀ σ', σ'.length = σ.length → (∀ i, i ∉ ts.vs → σ'[i]? = σ[i]?) → RelX K H σ' ρ1 (fun i => W i ∧ i ∉ ts.vs) → Q σ' H) → gLTs K ts vs σ H Q
  | .nil, [], vs, σ, ρ, ρ1, W, Q, h, r, e, q => by
    simp only [LTs.bind, Option.some.injEq] at e
    subst e
    exact ⟨r, q σ rfl (fun _ _ => rfl) (h.imp fun i w => ⟨w, by simp [LTs.vs]⟩)⟩
  | .cons t ts, d :: ds, vs, σ, ρ, ρ1, W, Q, h, r, e, q => by
    obtain ⟨y, ys, rfl, r1, r2⟩ := r
    unfold LTs.bind at e
    cases e1 : LT.bind t d ρ with
    | none => rw [e1] at e; cases e
    | some ρ2 =>
      rw [e1] at e
      refine ⟨y, ys, rfl, gLT_of h r1 e1 fun σ1 l1 k1 h1 => ?_⟩
      refine gLTs_of h1 r2 e fun σ2 l2 k2 h2 => ?_
      refine q σ2 (l2.trans l1) (fun i hi => ?_) (h2.imp fun i w => ⟨w.1.1, ?_⟩)
      · rw [LTs.vs, List.mem_append, not_or] at hi
        rw [k2 i hi.2, k1 i hi.1]
      · rw [LTs.vs, List.mem_append, not_or]
        exact ⟨w.1.2, w.2⟩
  | .nil, _ :: _, _, _, _, _, _, _, _, _, e, _ => by simp [LTs.bind] at e
  | .cons _ _, [], _, _, _, _, _, _, _, _, e, _ => by simp [LTs.bind] at e
end
end
theorem wipe_in {σ : L2.St} {i : Nat} : ∀ {vs : List Nat}, i ∈ vs → i < σ.length → (wipe σ vs)[i]? = some none
  | [], h, _ => by simp at h
  | v :: vs, h, hl => by
    unfold wipe
    by_cases e : v = i
    · subst e
      rw [List.getElem?_set_self (by rw [wipe_length]; exact hl)]
    · rw [List.getElem?_set_ne e]
      exact wipe_in (by rcases List.mem_cons.mp h with z | z; exact absurd z.symm e; exact z) hl
theorem wipe_eq {σ σ2 : L2.St} {vs : List Nat} (hl : σ2.length = σ.length) (h : ∀ i, i ∉ vs → σ2[i]? = σ[i]?) : wipe σ2 vs = wipe σ vs := by
  apply List.ext_getElem?
  intro i
  by_cases hi : i ∈ vs
  · by_cases h2 : i < σ.length
    · rw [wipe_in hi h2, wipe_in hi (hl ▸ h2)]
    · rw [List.getElem?_eq_none (by rw [wipe_length]; omega), List.getElem?_eq_none (by rw [wipe_length]; omega)]
  · rw [wipe_out hi, wipe_out hi, h i hi]
theorem RelEnv.wiped {K : PySem.W.Frag} {H : Hp} {σ : L2.St} {ρ : Env} (vs : List Nat) (h : RelEnv K H σ ρ) : RelX K H (wipe σ vs) ρ (fun i => i ∈ vs) :=
  ⟨by rw [wipe_length]; exact h.len, fun i d n e => by rw [wipe_out n]; exact h.get i d e⟩

section
variable {X : Cx}
theorem ptsI {ifs : List Expr} {t t' : TT} (h : PTs X ifs t) (i : ∀ σ H Q, t' σ H Q → t σ H Q) : PTs X ifs t' := ⟨fun pins s σ H Q I q => h.run pins s σ H Q I (i _ _ _ q)⟩
theorem pd_nilT : PTs X [] (LiftT X.K fun _ S K => K true S) := ptsI pts_nil fun σ H Q ⟨ρ, S, Kd, hρ, hs, ht, hp⟩ => hp _ _ _ ht (.refl H) .refl hs
theorem pd_lc {K : PySem.W.Frag} {t : LT} {tI : DI} {tt : DT} {te : DE} {vs : List Nat} {σ : L2.St} {H : Hp} {Q : VK} (h1 : ∀ i, i ∈ t.vs → i ∈ vs) (h2 : ∀ i, i ∈ vs → i ∈ t.vs)
    (h : LiftE K (fun ρ S Kd => tI ρ S fun ds st S1 => ∀ p, S1 p = none → compGo (LT.bind t) tt te ρ st p ds (sup S1 p (.lst [])) Kd) σ H Q) : tLc (LiftI K tI) (gLT K t) (LiftT K tt) (LiftE K te) vs σ H Q := by
  obtain ⟨ρ, S, Kd, hρ, hs, ht, hp⟩ := h
  refine ⟨ρ, S, _, hρ, hs, ht, fun ds st S1 J H1 h k1 e1 r1 wk D hD => ?_⟩
  have ρ1 := hρ.keep k1
  have hS := r1.free hD
  have h := h D hS
  let P : Nat → Hp → Prop := fun i H' => i ≤ ds.length ∧ ∃ S', Keep H1 H' ∧ Ext H1 S1 S' ∧ RS K H' S' ∧ compGo (LT.bind t) tt te ρ st D (ds.drop i) S' Kd
  refine ⟨fun i m H' => m = ds.length - i ∧ P i H', ⟨ds.length, by simp, Nat.zero_le _, sup S1 D (.lst []), .new hD, .new hD, r1.new hD (by simp) ⟨[], upd_same, rfl, Nat.zero_le _⟩, h⟩, ?_⟩
  rintro i m H2 ⟨rfl, hi, S2, k2, e2, r2, g⟩
  by_cases hlt : i < ds.length
  · rw [List.drop_eq_getElem_cons hlt] at g
    obtain ⟨hst, g⟩ := g
    have hd : ds[i]? = some ds[i] := List.getElem?_eq_getElem hlt
    refine .inr ⟨wk.go i H2 S2 ds[i] k2 r2 hst hd, fun H' => P (i + 1) H', fun H' p => ⟨_, by omega, rfl, p⟩, fun x H' y => ?_⟩
    obtain ⟨k3, r3, rx, _⟩ := wk.yld i H2 S2 ds[i] x H' k2 r2 hst hd y
    cases eb : LT.bind t ds[i] ρ with
    | none => rw [eb] at g; exact g.elim
    | some ρ2 =>
      rw [eb] at g
      refine gLT_of ((ρ1.keep (k2.trans k3)).wiped vs) rx eb fun σ2 l2 o2 rel => ⟨?_, ?_⟩
      · rw [wipe_eq (by rw [l2, wipe_length]) (fun j hj => (o2 j (fun z => hj (h1 j z))).trans (wipe_out hj))]
      · have rel : RelEnv K H' σ2 ρ2 := rel.none fun j w => w.2 (h2 j w.1)
        refine ⟨ρ2, S2, _, rel, r3, g, fun b S3 H3 g3 k4 e4 r4 => ?_⟩
        cases b with
        | false =>
          simp only [Bool.false_eq_true, if_false] at g3 ⊢
          exact ⟨hlt, S3, (k2.trans k3).trans k4, e2.trans (k2.trans k3) e4, r4, g3⟩
        | true =>
          simp only [if_true] at g3 ⊢
          refine ⟨ρ2, S3, _, rel.keep k4, r4, g3, fun d S4 v H4 g4 k5 e5 r5 rd => ?_⟩
          have K4 := ((k2.trans k3).trans k4).trans k5
          obtain ⟨acc, xs, eS, g4, hH, ra, hz⟩ := ref_lst r5 (P := fun acc => acc.length < sizeLine ∧ compGo (LT.bind t) tt te ρ st D (ds.drop (i + 1)) (sup S4 D (.lst (acc ++ [d]))) Kd) g4
          refine ⟨xs, hH, by rw [ra.length]; exact g4.1, hlt, sup S4 D (.lst (acc ++ [d])), K4.trans (.put hH trivial), ?_, ?_, g4.2⟩
          · exact ((e2.trans (k2.trans k3) e4).trans ((k2.trans k3).trans k4) e5).trans K4 (.put eS)
          · refine r5.put hH trivial eS (by simp) ⟨_, upd_same, (ra.snoc rd).keep (.put hH trivial), ?_⟩
            rw [List.length_append, ra.length]
            exact g4.1
  · have e : i = ds.length := by omega
    subst e
    rw [List.drop_length] at g
    exact .inl ⟨wk.stop _ H2 S2 k2 r2 g.1 (Nat.le_refl _), hp _ _ _ _ g.2 (k1.trans k2) (e1.trans k1 e2) r2 rfl⟩
theorem pd_comp {t : LT} {tI : DI} {tt : DT} {te : DE} {elt tg iter : Expr} {ifs : List Expr} {scope : Scope} {own : List (Str × Nat)} {pos : Pos} (hc : X.calm = true) (hN : X.N.Nodup) (hi : PDI X tg iter tI) (ok : BlkOk X.N X.env.scope scope own)
    (hg : ∀ (s : Shared) (H : Hp) (C : Addr) (cl : List (Str × Addr)) (fp : List Addr), PG (X.blk s H scope (compEnvC scope cl C X.env) fp) tg (gLT X.K t))
    (ht : ∀ (s : Shared) (H : Hp) (C : Addr) (cl : List (Str × Addr)) (fp : List Addr), PTs (X.blk s H scope (compEnvC scope cl C X.env) fp) ifs (LiftT X.K tt))
    (he : ∀ (s : Shared) (H : Hp) (C : Addr) (cl : List (Str × Addr)) (fp : List Addr), PE (X.blk s H scope (compEnvC scope cl C X.env) fp) elt (LiftE X.K te)) (hs : ∀ x, foldedSetIterable iter X.env x = pure x)
    (h1 : ∀ i, i ∈ t.vs → i ∈ own.map (·.2)) (h2 : ∀ i, i ∈ own.map (·.2) → i ∈ t.vs) :
    PDE X (.ListComp elt [⟨tg, iter, ifs, 0⟩] scope pos) (fun ρ S Kd => tI ρ S fun ds st S1 => ∀ p, S1 p = none → compGo (LT.bind t) tt te ρ st p ds (sup S1 p (.lst [])) Kd) :=
  peI (pe_lc hc hN hi ok hg ht he hs) fun _ _ _ => pd_lc h1 h2
end
end Lt

set_option Elab.async false
set_option linter.all false
set_option maxRecDepth 100000
set_option maxHeartbeats 4000000
namespace Lt
open PySem PySem.Spec PyProof.Rows L2

/-! ## statements -/
def sAsg (t : LT) (te : DE) : DS := fun Kd ρ S => te ρ S fun d S1 => match LT.bind t d ρ with
  | some ρ1 => Kd.nx ρ1 S1
  | none => False
def sPar (is : List Nat) (tA : DA) : DS := fun Kd ρ S => tA ρ S fun ds S1 => match pars is ds ρ with
  | some ρ1 => Kd.nx ρ1 S1
  | none => False
def sSub (to ti te : DE) : DS := fun Kd ρ S => te ρ S fun d S1 => to ρ S1 fun x S2 => ti ρ S2 fun y S3 => match x, y with
  | .ref a, .int k => (match S3 a with
    | some (.lst ds) => (match ixN ds.length k with
      | some j => Kd.nx ρ (sup S3 a (.lst (ds.set j d)))
      | none => False)
    | _ => False)
  | _, _ => False
section
variable {X : Cx} {pos : Pos}
theorem pds_of {tg e : Expr} {st : Stmt} {t : LT} {te : DE} (h : PS X st (tAsg (LiftE X.K te) (gLT X.K t))) : PDS X st (sAsg t te) :=
  psI h fun D σ H ⟨ρ, S, Kd, hρ, hs, ht, hp⟩ => ⟨ρ, S, _, hρ, hs, ht, fun d S1 v H1 h1 k1 e1 r1 rd => by
    cases eb : LT.bind t d ρ with
    | none => rw [eb] at h1; exact h1.elim
    | some ρ1 =>
      rw [eb] at h1
      exact gLT_of (hρ.keep k1).x rd eb fun σ' _ _ rel => hp.nx _ _ _ _ h1 k1 e1 r1 (rel.none fun i w => w.1)⟩
theorem ps_asgD {tg e : Expr} {t : LT} {te : DE} (he : PDE X e te) (hg : PG X tg (gLT X.K t)) (hs : swapsWithSole [tg] e pos.line X.env = pure false) (hw : swappedStores [tg] e X.env = pure none)
    (h1 : (assignEach [tg] X.env).map (·.2) = [assign tg X.env]) : PDS X (.Assign [tg] e pos) (sAsg t te) := pds_of (tg := tg) (e := e) (ps_asg he hg hs hw h1)
theorem ps_setD {i : Nat} {x : Str} {e : Expr} {te : DE} {pos' : Pos} (hN : X.N.Nodup) (hi : X.N[i]? = some x) (hx : Loc X.env.scope x) (he : PDE X e te) (hs : swapsWith e (some (.Name x pos')) pos.line X.env = pure false) (hf : X.fn x = true ∨ X.env.scope.names.lookup x = some .local) :
    PDS X (.Assign [.Name x pos'] e pos) (sAsg (.name i) te) := pds_of (tg := .Name x pos') (e := e) (ps_set hN hi hx he hs hf)
theorem ps_setLcD {i : Nat} {y : Str} {py : Pos} {elt tg iter : Expr} {ifs : List Expr} {scope : Scope} {own : List (Str × Nat)} {pos spos : Pos} {t : LT} {tI : DI} {tt : DT} {te : DE} (hc : X.calm = true) (hN : X.N.Nodup) (hy : X.N[i]? = some y) (hyl : X.env.scope.names.lookup y = some .local)
    (hsw : swapsWith (.ListComp elt [⟨tg, iter, ifs, 0⟩] scope pos) (some (.Name y py)) spos.line X.env = pure true) (hi : PDI X tg iter tI) (ok : BlkOk X.N X.env.scope scope own)
    (hg : ∀ (s : Shared) (H : Hp) (C : Addr) (cl : List (Str × Addr)) (fp : List Addr), PG (X.blk s H scope (compEnvC scope cl C X.env) fp) tg (gLT X.K t))
    (ht : ∀ (s : Shared) (H : Hp) (C : Addr) (cl : List (Str × Addr)) (fp : List Addr), PTs (X.blk s H scope (compEnvC scope cl C X.env) fp) ifs (LiftT X.K tt))
    (he : ∀ (s : Shared) (H : Hp) (C : Addr) (cl : List (Str × Addr)) (fp : List Addr), PE (X.blk s H scope (compEnvC scope cl C X.env) fp) elt (LiftE X.K te)) (hs : ∀ x, foldedSetIterable iter X.env x = pure x)
    (h1 : ∀ i, i ∈ t.vs → i ∈ own.map (·.2)) (h2 : ∀ i, i ∈ own.map (·.2) → i ∈ t.vs) :
    PDS X (.Assign [.Name y py] (.ListComp elt [⟨tg, iter, ifs, 0⟩] scope pos) spos) (sAsg (.name i) (fun ρ S Kd => tI ρ S fun ds st S1 => ∀ p, S1 p = none → compGo (LT.bind t) tt te ρ st p ds (sup S1 p (.lst [])) Kd)) :=
  psI (ps_setLc hc hN hy hyl hsw hi ok hg ht he hs) fun D σ H ⟨ρ, S, Kd, hρ, hs, ht, hp⟩ =>
    pd_lc (K := X.K) h1 h2 ⟨ρ, S, _, hρ, hs, ht, fun d S1 v H1 h1 k1 e1 r1 rd => hp.nx _ _ _ _ h1 k1 e1 r1 ((hρ.keep k1).set i rd)⟩
theorem ps_par2D {i j : Nat} {x y : Str} {a b : Expr} {tA : DA} {px py pt : Pos} {kt k2 pt2} (hc : X.calm = true) (hN : X.N.Nodup) (hi : X.N[i]? = some x) (hj : X.N[j]? = some y) (hij : i ≠ j)
    (hx : X.env.scope.names.lookup x = some .local) (hy : X.env.scope.names.lookup y = some .local) (ha : PDA X [a, b] tA)
    (hw : swappedStores [.Tuple [.Name x px, .Name y py] kt pt] (.Tuple [a, b] k2 pt2) X.env = pure (some [x, y]))
    (hs : swapsWithSole [.Tuple [.Name x px, .Name y py] kt pt] (.Tuple [a, b] k2 pt2) pos.line X.env = pure false) :
    PDS X (.Assign [.Tuple [.Name x px, .Name y py] kt pt] (.Tuple [a, b] k2 pt2) pos) (sPar [i, j] tA) :=
  psI (ps_par hc hN hi hj hij hx hy ha hw hs) fun D σ H ⟨ρ, S, Kd, hρ, hs, ht, hp⟩ => ⟨ρ, S, _, hρ, hs, ht, fun ds S1 vs H1 h1 k1 e1 r1 rd => by
    cases ds with
    | nil => exact (show False from h1).elim
    | cons d ds =>
      cases ds with
      | nil => exact (show False from h1).elim
      | cons e ds =>
        cases ds with
        | cons _ _ => exact (show False from h1).elim
        | nil =>
          obtain ⟨v, u, rfl, rv, ru⟩ := rd.two
          exact ⟨v, u, rfl, hp.nx _ _ _ _ h1 k1 e1 r1 (((hρ.keep k1).set i rv).set j ru)⟩⟩
theorem ps_par3D {i j l : Nat} {x y z : Str} {a b c : Expr} {tA : DA} {px py pz pt pos : Pos} {kt k2 pt2} (hc : X.calm = true) (hN : X.N.Nodup) (hi : X.N[i]? = some x) (hj : X.N[j]? = some y) (hl : X.N[l]? = some z) (hij : i ≠ j) (hil : i ≠ l) (hjl : j ≠ l)
    (hx : X.env.scope.names.lookup x = some .local) (hy : X.env.scope.names.lookup y = some .local) (hz : X.env.scope.names.lookup z = some .local) (ha : PDA X [a, b, c] tA)
    (hw : swappedStores [.Tuple [.Name x px, .Name y py, .Name z pz] kt pt] (.Tuple [a, b, c] k2 pt2) X.env = pure (some [x, y, z]))
    (hs : swapsWithSole [.Tuple [.Name x px, .Name y py, .Name z pz] kt pt] (.Tuple [a, b, c] k2 pt2) pos.line X.env = pure false) :
    PDS X (.Assign [.Tuple [.Name x px, .Name y py, .Name z pz] kt pt] (.Tuple [a, b, c] k2 pt2) pos) (sPar [i, j, l] tA) :=
  psI (ps_par3 hc hN hi hj hl hij hil hjl hx hy hz ha hw hs) fun D σ H ⟨ρ, S, Kd, hρ, hs, ht, hp⟩ => ⟨ρ, S, _, hρ, hs, ht, fun ds S1 vs H1 h1 k1 e1 r1 rd => by
    cases ds with
    | nil => exact (show False from h1).elim
    | cons d ds =>
      cases ds with
      | nil => exact (show False from h1).elim
      | cons e ds =>
        cases ds with
        | nil => exact (show False from h1).elim
        | cons f ds =>
          cases ds with
          | cons _ _ => exact (show False from h1).elim
          | nil =>
            obtain ⟨v, vs', rfl, rv, rd2⟩ := rd
            obtain ⟨u, w, rfl, ru, rw'⟩ := rd2.two
            exact ⟨v, u, w, rfl, hp.nx _ _ _ _ h1 k1 e1 r1 ((((hρ.keep k1).set i rv).set j ru).set l rw')⟩⟩
theorem ps_subD {o i e : Expr} {p : Pos} {to ti te : DE} (ho : PDE X o to) (hi : PDE X i ti) (he : PDE X e te) (hs : swapsWithSole [.Subscript o i p] e pos.line X.env = pure false) (hw : swappedStores [.Subscript o i p] e X.env = pure none)
    (h1 : (assignEach [.Subscript o i p] X.env).map (·.2) = [assign (.Subscript o i p) X.env])
    (ha : ∀ v, assign (.Subscript o i p) X.env v = (do
      let ov ← holding [v] (eval o X.env)
      let iv ← holding [v, ov] (eval i X.env)
      standAt p
      holding [v, ov, iv] (setItem ov iv v)
      release [v, ov, iv] [])) : PDS X (.Assign [.Subscript o i p] e pos) (sSub to ti te) :=
  psI (ps_asg he (pg_sub ho hi set_list ha) hs hw h1) fun D σ H ⟨ρ, S, Kd, hρ, hs, ht, hp⟩ => ⟨ρ, S, _, hρ, hs, ht, fun d S1 v H1 h1 k1 e1 r1 rd =>
    ⟨ρ, S1, _, hρ.keep k1, r1, h1, fun x S2 u H2 h2 k2 e2 r2 rx => ⟨ρ, S2, _, (hρ.keep k1).keep k2, r2, h2, fun y S3 w H3 h3 k3 e3 r3 ry => by
      cases x <;> first | exact (show False from h3).elim | skip
      cases y <;> first | exact (show False from h3).elim | skip
      rename_i a k
      cases (show w = _ from ry)
      have ru : u = .ref a := rx
      subst ru
      obtain ⟨ds, xs, eS, h4, hH, rdd, hz⟩ := ref_lst r3 (P := fun ds => match ixN ds.length k with
        | some j => Kd.nx ρ (sup S3 a (.lst (ds.set j d)))
        | none => False) h3
      cases ej : ixN ds.length k with
      | none => rw [ej] at h4; exact h4.elim
      | some j =>
        rw [ej] at h4
        have kk := k2.trans k3
        have k4 : Keep H3 (upd H3 a (.lst (xs.set j v))) := .put hH trivial
        refine ⟨a, xs, k, j, rfl, rfl, hH, by rw [rdd.length]; exact ej, ?_⟩
        refine hp.nx _ _ _ _ h4 ((k1.trans kk).trans k4) (((e1.trans k1 e2).trans (k1.trans k2) e3).trans (k1.trans kk) (.put eS)) ?_ (((hρ.keep k1).keep kk).keep k4)
        exact r3.put hH trivial eS (by simp) ⟨_, upd_same, (rdd.set j (rd.keep kk)).keep k4, by rw [List.length_set]; exact hz⟩⟩⟩⟩
theorem ps_exD {e : Expr} {te : DE} (he : PDE X e te) (hs : swapsWith e none pos.line X.env = pure false) : PDS X (.Expr e pos) (fun Kd ρ S => te ρ S fun _ S1 => Kd.nx ρ S1) :=
  psI (ps_expr he hs) fun D σ H ⟨ρ, S, Kd, hρ, hs, ht, hp⟩ => ⟨ρ, S, _, hρ, hs, ht, fun d S1 v H1 h1 k1 e1 r1 rd => hp.nx _ _ _ _ h1 k1 e1 r1 (hρ.keep k1)⟩
theorem ps_docD {x j p} : PDS X (.Expr (.Constant (.str x) j p) pos) (fun Kd ρ S => Kd.nx ρ S) :=
  psI ps_doc fun D σ H ⟨ρ, S, Kd, hρ, hs, ht, hp⟩ => hp.nx _ _ _ _ ht (.refl H) .refl hs hρ
theorem ps_retD {e : Expr} {te : DE} (he : PDE X e te) : PDS X (.Return (some e) pos) (fun Kd ρ S => te ρ S Kd.rt) :=
  psI (ps_ret he) fun D σ H ⟨ρ, S, Kd, hρ, hs, ht, hp⟩ => ⟨ρ, S, _, hρ, hs, ht, hp.rt⟩
theorem ps_retND : PDS X (.Return none pos) (fun Kd ρ S => Kd.rt .non S) :=
  psI ps_retN fun D σ H ⟨ρ, S, Kd, hρ, hs, ht, hp⟩ => hp.rt _ _ _ _ ht (.refl H) .refl hs rfl
theorem ps_passD : PDS X (.Pass pos) (fun Kd ρ S => Kd.nx ρ S) := psI ps_pass fun D σ H ⟨ρ, S, Kd, hρ, hs, ht, hp⟩ => hp.nx _ _ _ _ ht (.refl H) .refl hs hρ
theorem ps_brkD : PDS X (.Break pos) (fun Kd ρ S => Kd.bk ρ S) := psI ps_break fun D σ H ⟨ρ, S, Kd, hρ, hs, ht, hp⟩ => hp.bk _ _ _ _ ht (.refl H) .refl hs hρ
theorem ps_contD : PDS X (.Continue pos) (fun Kd ρ S => Kd.ct ρ S) := psI ps_continue fun D σ H ⟨ρ, S, Kd, hρ, hs, ht, hp⟩ => hp.ct _ _ _ _ ht (.refl H) .refl hs hρ
theorem ps_neverD {st : Stmt} : PDS X st (fun _ _ _ => False) := psI ps_never fun D σ H ⟨ρ, S, Kd, hρ, hs, ht, hp⟩ => ht.elim
theorem ps_ifD {c : Expr} {a b : List Stmt} {tc : DT} {t u : DS} (hc : PDT X c tc) (ha : PDSs X a t) (hb : PDSs X b u) : PDS X (.If c a b pos) (fun Kd ρ S => tc ρ S fun k S1 => if k = true then t Kd ρ S1 else u Kd ρ S1) :=
  psI (ps_if hc ha hb) fun D σ H ⟨ρ, S, Kd, hρ, hs, ht, hp⟩ => ⟨ρ, S, _, hρ, hs, ht, fun b S1 H1 h1 k1 e1 r1 => by
    cases b with
    | true => exact ⟨ρ, S1, Kd, hρ.keep k1, r1, h1, hp.go k1 e1⟩
    | false => exact ⟨ρ, S1, Kd, hρ.keep k1, r1, h1, hp.go k1 e1⟩⟩
theorem pss_nilD : PDSs X [] (fun Kd ρ S => Kd.nx ρ S) := pssI pss_nil fun D σ H ⟨ρ, S, Kd, hρ, hs, ht, hp⟩ => hp.nx _ _ _ _ ht (.refl H) .refl hs hρ
theorem pss_consD {st : Stmt} {rest : List Stmt} {t u : DS} (h1 : PDS X st t) (h2 : PDSs X rest u) : PDSs X (st :: rest) (fun Kd ρ S => t { Kd with nx := u Kd } ρ S) :=
  pssI (pss_cons h1 h2) fun D σ H ⟨ρ, S, Kd, hρ, hs, ht, hp⟩ => ⟨ρ, S, _, hρ, hs, ht, ⟨fun ρ1 S1 σ1 H1 g1 k1 e1 r1 rel => ⟨ρ1, S1, Kd, rel, r1, g1, hp.go k1 e1⟩, hp.rt, hp.bk, hp.ct⟩⟩
theorem ps_forD {tg iter : Expr} {body : List Stmt} {t : LT} {tI : DI} {tb : DS} (hp : PassesOwn (model X.prog X.w) X.A X.env X.xe) (hc : X.calm = true) (hi : PDI X tg iter tI) (hg : PG X tg (gLT X.K t)) (hb : PDSs X body tb)
    (hs : ∀ x, foldedSetIterable iter X.env x = pure x) : PDS X (.For tg iter body [] pos) (fun Kd ρ S => tI ρ S fun ds st S1 => forGo (LT.bind t) tb st ds Kd ρ S1) := by
  refine psI (ps_for hp hc hi hg hb hs) fun D σ H ⟨ρ, S, Kd, hρ, hs, ht, hp⟩ => ⟨ρ, S, _, hρ, hs, ht, fun ds st S1 J H1 h k1 e1 r1 wk => ?_⟩
  let P : Nat → L2.St → Hp → Prop := fun i σ' H' => i ≤ ds.length ∧ ∃ ρ' S', Keep H1 H' ∧ Ext H1 S1 S' ∧ RS X.K H' S' ∧ RelEnv X.K H' σ' ρ' ∧ forGo (LT.bind t) tb st (ds.drop i) Kd ρ' S'
  refine ⟨fun i m σ' H' => m = ds.length - i ∧ P i σ' H', ⟨ds.length, by simp, Nat.zero_le _, ρ, S1, .refl _, .refl, r1, hρ.keep k1, h⟩, ?_⟩
  rintro i m σ2 H2 ⟨rfl, hi, ρ2, S2, k2, e2, r2, rel2, g⟩
  by_cases hlt : i < ds.length
  · rw [List.drop_eq_getElem_cons hlt] at g
    obtain ⟨hst, g⟩ := g
    have hd : ds[i]? = some ds[i] := List.getElem?_eq_getElem hlt
    refine .inr ⟨wk.go i H2 S2 ds[i] k2 r2 hst hd, fun σ' H' => P (i + 1) σ' H', fun σ' H' p => ⟨_, by omega, rfl, p⟩, fun x H' y => ?_⟩
    obtain ⟨k3, r3, rx, _⟩ := wk.yld i H2 S2 ds[i] x H' k2 r2 hst hd y
    cases eb : LT.bind t ds[i] ρ2 with
    | none => rw [eb] at g; exact g.elim
    | some ρ3 =>
      rw [eb] at g
      refine gLT_of (rel2.keep k3).x rx eb fun σ3 l2 o2 rel => ?_
      have K3 := k2.trans k3
      have again : ∀ (Q : L2.St → Hp → Prop), (∀ σ' H', P (i + 1) σ' H' → Q σ' H') → PostN X.K H' S2 (forGo (LT.bind t) tb st (ds.drop (i + 1)) Kd) Q := fun Q hQ ρ4 S4 σ4 H4 g4 k4 e4 r4 rel4 =>
        hQ _ _ ⟨hlt, ρ4, S4, K3.trans k4, e2.trans K3 e4, r4, rel4, g4⟩
      exact ⟨ρ3, S2, _, rel.none fun i w => w.1, r3, g, ⟨again _ fun _ _ p => p, hp.rt.go (k1.trans K3) (e1.trans k1 e2), hp.nx.go (k1.trans K3) (e1.trans k1 e2), again _ fun _ _ p => p⟩⟩
  · have e : i = ds.length := by omega
    subst e
    rw [List.drop_length] at g
    exact .inl ⟨wk.stop _ H2 S2 k2 r2 g.1 (Nat.le_refl _), hp.nx _ _ _ _ g.2 (k1.trans k2) (e1.trans k1 e2) r2 rel2⟩
theorem ps_whileD {c : Expr} {body : List Stmt} {tc : DT} {tb : DS} (hp : PassesOwn (model X.prog X.w) X.A X.env X.xe) (hc : PDT X c tc) (hb : PDSs X body tb) : PDS X (.While c body [] pos) (fun Kd ρ S => ∃ n, whlGo tc tb n Kd ρ S) := by
  refine psI (ps_while hp hc hb) fun D σ H ⟨ρ, S, Kd, hρ, hs, ⟨n, ht⟩, hp⟩ => ?_
  refine ⟨fun m σ' H' => ∃ ρ' S', Keep H H' ∧ Ext H S S' ∧ RS X.K H' S' ∧ RelEnv X.K H' σ' ρ' ∧ whlGo tc tb m Kd ρ' S', ⟨n, ρ, S, .refl _, .refl, hs, hρ, ht⟩, ?_⟩
  rintro m σ2 H2 ⟨ρ2, S2, k2, e2, r2, rel2, g⟩
  cases m with
  | zero => exact (show False from g).elim
  | succ m =>
    refine ⟨ρ2, S2, _, rel2, r2, g, fun b S3 H3 g3 k3 e3 r3 => ?_⟩
    have K3 := k2.trans k3
    have E3 := e2.trans k2 e3
    cases b with
    | false =>
      simp only [Bool.false_eq_true, if_false] at g3 ⊢
      exact hp.nx _ _ _ _ g3 K3 E3 r3 (rel2.keep k3)
    | true =>
      simp only [if_true] at g3 ⊢
      refine ⟨fun σ' H' => ∃ ρ' S', Keep H H' ∧ Ext H S S' ∧ RS X.K H' S' ∧ RelEnv X.K H' σ' ρ' ∧ whlGo tc tb m Kd ρ' S', fun σ' H' p => ⟨m, Nat.lt_succ_self m, p⟩, ρ2, S3, _, rel2.keep k3, r3, g3, ?_⟩
      have again : PostN X.K H3 S3 (whlGo tc tb m Kd) (fun σ' H' => ∃ ρ' S', Keep H H' ∧ Ext H S S' ∧ RS X.K H' S' ∧ RelEnv X.K H' σ' ρ' ∧ whlGo tc tb m Kd ρ' S') := fun ρ4 S4 σ4 H4 g4 k4 e4 r4 rel4 => ⟨ρ4, S4, K3.trans k4, E3.trans K3 e4, r4, rel4, g4⟩
      exact ⟨again, hp.rt.go K3 E3, hp.nx.go K3 E3, again⟩
end
end Lt

set_option Elab.async false
set_option linter.all false
set_option maxRecDepth 100000
set_option maxHeartbeats 4000000
namespace Lt
open PySem PySem.Spec PyProof.Rows L2

/-! ## parts of a tree -/
def unName : Expr → Option (Str × Pos)
  | .Name x p => some (x, p)
  | _ => none
theorem unName_eq {e : Expr} {x p} (h : unName e = some (x, p)) : e = .Name x p := by cases e <;> first | (cases h; rfl) | cases h
def unConst : Expr → Option (Const × Nat × Pos)
  | .Constant c j p => some (c, j, p)
  | _ => none
theorem unConst_eq {e : Expr} {c j p} (h : unConst e = some (c, j, p)) : e = .Constant c j p := by cases e <;> first | (cases h; rfl) | cases h
def unTup : Expr → Option (List Expr × Nat × Pos)
  | .Tuple es k p => some (es, k, p)
  | _ => none
theorem unTup_eq {e : Expr} {c j p} (h : unTup e = some (c, j, p)) : e = .Tuple c j p := by cases e <;> first | (cases h; rfl) | cases h
def unList : Expr → Option (List Expr × Pos)
  | .List es p => some (es, p)
  | _ => none
theorem unList_eq {e : Expr} {c p} (h : unList e = some (c, p)) : e = .List c p := by cases e <;> first | (cases h; rfl) | cases h
def unBin : Expr → Option (Expr × Operator × Expr × Pos)
  | .BinOp a o b p => some (a, o, b, p)
  | _ => none
theorem unBin_eq {e : Expr} {a o b p} (h : unBin e = some (a, o, b, p)) : e = .BinOp a o b p := by cases e <;> first | (cases h; rfl) | cases h
def unUn : Expr → Option (UnaryOp × Expr × Pos)
  | .UnaryOp o a p => some (o, a, p)
  | _ => none
theorem unUn_eq {e : Expr} {o a p} (h : unUn e = some (o, a, p)) : e = .UnaryOp o a p := by cases e <;> first | (cases h; rfl) | cases h
def unCmp : Expr → Option (Expr × List CmpOp × List Expr × Pos)
  | .Compare a o b p => some (a, o, b, p)
  | _ => none
theorem unCmp_eq {e : Expr} {a o b p} (h : unCmp e = some (a, o, b, p)) : e = .Compare a o b p := by cases e <;> first | (cases h; rfl) | cases h
def unBool : Expr → Option (BoolOp × List Expr × Pos)
  | .BoolOp o a p => some (o, a, p)
  | _ => none
theorem unBool_eq {e : Expr} {o a p} (h : unBool e = some (o, a, p)) : e = .BoolOp o a p := by cases e <;> first | (cases h; rfl) | cases h
def unIf : Expr → Option (Expr × Expr × Expr × Pos)
  | .IfExp c a b p => some (c, a, b, p)
  | _ => none
theorem unIf_eq {e : Expr} {c a b p} (h : unIf e = some (c, a, b, p)) : e = .IfExp c a b p := by cases e <;> first | (cases h; rfl) | cases h
def unSub : Expr → Option (Expr × Expr × Pos)
  | .Subscript a i p => some (a, i, p)
  | _ => none
theorem unSub_eq {e : Expr} {a i p} (h : unSub e = some (a, i, p)) : e = .Subscript a i p := by cases e <;> first | (cases h; rfl) | cases h
def unSl : Expr → Option (Option Expr × Option Expr × Option Expr × Pos)
  | .Slice l u s p => some (l, u, s, p)
  | _ => none
theorem unSl_eq {e : Expr} {l u s p} (h : unSl e = some (l, u, s, p)) : e = .Slice l u s p := by cases e <;> first | (cases h; rfl) | cases h
def unCall : Expr → Option (Expr × List Expr × List Keyword × Pos)
  | .Call f a k p => some (f, a, k, p)
  | _ => none
theorem unCall_eq {e : Expr} {f a k p} (h : unCall e = some (f, a, k, p)) : e = .Call f a k p := by cases e <;> first | (cases h; rfl) | cases h
def unAttr : Expr → Option (Expr × Str × Pos)
  | .Attribute o a p => some (o, a, p)
  | _ => none
theorem unAttr_eq {e : Expr} {o a p} (h : unAttr e = some (o, a, p)) : e = .Attribute o a p := by cases e <;> first | (cases h; rfl) | cases h
def unComp : Expr → Option (Expr × List Comprehension × Scope × Pos)
  | .ListComp e g s p => some (e, g, s, p)
  | _ => none
theorem unComp_eq {e : Expr} {x g s p} (h : unComp e = some (x, g, s, p)) : e = .ListComp x g s p := by cases e <;> first | (cases h; rfl) | cases h

/-! ## side conditions -/
def noStar : Expr → Bool
  | .Starred _ _ => false
  | _ => true
theorem star_cons {e : Expr} {es : List Expr} {env : PySem.Env} (h : noStar e = true) : starEach (e :: es) env = (false, eval e env) :: starEach es env := by
  cases e <;> first | rfl | cases h
theorem star_nil {env : PySem.Env} : starEach [] env = [] := rfl
theorem back_any {pos : Pos} {env : PySem.Env} : ∀ {es : List Expr}, es.all noStar = true → (backTo pos (starEach es env)).any (·.1) = false
  | [], _ => rfl
  | e :: es, h => by
    rw [List.all_cons, Bool.and_eq_true] at h
    rw [star_cons h.1]
    show (false || (backTo pos (starEach es env)).any (·.1)) = false
    rw [back_any h.2] <;> rfl
theorem back_all {pos : Pos} {env : PySem.Env} : ∀ {es : List Expr}, es.all noStar = true → (backTo pos (starEach es env)).all (fun x => !x.1) = true
  | [], _ => rfl
  | e :: es, h => by
    rw [List.all_cons, Bool.and_eq_true] at h
    rw [star_cons h.1]
    show (!false && (backTo pos (starEach es env)).all (fun x => !x.1)) = true
    rw [back_all h.2] <;> rfl
def kwNames : List Keyword → List (Option Str)
  | [] => []
  | ⟨n, _, _⟩ :: r => n :: kwNames r
def kwVals : List Keyword → List Expr
  | [] => []
  | ⟨_, v, _⟩ :: r => v :: kwVals r
theorem kw_back {pos : Pos} {env : PySem.Env} : ∀ {ks : List Keyword} {ns : List Str}, kwNames ks = ns.map some → (backToKw pos (keywordEach ks env)).all (·.1.isSome) = true ∧ (backToKw pos (keywordEach ks env)).filterMap (·.1) = ns ∧ (backToKw pos (keywordEach ks env)).any (·.1.isNone) = false
  | [], [], _ => ⟨rfl, rfl, rfl⟩
  | [], _ :: _, h => by cases h
  | ⟨n, v, p⟩ :: r, [], h => by cases h
  | ⟨n, v, p⟩ :: r, m :: ns, h => by
    have h : n :: kwNames r = some m :: ns.map some := h
    injection h with h1 h2
    subst h1
    obtain ⟨q1, q2, q3⟩ := kw_back (pos := pos) (env := env) h2
    refine ⟨?_, ?_, ?_⟩
    · show ((some m).isSome && (backToKw pos (keywordEach r env)).all (·.1.isSome)) = true
      rw [q1] <;> rfl
    · show m :: (backToKw pos (keywordEach r env)).filterMap (·.1) = m :: ns
      rw [q2]
    · show ((some m).isNone || (backToKw pos (keywordEach r env)).any (·.1.isNone)) = false
      rw [q3] <;> rfl
theorem asg_cons {e : Expr} {es : List Expr} {env : PySem.Env} (h : noStar e = true) : assignEach (e :: es) env = (false, assign e env) :: assignEach es env := by
  cases e <;> first | rfl | cases h
theorem asg_len {env : PySem.Env} : ∀ {es : List Expr}, es.all noStar = true → (assignEach es env).length = es.length ∧ (assignEach es env).findIdx? (·.1) = none
  | [], _ => ⟨rfl, rfl⟩
  | e :: es, h => by
    rw [List.all_cons, Bool.and_eq_true] at h
    rw [asg_cons h.1]
    obtain ⟨q1, q2⟩ := asg_len (env := env) h.2
    refine ⟨by rw [List.length_cons, q1, List.length_cons], ?_⟩
    rw [List.findIdx?_cons, q2] <;> rfl
def attrB : Expr → Bool
  | .Call (.Name id _) [] [] _ => id != "super"
  | _ => true
theorem attr_base {o : Expr} {nm : Str} {env : PySem.Env} (h : attrB o = true) : attributeBase o nm env (eval o env) = eval o env := by
  cases o <;> first | rfl | skip
  rename_i f args kws p
  cases f <;> first | rfl | skip
  cases args <;> first | rfl | skip
  cases kws <;> first | rfl | skip
  rename_i id _
  have h : (id != "super") = true := h
  show (if (id != "super" || _ || _ || _) = true then (do return ← eval _ env) else _) = _
  rw [h, Bool.true_or, Bool.true_or, Bool.true_or, if_pos rfl]
def noSlice : Expr → Bool
  | .Slice .. => false
  | _ => true
theorem plain_ix {b : Expr} (h : noSlice b = true) : PlainIx b := by
  intro o i
  cases b <;> first | rfl | cases h
def noSet : Expr → Bool
  | .Set .. => false
  | _ => true
theorem folded_ok {e : Expr} {env : PySem.Env} (h : noSet e = true) (x : Value) : foldedSetIterable e env x = pure x := by
  cases e <;> first | rfl | cases h
def plainT : Expr → Bool
  | .Name .. => true
  | .Call .. => true
  | .Attribute .. => true
  | .Subscript .. => true
  | .Constant .. => true
  | _ => false
theorem plain_test {e : Expr} {env : PySem.Env} (h : plainT e = true) (whole : Sem Value) : isTrue e env whole = (do let v ← whole; standAt e.pos; holding [v] (truthy v)) := by
  cases e <;> first | rfl | cases h

/-! ## stores -/
def bkS (sc : Scope) : ScopeKind := if sc.kind.isAnnotationScope then .function else sc.kind
def swN (sc : Scope) (v : Expr) (t : Str) (pos : Pos) : Bool := match v with
  | .ListComp _ _ s p => bkS sc == .function && sc.names.lookup t == some .local && pos.line == p.line && !(s.names.any fun (n, k) => n == t && (k == .local || k == .cell))
  | .SetComp _ _ s p => bkS sc == .function && sc.names.lookup t == some .local && pos.line == p.line && !(s.names.any fun (n, k) => n == t && (k == .local || k == .cell))
  | .DictComp _ _ _ s p => bkS sc == .function && sc.names.lookup t == some .local && pos.line == p.line && !(s.names.any fun (n, k) => n == t && (k == .local || k == .cell))
  | _ => false
theorem sw_nm {v : Expr} {t : Str} {pos : Pos} {l : Nat} {env : PySem.Env} : swapsWith v (some (.Name t pos)) l env = pure (swN env.scope v t pos) := by
  cases v <;> rfl
def noCmp : Expr → Bool
  | .ListComp .. => false
  | .SetComp .. => false
  | .DictComp .. => false
  | _ => true
theorem sw_no {v : Expr} {t : Option Expr} {l : Nat} {env : PySem.Env} (h : noCmp v = true) : swapsWith v t l env = pure false := by
  cases v <;> first | rfl | cases h
theorem sw_tup {v : Expr} {es : List Expr} {k : Nat} {p pos : Pos} {env : PySem.Env} : swapsWithSole [.Tuple es k p] v pos.line env = pure false := by
  cases v <;> rfl
theorem sw_sub {v o i : Expr} {p pos : Pos} {env : PySem.Env} : swapsWithSole [.Subscript o i p] v pos.line env = pure false := by
  cases v <;> rfl
theorem ss_sub {v o i : Expr} {p : Pos} {env : PySem.Env} : swappedStores [.Subscript o i p] v env = pure none := by
  cases v <;> rfl
def noTupE : Expr → Bool
  | .Tuple .. => false
  | _ => true
theorem ss_no {v : Expr} {es : List Expr} {k : Nat} {p : Pos} {env : PySem.Env} (h : noTupE v = true) : swappedStores [.Tuple es k p] v env = pure none := by
  cases v <;> first | rfl | cases h
/-- what is swapped (none: not told) -/
def swT (sc : Scope) (ts vs : List Expr) : Option (Option (List Str)) :=
  if (!(ts.length == 2 || ts.length == 3) || vs.length != ts.length || bkS sc != .function) = true then some none
  else if (vs.any fun | .Starred .. => true | _ => false) = true then some none
  else
    let line := (ts.head?.map (·.pos.line)).getD 0
    let names := ts.filterMap fun
      | .Name id pos => if sc.names.lookup id == some .local && pos.line == line then some id else none
      | _ => none
    if (names.length != ts.length || names.eraseDups.length != names.length) = true then some none
    else if vs.all (foldedForSure 8) = true then some none
    else if vs.all (constantsAlone 8) = true then none
    else some (some names)
theorem ss_tup {ts vs : List Expr} {k k' : Nat} {p p' : Pos} {env : PySem.Env} {r : Option (List Str)} (h : swT env.scope ts vs = some r) : swappedStores [.Tuple ts k p] (.Tuple vs k' p') env = pure r := by
  unfold swT at h
  unfold swappedStores
  simp only []
  split at h
  · rename_i c
    cases h
    exact if_pos c
  · rename_i c
    refine (if_neg c).trans ?_
    split at h
    · rename_i c2
      cases h
      exact if_pos c2
    · rename_i c2
      refine (if_neg c2).trans ?_
      simp only [] at h
      split at h
      · rename_i c3
        cases h
        exact if_pos c3
      · rename_i c3
        refine (if_neg c3).trans ?_
        split at h
        · rename_i c4
          cases h
          exact if_pos c4
        · rename_i c4
          refine (if_neg c4).trans ?_
          split at h
          · cases h
          · rename_i c5
            cases h
            exact if_neg c5
end Lt

set_option Elab.async false
set_option linter.all false
set_option maxRecDepth 100000
set_option maxHeartbeats 4000000
namespace Lt
open PySem PySem.Spec PyProof.Rows L2
def onName (e : Expr) (f : Str → Pos → Bool) : Bool := match e with
  | .Name x p => f x p
  | _ => false
theorem onName_eq {e : Expr} {f : Str → Pos → Bool} (h : onName e f = true) : ∃ x p, e = .Name x p ∧ f x p = true := by
  cases e <;> first | exact ⟨_, _, rfl, h⟩ | cases h
def onConstant (e : Expr) (f : Const → Nat → Pos → Bool) : Bool := match e with
  | .Constant c j p => f c j p
  | _ => false
theorem onConstant_eq {e : Expr} {f : Const → Nat → Pos → Bool} (h : onConstant e f = true) : ∃ c j p, e = .Constant c j p ∧ f c j p = true := by
  cases e <;> first | exact ⟨_, _, _, rfl, h⟩ | cases h
def onTuple (e : Expr) (f : List Expr → Nat → Pos → Bool) : Bool := match e with
  | .Tuple es j p => f es j p
  | _ => false
theorem onTuple_eq {e : Expr} {f : List Expr → Nat → Pos → Bool} (h : onTuple e f = true) : ∃ es j p, e = .Tuple es j p ∧ f es j p = true := by
  cases e <;> first | exact ⟨_, _, _, rfl, h⟩ | cases h
def onList (e : Expr) (f : List Expr → Pos → Bool) : Bool := match e with
  | .List es p => f es p
  | _ => false
theorem onList_eq {e : Expr} {f : List Expr → Pos → Bool} (h : onList e f = true) : ∃ es p, e = .List es p ∧ f es p = true := by
  cases e <;> first | exact ⟨_, _, rfl, h⟩ | cases h
def onBinOp (e : Expr) (f : Expr → Operator → Expr → Pos → Bool) : Bool := match e with
  | .BinOp a o b p => f a o b p
  | _ => false
theorem onBinOp_eq {e : Expr} {f : Expr → Operator → Expr → Pos → Bool} (h : onBinOp e f = true) : ∃ a o b p, e = .BinOp a o b p ∧ f a o b p = true := by
  cases e <;> first | exact ⟨_, _, _, _, rfl, h⟩ | cases h
def onUnaryOp (e : Expr) (f : UnaryOp → Expr → Pos → Bool) : Bool := match e with
  | .UnaryOp o a p => f o a p
  | _ => false
theorem onUnaryOp_eq {e : Expr} {f : UnaryOp → Expr → Pos → Bool} (h : onUnaryOp e f = true) : ∃ o a p, e = .UnaryOp o a p ∧ f o a p = true := by
  cases e <;> first | exact ⟨_, _, _, rfl, h⟩ | cases h
def onCompare (e : Expr) (f : Expr → List CmpOp → List Expr → Pos → Bool) : Bool := match e with
  | .Compare a o b p => f a o b p
  | _ => false
theorem onCompare_eq {e : Expr} {f : Expr → List CmpOp → List Expr → Pos → Bool} (h : onCompare e f = true) : ∃ a o b p, e = .Compare a o b p ∧ f a o b p = true := by
  cases e <;> first | exact ⟨_, _, _, _, rfl, h⟩ | cases h
def onBoolOp (e : Expr) (f : BoolOp → List Expr → Pos → Bool) : Bool := match e with
  | .BoolOp o vs p => f o vs p
  | _ => false
theorem onBoolOp_eq {e : Expr} {f : BoolOp → List Expr → Pos → Bool} (h : onBoolOp e f = true) : ∃ o vs p, e = .BoolOp o vs p ∧ f o vs p = true := by
  cases e <;> first | exact ⟨_, _, _, rfl, h⟩ | cases h
def onIfExp (e : Expr) (f : Expr → Expr → Expr → Pos → Bool) : Bool := match e with
  | .IfExp c a b p => f c a b p
  | _ => false
theorem onIfExp_eq {e : Expr} {f : Expr → Expr → Expr → Pos → Bool} (h : onIfExp e f = true) : ∃ c a b p, e = .IfExp c a b p ∧ f c a b p = true := by
  cases e <;> first | exact ⟨_, _, _, _, rfl, h⟩ | cases h
def onSubscript (e : Expr) (f : Expr → Expr → Pos → Bool) : Bool := match e with
  | .Subscript a i p => f a i p
  | _ => false
theorem onSubscript_eq {e : Expr} {f : Expr → Expr → Pos → Bool} (h : onSubscript e f = true) : ∃ a i p, e = .Subscript a i p ∧ f a i p = true := by
  cases e <;> first | exact ⟨_, _, _, rfl, h⟩ | cases h
def onSlice (e : Expr) (f : Option Expr → Option Expr → Option Expr → Pos → Bool) : Bool := match e with
  | .Slice l u s p => f l u s p
  | _ => false
theorem onSlice_eq {e : Expr} {f : Option Expr → Option Expr → Option Expr → Pos → Bool} (h : onSlice e f = true) : ∃ l u s p, e = .Slice l u s p ∧ f l u s p = true := by
  cases e <;> first | exact ⟨_, _, _, _, rfl, h⟩ | cases h
def onCall (e : Expr) (f : Expr → List Expr → List Keyword → Pos → Bool) : Bool := match e with
  | .Call g xs ks p => f g xs ks p
  | _ => false
theorem onCall_eq {e : Expr} {f : Expr → List Expr → List Keyword → Pos → Bool} (h : onCall e f = true) : ∃ g xs ks p, e = .Call g xs ks p ∧ f g xs ks p = true := by
  cases e <;> first | exact ⟨_, _, _, _, rfl, h⟩ | cases h
def onAttribute (e : Expr) (f : Expr → Str → Pos → Bool) : Bool := match e with
  | .Attribute a n p => f a n p
  | _ => false
theorem onAttribute_eq {e : Expr} {f : Expr → Str → Pos → Bool} (h : onAttribute e f = true) : ∃ a n p, e = .Attribute a n p ∧ f a n p = true := by
  cases e <;> first | exact ⟨_, _, _, rfl, h⟩ | cases h
def onListComp (e : Expr) (f : Expr → List Comprehension → Scope → Pos → Bool) : Bool := match e with
  | .ListComp x gs sc p => f x gs sc p
  | _ => false
theorem onListComp_eq {e : Expr} {f : Expr → List Comprehension → Scope → Pos → Bool} (h : onListComp e f = true) : ∃ x gs sc p, e = .ListComp x gs sc p ∧ f x gs sc p = true := by
  cases e <;> first | exact ⟨_, _, _, _, rfl, h⟩ | cases h
def onSAssign (e : Stmt) (f : List Expr → Expr → Pos → Bool) : Bool := match e with
  | .Assign t v p => f t v p
  | _ => false
theorem onSAssign_eq {e : Stmt} {f : List Expr → Expr → Pos → Bool} (h : onSAssign e f = true) : ∃ t v p, e = .Assign t v p ∧ f t v p = true := by
  cases e <;> first | exact ⟨_, _, _, rfl, h⟩ | cases h
def onSAugAssign (e : Stmt) (f : Expr → Operator → Expr → Pos → Bool) : Bool := match e with
  | .AugAssign t o v p => f t o v p
  | _ => false
theorem onSAugAssign_eq {e : Stmt} {f : Expr → Operator → Expr → Pos → Bool} (h : onSAugAssign e f = true) : ∃ t o v p, e = .AugAssign t o v p ∧ f t o v p = true := by
  cases e <;> first | exact ⟨_, _, _, _, rfl, h⟩ | cases h
def onSExpr (e : Stmt) (f : Expr → Pos → Bool) : Bool := match e with
  | .Expr v p => f v p
  | _ => false
theorem onSExpr_eq {e : Stmt} {f : Expr → Pos → Bool} (h : onSExpr e f = true) : ∃ v p, e = .Expr v p ∧ f v p = true := by
  cases e <;> first | exact ⟨_, _, rfl, h⟩ | cases h
def onSReturn (e : Stmt) (f : Option Expr → Pos → Bool) : Bool := match e with
  | .Return v p => f v p
  | _ => false
theorem onSReturn_eq {e : Stmt} {f : Option Expr → Pos → Bool} (h : onSReturn e f = true) : ∃ v p, e = .Return v p ∧ f v p = true := by
  cases e <;> first | exact ⟨_, _, rfl, h⟩ | cases h
def onSIf (e : Stmt) (f : Expr → List Stmt → List Stmt → Pos → Bool) : Bool := match e with
  | .If c a b p => f c a b p
  | _ => false
theorem onSIf_eq {e : Stmt} {f : Expr → List Stmt → List Stmt → Pos → Bool} (h : onSIf e f = true) : ∃ c a b p, e = .If c a b p ∧ f c a b p = true := by
  cases e <;> first | exact ⟨_, _, _, _, rfl, h⟩ | cases h
def onSFor (e : Stmt) (f : Expr → Expr → List Stmt → List Stmt → Pos → Bool) : Bool := match e with
  | .For t i b o p => f t i b o p
  | _ => false
theorem onSFor_eq {e : Stmt} {f : Expr → Expr → List Stmt → List Stmt → Pos → Bool} (h : onSFor e f = true) : ∃ t i b o p, e = .For t i b o p ∧ f t i b o p = true := by
  cases e <;> first | exact ⟨_, _, _, _, _, rfl, h⟩ | cases h
def onSWhile (e : Stmt) (f : Expr → List Stmt → List Stmt → Pos → Bool) : Bool := match e with
  | .While t b o p => f t b o p
  | _ => false
theorem onSWhile_eq {e : Stmt} {f : Expr → List Stmt → List Stmt → Pos → Bool} (h : onSWhile e f = true) : ∃ t b o p, e = .While t b o p ∧ f t b o p = true := by
  cases e <;> first | exact ⟨_, _, _, _, rfl, h⟩ | cases h
/-! ## tables -/
def bopE : BOp → Operator
  | .add => .Add | .sub => .Sub | .mul => .Mult | .fdiv => .FloorDiv | .mod => .Mod | .pow => .Pow | .shl => .LShift | .shr => .RShift | .band => .BitAnd | .bor => .BitOr | .bxor => .BitXor
def copE : COp → CmpOp
  | .eq => .Eq | .ne => .NotEq | .lt => .Lt | .le => .LtE | .gt => .Gt | .ge => .GtE | .is_ => .Is | .isnot => .IsNot | .in_ => .In | .notin => .NotIn
section
variable {X : Cx} {pos : Pos}
theorem od_all (b : BOp) : OpR X (binaryOp (bopE b)) (rD X.K (binD b)) := by
  cases b
  · exact od_add
  · exact od_sub
  · exact od_mul
  · exact od_fdiv
  · exact od_mod
  · exact od_pow
  · exact od_shl
  · exact od_shr
  · exact od_band
  · exact od_bor
  · exact od_bxor
theorem oc_all (hu : X.A.units + 64 < cLine) (c : COp) : OpR X (compareOp (copE c)) (rD X.K (cmpD c)) := by
  cases c
  · exact od_eq hu
  · exact od_ne hu
  · exact od_lt
  · exact od_le
  · exact od_gt
  · exact od_ge
  · exact od_is
  · exact od_isnot
  · exact od_in
  · exact od_notin
def bmN : BM → Str
  | .append => "append" | .pop => "pop" | .count => "count" | .join => "join" | .get => "get" | .items => "items" | .keys => "keys" | .values => "values"
theorem mt_all (m : BM) : MtAll X m (bmN m) := by
  intro T h
  cases m <;> cases T <;> first | cases h | skip
  · exact ⟨"list.append", PySem.F.plainAttrs_list, PySem.F.slot_list_append, PySem.F.type_list_append, md_append⟩
  · exact ⟨"list.pop", PySem.F.plainAttrs_list, PySem.F.slot_list_pop, PySem.F.type_list_pop, md_pop⟩
  · exact ⟨"tuple.count", PySem.F.plainAttrs_tuple, PySem.F.slot_tuple_count, PySem.F.type_tuple_count, md_count⟩
def bfN : BF → Str
  | .len => "len" | .tuple => "tuple" | .list => "list" | .int => "int" | .abs => "abs" | .max => "max" | .min => "min" | .sum => "sum" | .set => "set" | .sorted => "sorted"
def bfOk : BF → Bool
  | .set => false | .sorted => false | _ => true
theorem pd_bcall {bf : BF} {p : Pos} {a : Expr} {es : List Expr} {tA : DA} (hb : bfOk bf = true) (hc : X.calm = true) (hg : Gl X (bfN bf)) (hm : X.mg (bfN bf) = none) (ha : PDA X (a :: es) tA)
    (he : starEach (a :: es) X.env = (false, eval a X.env) :: starEach es X.env) (hpl : (backTo pos (starEach es X.env)).any (·.1) = false) : PDE X (.Call (.Name (bfN bf) p) (a :: es) [] pos) (fun ρ S K => tA ρ S fun ds S1 => bltD bf ds S1 K) := by
  cases bf
  · exact pd_callB cb_len hg hm PySem.boot_len ha (by decide) (by decide) he hpl
  · exact pd_callTy cb_tuple hg hm PyProof.Rows.boot_tuple ha (by decide) (by decide) he hpl
  · exact pd_callTy cb_list hg hm PyProof.Rows.boot_list ha (by decide) (by decide) he hpl
  · exact pd_callTy cb_int hg hm PyProof.Rows.boot_int ha (by decide) (by decide) he hpl
  · exact pd_callB cb_abs hg hm PyProof.Rows.boot_abs ha (by decide) (by decide) he hpl
  · exact pd_callB (cb_max hc) hg hm PyProof.Rows.boot_max ha (by decide) (by decide) he hpl
  · exact pd_callB (cb_min hc) hg hm PyProof.Rows.boot_min ha (by decide) (by decide) he hpl
  · exact pd_callB (cb_sum hc) hg hm PyProof.Rows.boot_sum ha (by decide) (by decide) he hpl
  · cases hb
  · cases hb
theorem pd_glo {x : Str} {d : D} {v : V} {u : Value} (hg : Gl X x) (hm : X.mg x = some u) (r : RelV v u) (hd : ∀ H, RelD X.K H d v) (hdb : (x == ("__debug__" : Str)) = false) : PDE X (.Name x pos) (fun _ S K => K d S) :=
  pd_c ⟨fun pins s σ H Q I h => ld_glob I hg hm ⟨v, H, I, r, h⟩ hdb⟩ hd
def tyN : TY → Str
  | .int => "int" | .bool => "bool" | .str => "str" | .tup => "tuple" | .lst => "list" | .dict => "dict"
  | .cls cn => cn
def isCls : TY → Bool
  | .cls _ => true
  | _ => false
theorem cls_b {t : TY} {p : Pos} (ht : isCls t = false) (hg : Gl X (tyN t)) (hm : X.mg (tyN t) = none) : ClsE X (.Name (tyN t) p) t := by
  cases t
  · exact ⟨fun pins s σ H Q I h => ld_blt I hg hm PyProof.Rows.boot_int ⟨(tyV' X.K .int).1, H, I, rfl, h⟩ (by decide) (by decide)⟩
  · exact ⟨fun pins s σ H Q I h => ld_blt I hg hm (u := .type "bool") (by decide +kernel) ⟨(tyV' X.K .bool).1, H, I, rfl, h⟩ (by decide) (by decide)⟩
  · exact ⟨fun pins s σ H Q I h => ld_blt I hg hm (u := .type "str") (by decide +kernel) ⟨(tyV' X.K .str).1, H, I, rfl, h⟩ (by decide) (by decide)⟩
  · exact ⟨fun pins s σ H Q I h => ld_blt I hg hm PyProof.Rows.boot_tuple ⟨(tyV' X.K .tup).1, H, I, rfl, h⟩ (by decide) (by decide)⟩
  · exact ⟨fun pins s σ H Q I h => ld_blt I hg hm PyProof.Rows.boot_list ⟨(tyV' X.K .lst).1, H, I, rfl, h⟩ (by decide) (by decide)⟩
  · exact ⟨fun pins s σ H Q I h => ld_blt I hg hm (u := .type "dict") (by decide +kernel) ⟨(tyV' X.K .dict).1, H, I, rfl, h⟩ (by decide) (by decide)⟩
  · cases ht
theorem cls_c {cn : Str} {p : Pos} (hg : Gl X cn) (hm : X.mg cn = some (.ref (He.ga X.K cn))) (hdb : (cn == ("__debug__" : Str)) = false) : ClsE X (.Name cn p) (.cls cn) :=
  ⟨fun pins s σ H Q I h => ld_glob I hg hm ⟨(tyV' X.K (.cls cn)).1, H, I, rfl, h⟩ hdb⟩
end
end Lt

set_option Elab.async false
set_option linter.all false
set_option maxRecDepth 100000
set_option maxHeartbeats 4000000
namespace Lt
open PySem PySem.Spec PyProof.Rows L2

/-! ## list(zip(a, b)) of two tuples: each pair is kept, so the zip's own tuple stays out -/
section
variable {prog : Program} {w : World} {A : Around} {E : Value → Shared → Prop} {s : Shared}
theorem held_item {z TI TO T i1 i2 l1 l2 : Addr} {f : Bool} {oT : Obj} {k1 k2 : Nat} {xs ys : Array Value} {x y : Value} {Q : Value → Shared → Prop} (D : ZipApart z TI TO i1 i2 l1 l2) (hz : IsZipHeld s.heap z TI TO T f) (hT : s.heap.get? T = some oT) (hTI : IsPair s.heap TI (.ref i1) (.ref i2))
    (h1 : s.heap.IsTupleIter i1 l1 k1) (h2 : s.heap.IsTupleIter i2 l2 k2) (hl1 : s.heap.IsTuple l1 xs) (hl2 : s.heap.IsTuple l2 ys) (hx : xs[k1]? = some x) (hy : ys[k2]? = some y)
    (hQ : ∀ h', IsZipHeld h' z TI TO T true → h'.IsTupleIter i1 l1 (k1 + 1) → h'.IsTupleIter i2 l2 (k2 + 1) → IsPair h' s.heap.objs.size x y → (∀ c o, c ≠ z → c ≠ i1 → c ≠ i2 → s.heap.get? c = some o → h'.get? c = some o) → Q (.ref s.heap.objs.size) { s with heap := h' }) :
    wpAny (model prog w) A (Builtin.«zip.__next__» ⟨[.ref z], []⟩) (fun fin s' => ∃ v, fin = .done (.ret v) ∧ Q v s') E s := by
  show wpAny _ _ (field (.ref z) 2 >>= _) _ _ _
  refine wpAny_bind (wpAny_field hz rfl (x := .bool false) rfl ?_)
  show wpAny _ _ (field (.ref z) 3 >>= _) _ _ _
  refine wpAny_bind (wpAny_field hz rfl (x := .ref TI) rfl ?_)
  refine wpAny_bind (wpAny_seqItems hTI rfl ?_)
  show wpAny _ _ (Builtin.SmallTypes.ownedTupleIsFree (.ref z) >>= _) _ _ _
  refine wpAny_bind (wpAny_tupleHeld_zip hz hT fun ha za ka => ?_)
  simp only [Bool.false_eq_true, if_false]
  refine wpAny_bind ?_
  rw [← Array.forIn_toList]
  simp only [List.forIn_cons, List.forIn_nil]
  refine wpAny_bind (wpAny_bind (wpAny_holding ?_))
  show wpAny _ _ (Builtin.SmallTypes.nextOf (.ref i1) >>= _) _ _ _
  refine wpAny_bind (RZ.nextOf_tuple_item (h1.extBut ka.extBut D.i1z) (hl1.extBut ka.extBut D.l1z) hx fun hb ib kb => wpAny_pure ?_)
  refine wpAny_pure ?_
  refine wpAny_bind (wpAny_bind (wpAny_holding ?_))
  show wpAny _ _ (Builtin.SmallTypes.nextOf (.ref i2) >>= _) _ _ _
  refine wpAny_bind (RZ.nextOf_tuple_item ((h2.extBut ka.extBut D.i2z).extBut kb.extBut D.i12.symm) ((hl2.extBut ka.extBut D.l2z).extBut kb.extBut D.l2i1) hy fun hc ic kc => wpAny_pure ?_)
  refine wpAny_pure (wpAny_pure ?_)
  show wpAny _ _ (newTuple [x, y] >>= _) _ _ _
  refine wpAny_bind (wpAny_newTuple ?_)
  have hsz : hc.objs.size = s.heap.objs.size := by rw [kc.1, kb.1, ka.1]
  have zc : IsZipHeld hc z TI TO T true := kc.extBut _ _ D.i2z.symm (kb.extBut _ _ D.i1z.symm za)
  have up : ∀ c o, c ≠ z → c ≠ i1 → c ≠ i2 → s.heap.get? c = some o → hc.get? c = some o := fun c o c1 c2 c3 e => kc.extBut _ _ c3 (kb.extBut _ _ c2 (ka.extBut _ _ c1 e))
  refine wpAny_pure ⟨_, rfl, ?_⟩
  show Q (.ref hc.objs.size) _
  have hp : IsPair (hc.push { cls := .type "tuple", data := .seq #[x, y] }) hc.objs.size x y := Heap.get?_push_size _ rfl
  rw [hsz] at hp ⊢
  exact hQ _ (Heap.get?_push_of_some _ zc) ((ib.extBut kc.extBut D.i12).at fun o e => Heap.get?_push_of_some _ e) (ic.at fun o e => Heap.get?_push_of_some _ e) hp fun c o c1 c2 c3 e => Heap.get?_push_of_some _ (up c o c1 c2 c3 e)
theorem held_end {z TI TO T i1 i2 l1 l2 : Addr} {f : Bool} {oT : Obj} {k1 k2 : Nat} {xs ys : Array Value} {Q : Fin → Shared → Prop} (hh : A.handled = none) (D : ZipApart z TI TO i1 i2 l1 l2) (hz : IsZipHeld s.heap z TI TO T f) (hT : s.heap.get? T = some oT) (hTI : IsPair s.heap TI (.ref i1) (.ref i2))
    (h1 : s.heap.IsTupleIter i1 l1 k1) (h2 : s.heap.IsTupleIter i2 l2 k2) (hl1 : s.heap.IsTuple l1 xs) (hl2 : s.heap.IsTuple l2 ys) (hend : xs[k1]? = none ∨ ys[k2]? = none)
    (hE : ∀ h' e, (∀ c o, c ≠ z → c ≠ i1 → c ≠ i2 → s.heap.get? c = some o → h'.get? c = some o) → (∃ o, h'.get? e = some o ∧ o.cls = .type "StopIteration") → E (.ref e) { s with heap := h' }) :
    wpAny (model prog w) A (Builtin.«zip.__next__» ⟨[.ref z], []⟩) Q E s := by
  show wpAny _ _ (field (.ref z) 2 >>= _) _ _ _
  refine wpAny_bind (wpAny_field hz rfl (x := .bool false) rfl ?_)
  show wpAny _ _ (field (.ref z) 3 >>= _) _ _ _
  refine wpAny_bind (wpAny_field hz rfl (x := .ref TI) rfl ?_)
  refine wpAny_bind (wpAny_seqItems hTI rfl ?_)
  show wpAny _ _ (Builtin.SmallTypes.ownedTupleIsFree (.ref z) >>= _) _ _ _
  refine wpAny_bind (wpAny_tupleHeld_zip hz hT fun ha za ka => ?_)
  simp only [Bool.false_eq_true, if_false]
  refine wpAny_bind ?_
  rw [← Array.forIn_toList]
  simp only [List.forIn_cons, List.forIn_nil]
  refine wpAny_bind (wpAny_bind (wpAny_holding ?_))
  show wpAny _ _ (Builtin.SmallTypes.nextOf (.ref i1) >>= _) _ _ _
  cases hx : xs[k1]? with
  | none =>
    refine wpAny_bind (RZ.nextOf_tuple_end hh (h1.extBut ka.extBut D.i1z) (hl1.extBut ka.extBut D.l1z) hx fun hb e kb he => ?_)
    exact hE hb e (fun c o c1 c2 _ q => kb _ _ c2 (ka.extBut _ _ c1 q)) he
  | some x =>
    have hy : ys[k2]? = none := by rcases hend with h | h; rw [hx] at h; cases h; exact h
    refine wpAny_bind (RZ.nextOf_tuple_item (h1.extBut ka.extBut D.i1z) (hl1.extBut ka.extBut D.l1z) hx fun hb ib kb => wpAny_pure ?_)
    refine wpAny_pure ?_
    refine wpAny_bind (wpAny_bind (wpAny_holding ?_))
    show wpAny _ _ (Builtin.SmallTypes.nextOf (.ref i2) >>= _) _ _ _
    refine wpAny_bind (RZ.nextOf_tuple_end hh ((h2.extBut ka.extBut D.i2z).extBut kb.extBut D.i12.symm) ((hl2.extBut ka.extBut D.l2z).extBut kb.extBut D.l2i1) hy fun hc e kc he => ?_)
    exact hE hc e (fun c o c1 c2 c3 q => kc _ _ c3 (kb.extBut _ _ c2 (ka.extBut _ _ c1 q))) he
/-- the zip and its parts as they stand at turn i -/
def ZSt (h : Heap) (z TI TO i1 i2 l1 l2 : Addr) (i : Nat) : Prop := IsPair h TI (.ref i1) (.ref i2) ∧ h.IsTupleIter i1 l1 i ∧ h.IsTupleIter i2 l2 i ∧
  ((IsZip h z TI TO .none ∧ ∃ x y, IsPair h TO x y) ∨ ∃ T f oT, IsZipHeld h z TI TO T f ∧ h.get? T = some oT ∧ T ≠ z ∧ T ≠ i1 ∧ T ≠ i2)
theorem zst_item {z TI TO i1 i2 l1 l2 : Addr} {i : Nat} {xs ys : Array Value} {x y : Value} {Q : Option Value → Shared → Prop} (D : ZipApart z TI TO i1 i2 l1 l2) (st : ZSt s.heap z TI TO i1 i2 l1 l2 i) (hl1 : s.heap.IsTuple l1 xs) (hl2 : s.heap.IsTuple l2 ys) (hx : xs[i]? = some x) (hy : ys[i]? = some y)
    (hQ : ∀ h', ZSt h' z TI TO i1 i2 l1 l2 (i + 1) → IsPair h' s.heap.objs.size x y → (∀ c o, c ≠ z → c ≠ TO → c ≠ i1 → c ≠ i2 → s.heap.get? c = some o → h'.get? c = some o) → Q (some (.ref s.heap.objs.size)) { s with heap := h' }) :
    wpAny (model prog w) A (pyNext (.ref z)) Q E s := by
  obtain ⟨hTI, h1, h2, hz⟩ := st
  have lt : ∀ {c o}, s.heap.get? c = some o → s.heap.objs.size ≠ c := fun e => Nat.ne_of_gt (Heap.lt_size e)
  have n1 : s.heap.objs.size ≠ i1 := let ⟨_, e, _⟩ := h1; lt e
  have n2 : s.heap.objs.size ≠ i2 := let ⟨_, e, _⟩ := h2; lt e
  rcases hz with ⟨hz, a, b, hTO⟩ | ⟨T, f, oT, hz, hT, r1, r2, r3⟩
  · exact RZ.pyNext_zipT_item D hz hTI hTO h1 h2 hl1 hl2 hx hy fun h' a1 a2 a3 a4 a5 a6 hk => hQ h' ⟨hk _ _ D.TIz D.TITO D.TIi1 D.TIi2 hTI, a3, a4, .inr ⟨s.heap.objs.size, false, _, a1, a5, lt hz, n1, n2⟩⟩ a5 hk
  · have hTy : s.TypeIs (.ref z) "zip" := ⟨_, hz, rfl⟩
    unfold pyNext
    exact wpAny_bind (wpAny_attempt (wpAny_callSpecial?_slot (name := Str.ofString "__next__") hTy F.slot_zip_next
      (wpAny_call_entry F.slot_zip_next hTy F.entry_zip_next
        (held_item D hz hT hTI h1 h2 hl1 hl2 hx hy fun h' a1 a3 a4 a5 hk => wpAny_pure (hQ h' ⟨hk _ _ D.TIz D.TIi1 D.TIi2 hTI, a3, a4, .inr ⟨T, true, oT, a1, hk _ _ r1 r2 r3 hT, r1, r2, r3⟩⟩ a5 fun c o c1 _ c3 c4 e => hk c o c1 c3 c4 e)) (F.args_zip_next_1 _))))
theorem zst_end {z TI TO i1 i2 l1 l2 : Addr} {i : Nat} {xs ys : Array Value} {Q : Option Value → Shared → Prop} (hh : A.handled = none) (D : ZipApart z TI TO i1 i2 l1 l2) (st : ZSt s.heap z TI TO i1 i2 l1 l2 i) (hl1 : s.heap.IsTuple l1 xs) (hl2 : s.heap.IsTuple l2 ys) (hend : xs[i]? = none ∨ ys[i]? = none)
    (hQ : ∀ h', (∀ c o, c ≠ z → c ≠ TO → c ≠ i1 → c ≠ i2 → s.heap.get? c = some o → h'.get? c = some o) → Q none { s with heap := h' }) :
    wpAny (model prog w) A (pyNext (.ref z)) Q E s := by
  obtain ⟨hTI, h1, h2, hz⟩ := st
  rcases hz with ⟨hz, a, b, hTO⟩ | ⟨T, f, oT, hz, hT, r1, r2, r3⟩
  · exact RZ.pyNext_zipT_end hh D hz hTI hTO h1 h2 hl1 hl2 hend hQ
  · have hTy : s.TypeIs (.ref z) "zip" := ⟨_, hz, rfl⟩
    unfold pyNext
    refine wpAny_bind (wpAny_attempt (wpAny_callSpecial?_slot (name := Str.ofString "__next__") hTy F.slot_zip_next
      (wpAny_call_entry F.slot_zip_next hTy F.entry_zip_next (held_end hh D hz hT hTI h1 h2 hl1 hl2 hend fun h' e hk he => ?_) (F.args_zip_next_1 _))))
    obtain ⟨o, ho, hc⟩ := he
    refine wpAny_bind (wpAny_isInstance (T := "StopIteration") (b := true) ⟨o, ho, hc⟩ isSubtype_stop ?_)
    exact wpAny_pure (hQ _ fun c o c1 _ c3 c4 e => hk c o c1 c3 c4 e)
end
end Lt

set_option Elab.async false
set_option linter.all false
set_option maxRecDepth 100000
set_option maxHeartbeats 4000000
namespace Lt
open PySem PySem.Spec PyProof.Rows L2

theorem ZSt.mono {h h' : Heap} {z TI TO i1 i2 l1 l2 S : Addr} {i : Nat} (st : ZSt h z TI TO i1 i2 l1 l2 i) (hk : ∀ c o, c ≠ S → h.get? c = some o → h'.get? c = some o) (hS : ∃ o, h'.get? S = some o) (n1 : S ≠ z) (n2 : S ≠ TI) (n3 : S ≠ TO) (n4 : S ≠ i1) (n5 : S ≠ i2) : ZSt h' z TI TO i1 i2 l1 l2 i := by
  obtain ⟨hTI, h1, h2, hz⟩ := st
  refine ⟨hk _ _ n2.symm hTI, h1.at fun o e => hk _ o n4.symm e, h2.at fun o e => hk _ o n5.symm e, ?_⟩
  rcases hz with ⟨hz, a, b, hTO⟩ | ⟨T, f, oT, hz, hT, r1, r2, r3⟩
  · exact .inl ⟨hk _ _ n1.symm hz, a, b, hk _ _ n3.symm hTO⟩
  · by_cases e : T = S
    · obtain ⟨o, ho⟩ := hS
      exact .inr ⟨T, f, o, hk _ _ n1.symm hz, by rw [e]; exact ho, r1, r2, r3⟩
    · exact .inr ⟨T, f, oT, hk _ _ n1.symm hz, hk _ _ e hT, r1, r2, r3⟩
theorem zipD_take : ∀ {xs ys : List D} {i : Nat} {x y : D}, xs[i]? = some x → ys[i]? = some y → zipD (xs.take (i + 1)) (ys.take (i + 1)) = zipD (xs.take i) (ys.take i) ++ [.tup [x, y]]
  | [], _, _, _, _, h, _ => by simp at h
  | _ :: _, [], _, _, _, _, h => by simp at h
  | a :: xs, b :: ys, 0, x, y, h1, h2 => by
    simp at h1 h2
    subst h1 h2
    simp [zipD]
  | a :: xs, b :: ys, i + 1, x, y, h1, h2 => by
    simp only [List.take_succ_cons, zipD, List.cons_append]
    rw [zipD_take (by simpa using h1) (by simpa using h2)]
theorem zipD_all : ∀ {xs ys : List D} {i : Nat}, xs.length ≤ i ∨ ys.length ≤ i → zipD (xs.take i) (ys.take i) = zipD xs ys
  | [], ys, i, _ => by simp [zipD]
  | a :: xs, [], i, _ => by
    cases i <;> simp [zipD]
  | a :: xs, b :: ys, 0, h => by simp at h
  | a :: xs, b :: ys, i + 1, h => by
    simp only [List.take_succ_cons, zipD]
    rw [zipD_all (by simpa using h)]
theorem zipD_len : ∀ {xs ys : List D}, (zipD xs ys).length = min xs.length ys.length
  | [], _ => by simp [zipD]
  | _ :: _, [] => by simp [zipD]
  | _ :: xs, _ :: ys => by
    rw [zipD, List.length_cons, zipD_len, List.length_cons, List.length_cons]
    omega
def Agree (H H' : Hp) : Prop := ∀ b, H b ≠ none → H' b = H b
theorem Agree.keep {H H' : Hp} (a : Agree H H') : Keep H H' :=
  ⟨fun b o xs h => by rw [a b (by rw [h]; simp)]; exact h, fun b o xs h => by rw [a b (by rw [h]; simp)]; exact h, fun b h => by rw [a b h]; exact h⟩
theorem RS.agree {K : PySem.W.Frag} {H H' : Hp} {S : Sto} (h : RS K H S) (a : Agree H H') : RS K H' S :=
  h.step a.keep (fun b _ q => a b q) fun b c e => .inl ⟨e, a b (h.dom e)⟩
section
variable {X : Cx} {pins : List (Addr × Obj)} {σ : L2.St}
structure ZJ (X : Cx) (pins : List (Addr × Obj)) (σ : L2.St) (z TI TO i1 i2 l1 l2 S : Addr) (dx dy : List D) (xs ys : List V) (H0 : Hp) (i : Nat) (H : Hp) (s : Shared) (acc : List V) : Prop where
  I : Inv X pins σ H s
  st : ZSt s.heap z TI TO i1 i2 l1 l2 i
  fp : ∀ c ∈ [z, TI, TO, i1, i2], FpOk X pins H c
  lt : ∀ c ∈ [z, TI, TO, i1, i2], c < s.heap.objs.size
  hS : H S = some (.lst acc)
  ag : Agree H0 H
  rd : RelDs X.K H (zipD (dx.take i) (dy.take i)) acc
theorem zip_loop {A : Around} {R : Result → Shared → Prop} {z TI TO i1 i2 l1 l2 S : Addr} {dx dy : List D} {xs ys : List V} {H0 : Hp} {res : Value} (hh : A.handled = none) (D : ZipApart z TI TO i1 i2 l1 l2) (hSf : S ∉ [z, TI, TO, i1, i2]) (t1 : TupS X.K H0 l1 xs) (t2 : TupS X.K H0 l2 ys) (r1 : RelDs X.K H0 dx xs) (r2 : RelDs X.K H0 dy ys) (z1 : xs.length ≤ sizeLine)
    (hn : H0 S = none) (hR : ∀ (H : Hp) (s' : Shared) (acc : List V), Inv X pins σ H s' → H S = some (.lst acc) → Agree H0 H → RelDs X.K H (zipD dx dy) acc → R (.ok (.ret res)) s') :
    ∀ (k i : Nat) (H : Hp) (s : Shared) (acc : List V), min xs.length ys.length - i = k → i ≤ min xs.length ys.length → ZJ X pins σ z TI TO i1 i2 l1 l2 S dx dy xs ys H0 i H s acc →
      codeAny (model X.prog X.w) A (.builtin "list.extend.loop" ⟨[.ref S, .ref z, res], []⟩) R s := by
  intro k
  induction k with
  | zero =>
    intro i H s acc hk hi J
    have T1 := J.ag.keep.sqt t1
    have T2 := J.ag.keep.sqt t2
    obtain ⟨its1, v1, p1, _⟩ := J.I.tuple T1.sqt
    obtain ⟨its2, v2, p2, _⟩ := J.I.tuple T2.sqt
    have e1 := v1.length
    have e2 := v2.length
    refine codeAny_builtin F.entry_extend_loop ?_
    rw [Around.under_plainId F.plain_extend_loop _]
    show wpAny _ A.in1 (pyNext (.ref z) >>= _) _ _ s
    refine wpAny_bind (zst_end hh D J.st (show s.heap.IsTuple l1 its1.toArray from p1) (show s.heap.IsTuple l2 its2.toArray from p2) ?_ fun h' hk' => ?_)
    · have : xs.length ≤ i ∨ ys.length ≤ i := by omega
      rcases this with q | q
      · exact .inl (by simp; omega)
      · exact .inr (by simp; omega)
    · refine wpAny_pure (hR H _ acc (J.I.turnedL (t' := s.toks) (ch := [z, TI, TO, i1, i2]) (fun c o hb q => hk' c o (fun e => hb (by simp [e])) (fun e => hb (by simp [e])) (fun e => hb (by simp [e])) (fun e => hb (by simp [e])) q) J.fp) J.hS J.ag ?_)
      rw [← zipD_all (xs := dx) (ys := dy) (i := i) (by rw [← r1.length, ← r2.length]; omega)]
      exact J.rd
  | succ k ih =>
    intro i H s acc hk hi J
    have T1 := J.ag.keep.sqt t1
    have T2 := J.ag.keep.sqt t2
    obtain ⟨its1, v1, p1, _⟩ := J.I.tuple T1.sqt
    obtain ⟨its2, v2, p2, _⟩ := J.I.tuple T2.sqt
    have hix : i < xs.length := by omega
    have hiy : i < ys.length := by omega
    obtain ⟨dX, gx, rx⟩ := r1.getV (List.getElem?_eq_getElem hix)
    obtain ⟨dY, gy, ry⟩ := r2.getV (List.getElem?_eq_getElem hiy)
    obtain ⟨u, hu, ru⟩ := v1.get (List.getElem?_eq_getElem hix)
    obtain ⟨u2, hu2, ru2⟩ := v2.get (List.getElem?_eq_getElem hiy)
    refine codeAny_builtin F.entry_extend_loop ?_
    rw [Around.under_plainId F.plain_extend_loop _]
    show wpAny _ A.in1 (pyNext (.ref z) >>= _) _ _ s
    refine wpAny_bind (zst_item D J.st (show s.heap.IsTuple l1 its1.toArray from p1) (show s.heap.IsTuple l2 its2.toArray from p2) (x := u) (y := u2) (by simpa using hu) (by simpa using hu2) fun h' st' hT hk' => ?_)
    have hTn : H s.heap.objs.size = none := J.I.hok.fresh (Nat.le_refl _)
    have new : ObjOk X.prog X.w (upd H s.heap.objs.size (.frz { cls := .type "tuple", data := .seq #[u, u2] } (.tup [xs[i], ys[i]]))) h' s.heap.objs.size (.frz { cls := .type "tuple", data := .seq #[u, u2] } (.tup [xs[i], ys[i]])) :=
      ⟨hT, by show 2 ≤ sizeLine; decide, [u, u2], .cons ru (.cons ru2 .nil), ⟨_, hT, rfl, _, rfl⟩⟩
    have I1 : Inv X pins σ (upd H s.heap.objs.size (.frz { cls := .type "tuple", data := .seq #[u, u2] } (.tup [xs[i], ys[i]]))) { s with heap := h' } :=
      J.I.turnedNew (t' := s.toks) (ch := [z, TI, TO, i1, i2]) (fun c o hb q => hk' c o (fun e => hb (by simp [e])) (fun e => hb (by simp [e])) (fun e => hb (by simp [e])) (fun e => hb (by simp [e])) q) J.fp (Nat.le_refl _) new
    have nS : S ≠ s.heap.objs.size := fun e => by
      have := J.hS
      rw [e, hTn] at this
      cases this
    have hS1 : (upd H s.heap.objs.size (.frz { cls := .type "tuple", data := .seq #[u, u2] } (.tup [xs[i], ys[i]]))) S = some (.lst acc) := by rw [upd_ne nS]; exact J.hS
    obtain ⟨its, n, ra, ho, hz⟩ := I1.lst hS1
    have ha : acc.length = i := by
      rw [J.rd.length, zipD_len, List.length_take, List.length_take, ← r1.length, ← r2.length]
      omega
    have hal := ra.length
    have hlt : acc.length < sizeLine := by omega
    show wpAny _ A.in1 (updateSeq S (·.push (.ref s.heap.objs.size)) >>= _) _ _ _
    refine wpAny_bind (wpAny_updateSeq ho rfl ?_ (by rw [List.size_toArray]; omega) (by rw [Array.size_push, List.size_toArray]; omega))
    have I2 := I1.lstUpd (f := Obj.mapSeq (·.push (Value.ref s.heap.objs.size))) (its' := its ++ [.ref s.heap.objs.size]) (n' := _) hS1 ho (by rw [← List.push_toArray]; rfl) (ra.append (.cons (show RelV (V.ref s.heap.objs.size) (Value.ref s.heap.objs.size) from rfl) .nil)) (by rw [List.length_append]; exact hlt) s.toks
    have k1 : Keep H (upd H s.heap.objs.size (.frz { cls := .type "tuple", data := .seq #[u, u2] } (.tup [xs[i], ys[i]]))) := .new hTn
    have k2 := Keep.put (o := .lst (acc ++ [V.ref s.heap.objs.size])) hS1 trivial
    simp only [List.mem_cons, List.not_mem_nil, or_false, not_or] at hSf
    obtain ⟨f1, f2, f3, f4, f5⟩ := hSf
    have ag2 : Agree H0 (upd (upd H s.heap.objs.size (.frz { cls := .type "tuple", data := .seq #[u, u2] } (.tup [xs[i], ys[i]]))) S (.lst (acc ++ [V.ref s.heap.objs.size]))) := fun b hb => by
      have b1 : b ≠ S := fun e => hb (by rw [e]; exact hn)
      have b2 : b ≠ s.heap.objs.size := fun e => by
        have := J.ag b hb
        rw [e, hTn] at this
        exact hb (by rw [e]; exact this.symm)
      rw [upd_ne b1, upd_ne b2]
      exact J.ag b hb
    refine wpAny_pure ⟨plainId_quiet F.plain_extend_loop _, ih (i + 1) _ _ (acc ++ [V.ref s.heap.objs.size]) (by omega) (by omega) ⟨I2, ?_, fun c hc => ?_, fun c hc => ?_, upd_same, ag2, ?_⟩⟩
    · refine st'.mono (S := S) (fun c o hc e => (Heap.get?_update_other _ _ (Ne.symm hc)).trans e) ⟨_, Heap.get?_update_self _ ho rfl⟩ f1 f2 f3 f4 f5
    · have q := J.fp c hc
      have cS : c ≠ S := fun e => by
        have := q.1
        rw [e, J.hS] at this
        cases this
      have cT : c ≠ s.heap.objs.size := Nat.ne_of_lt (J.lt c hc)
      exact ⟨by rw [upd_ne cS, upd_ne cT]; exact q.1, q.2⟩
    · have l1 := J.lt c hc
      have l2 := Heap.lt_size hT
      show c < (h'.update S (Obj.mapSeq (·.push (Value.ref s.heap.objs.size)))).objs.size
      rw [Heap.size_update]
      exact Nat.lt_trans l1 l2
    · rw [zipD_take gx gy]
      refine ((J.rd.keep k1).keep k2).snoc ?_
      exact ⟨_, [xs[i], ys[i]], rfl, .inl ⟨_, by rw [upd_ne (Ne.symm nS)]; exact upd_same, rfl⟩, by show 2 ≤ sizeLine; decide, _, _, rfl, ((rx.keep J.ag.keep).keep k1).keep k2, _, _, rfl, ((ry.keep J.ag.keep).keep k1).keep k2, rfl⟩
end
end Lt

set_option Elab.async false
set_option linter.all false
set_option maxRecDepth 100000
set_option maxHeartbeats 4000000
namespace Lt
open PySem PySem.Spec PyProof.Rows L2

theorem zip_no_len : typeLookup (.type "zip") "__len__" = pure none := am_miss_of_fast (by decide +kernel)
theorem zip_no_hint : typeLookup (.type "zip") "__length_hint__" = pure none := am_miss_of_fast (by decide +kernel)
section
variable {X : Cx} {pins : List (Addr × Obj)} {σ : L2.St}
theorem list_init_zip {A : Around} {R : Result → Shared → Prop} {s : Shared} {H0 : Hp} {z TI TO i1 i2 l1 l2 : Addr} {dx dy : List D} {xs ys : List V} (hh : A.handled = none) (D : ZipApart z TI TO i1 i2 l1 l2) (I : Inv X pins σ H0 s)
    (hz : IsZip s.heap z TI TO .none) (hTI : IsPair s.heap TI (.ref i1) (.ref i2)) (hTO : ∃ x y, IsPair s.heap TO x y) (h1 : s.heap.IsTupleIter i1 l1 0) (h2 : s.heap.IsTupleIter i2 l2 0) (fp : ∀ c ∈ [z, TI, TO, i1, i2], FpOk X pins H0 c)
    (t1 : TupS X.K H0 l1 xs) (t2 : TupS X.K H0 l2 ys) (r1 : RelDs X.K H0 dx xs) (r2 : RelDs X.K H0 dy ys) (z1 : xs.length ≤ sizeLine)
    (hR : ∀ (H : Hp) (s' : Shared) (acc : List V), Inv X pins σ H s' → H s.heap.objs.size = some (.lst acc) → Agree H0 H → RelDs X.K H (zipD dx dy) acc → R (.ok (.ret .none)) s') :
    wpAny (model X.prog X.w) A.in1 (Builtin.«list.__init__» ⟨[.ref s.heap.objs.size, .ref z], []⟩)
      (fun fin s' => match fin with | .done f => R (.ok f) s' | .again c' => c'.quiet = true ∧ codeAny (model X.prog X.w) A c' R s') (fun e s' => R (.error e) s') { s with heap := s.heap.push { cls := .type "list", data := .seq #[] } } := by
  have hn : H0 s.heap.objs.size = none := I.hok.fresh (Nat.le_refl _)
  have I0 : Inv X pins σ (upd H0 s.heap.objs.size (.lst [])) { s with heap := s.heap.push { cls := .type "list", data := .seq #[] } } :=
    I.laid (t' := s.toks) (fun b o e => Heap.get?_push_of_some _ e) (Nat.le_refl _) ⟨Nat.zero_le _, [], 0, .nil, Heap.get?_push_size _ rfl⟩
  have lt : ∀ c ∈ [z, TI, TO, i1, i2], c < s.heap.objs.size := fun c hc => by
    simp only [List.mem_cons, List.not_mem_nil, or_false] at hc
    rcases hc with e | e | e | e | e
    · rw [e]; exact Heap.lt_size hz
    · rw [e]; exact Heap.lt_size hTI
    · rw [e]; obtain ⟨_, _, q⟩ := hTO; exact Heap.lt_size q
    · rw [e]; obtain ⟨_, q, _⟩ := h1; exact Heap.lt_size q
    · rw [e]; obtain ⟨_, q, _⟩ := h2; exact Heap.lt_size q
  have hSf : s.heap.objs.size ∉ [z, TI, TO, i1, i2] := fun hm => Nat.lt_irrefl _ (lt _ hm)
  have zS : s.heap.objs.size ≠ z := fun e => hSf (by rw [e]; simp)
  generalize hS0 : s.heap.objs.size = S at hn I0 hSf zS ⊢
  have hS : (s.heap.push { cls := .type "list", data := .seq #[] }).get? S = some { cls := .type "list", data := .seq ([] : List Value).toArray } := by rw [← hS0]; exact Heap.get?_push_size _ rfl
  have st0 : ZSt s.heap z TI TO i1 i2 l1 l2 0 := ⟨hTI, h1, h2, .inl ⟨hz, hTO⟩⟩
  have up0 : ∀ c o, s.heap.get? c = some o → (s.heap.push { cls := .type "list", data := .seq #[] }).get? c = some o := fun c o e => Heap.get?_push_of_some _ e
  have st1 : ZSt (s.heap.push { cls := .type "list", data := .seq #[] }) z TI TO i1 i2 l1 l2 0 := ⟨up0 _ _ hTI, h1.at fun o e => up0 _ o e, h2.at fun o e => up0 _ o e, .inl ⟨up0 _ _ hz, let ⟨x, y, q⟩ := hTO; ⟨x, y, up0 _ _ q⟩⟩⟩
  have sz1 : s.heap.objs.size + 1 = (s.heap.push { cls := .type "list", data := .seq #[] }).objs.size := (Heap.size_push ..).symm
  generalize hp1 : s.heap.push { cls := .type "list", data := .seq #[] } = g1 at hS st1 I0 sz1 ⊢
  show wpAny _ _ (do let old ← Builtin.List.listItems (.ref S); Builtin.List.listUpdate (.ref S) (fun _ => #[]); letGo old.toList.reverse; Builtin.List.listExtendWith (.ref S) (.ref z) .none) _ _ _
  refine wpAny_bind ?_
  unfold Builtin.List.listItems
  refine wpAny_bind (wpAny_seqItems hS rfl (wpAny_pure ?_))
  show wpAny _ _ (updateSeq S (fun _ => #[]) >>= fun _ => letGo (#[] : Array Value).toList.reverse >>= fun _ => Builtin.List.listExtendWith (.ref S) (.ref z) .none) _ _ _
  simp only [List.mem_cons, List.not_mem_nil, or_false, not_or] at hSf
  obtain ⟨f1, f2, f3, f4, f5⟩ := id hSf
  -- an update of the list, the rest as it was
  have step : ∀ (g : Heap) (zs zs' : List V) (its its' : List Value) (n n' : Nat) (f : Array Value → Array Value), Inv X pins σ (upd H0 S (.lst zs)) { s with heap := g } → g.get? S = some { cls := .type "list", data := .seq its.toArray n } → ZSt g z TI TO i1 i2 l1 l2 0 →
      Obj.mapSeq f { cls := .type "list", data := .seq its.toArray n } = { cls := .type "list", data := .seq its'.toArray n' } → Vals zs' its' → zs'.length ≤ sizeLine →
      Inv X pins σ (upd H0 S (.lst zs')) { s with heap := g.update S (Obj.mapSeq f) } ∧ (g.update S (Obj.mapSeq f)).get? S = some { cls := .type "list", data := .seq its'.toArray n' } ∧ ZSt (g.update S (Obj.mapSeq f)) z TI TO i1 i2 l1 l2 0 ∧ (g.update S (Obj.mapSeq f)).objs.size = g.objs.size := by
    intro g zs zs' its its' n n' f I' hg st hf rv hzz
    have e := I'.lstUpd (f := Obj.mapSeq f) (its' := its') (n' := n') upd_same hg hf rv hzz s.toks
    rw [upd_upd] at e
    have e2 : (g.update S (Obj.mapSeq f)).get? S = some { cls := .type "list", data := .seq its'.toArray n' } := by
      rw [Heap.get?_update_self _ hg (by rw [hf] <;> rfl), hf]
    exact ⟨e, e2, st.mono (S := S) (fun c o hc q => (Heap.get?_update_other _ _ (Ne.symm hc)).trans q) ⟨_, e2⟩ f1 f2 f3 f4 f5, Heap.size_update ..⟩
  refine wpAny_bind (wpAny_updateSeq hS rfl ?_)
  obtain ⟨I2, hS2, st2, sz2⟩ := step g1 [] [] [] [] 0 0 (fun _ => #[]) I0 hS st1 rfl .nil (Nat.zero_le _)
  refine wpAny_bind (wpAny_letGo ?_)
  unfold Builtin.List.listExtendWith
  have hz2 : IsZip (g1.update S (Obj.mapSeq fun _ => #[])) z TI TO .none := by
    rw [← hp1]
    exact (Heap.get?_update_other _ _ zS).trans (Heap.get?_push_of_some _ hz)
  generalize g1.update S (Obj.mapSeq fun _ => #[]) = g2 at I2 hS2 st2 hz2 sz2 ⊢
  have hT : ∀ tk, (⟨g2, s.gens, s.drawn, tk, s.os⟩ : Shared).TypeIs (.ref z) "zip" := fun _ => ⟨_, hz2, rfl⟩
  refine wpAny_bind (wpAny_typeOf (hT _) ?_)
  have q1 : Builtin.List.listSameRef (.ref S) (.ref z) = false := by simp [Builtin.List.listSameRef, zS]
  have q2 : (Value.type "zip" == Value.type "list") = false := by decide
  have q3 : (Value.type "zip" == Value.type "tuple") = false := by decide
  simp only [q1, q2, q3, Bool.or_false, Bool.false_eq_true, if_false]
  refine wpAny_bind (wpAny_pyIter_zip hz2 ?_)
  refine wpAny_bind (wpAny_holding ?_)
  unfold Builtin.List.listLengthHint
  refine wpAny_bind (wpAny_specialOf (hT _) zip_no_len ?_)
  show wpAny _ A.in1 (specialOf (Value.ref z) (Str.ofString "__length_hint__") >>= _) _ _ _
  refine wpAny_bind (wpAny_specialOf (hT _) zip_no_hint ?_)
  refine wpAny_pure ?_
  show wpAny _ _ (rule "list.extend.makes-room" >>= fun _ => Builtin.List.listTouch (.ref S) >>= fun _ =>
    again (.builtin "list.extend.loop" ⟨[.ref S, .ref z, .none], []⟩)) _ _ _
  refine wpAny_bind (wpAny_rule ?_)
  refine wpAny_bind ?_
  show wpAny _ _ (updateSeq S (·.push .none) >>= fun _ => updateSeq S (·.pop)) _ _ _
  refine wpAny_bind (wpAny_updateSeq hS2 rfl ?_)
  obtain ⟨I3, hS3, st3, sz3⟩ := step g2 [] [.non] [] [.none] 0 1 (·.push .none) I2 hS2 st2 rfl (.cons rfl .nil) (by show 1 ≤ sizeLine; decide)
  refine wpAny_updateSeq (hz := by seq_fits) hS3 rfl ?_
  obtain ⟨I4, hS4, st4, sz4⟩ := step _ [.non] [] [.none] [] 1 2 (·.pop) I3 hS3 st3 rfl .nil (Nat.zero_le _)
  have hlt : ∀ c ∈ [z, TI, TO, i1, i2], c < ((g2.update S (Obj.mapSeq (·.push .none))).update S (Obj.mapSeq (·.pop))).objs.size := fun c hc => by
    rw [sz4, sz3, sz2, ← sz1]
    exact Nat.lt_succ_of_lt (lt c hc)
  have nS : ∀ c ∈ [z, TI, TO, i1, i2], c ≠ S := fun c hc e => by
    rw [e] at hc
    simp only [List.mem_cons, List.not_mem_nil, or_false] at hc
    rcases hc with e | e | e | e | e
    · exact f1 e
    · exact f2 e
    · exact f3 e
    · exact f4 e
    · exact f5 e
  have ag : Agree H0 (upd H0 S (.lst [])) := fun b hb => upd_ne fun e => hb (by rw [e]; exact hn)
  refine wpAny_pure ⟨plainId_quiet F.plain_extend_loop _, zip_loop (dx := dx) (dy := dy) (H0 := H0) hh D (by simp only [List.mem_cons, List.not_mem_nil, or_false, not_or]; exact ⟨f1, f2, f3, f4, f5⟩) t1 t2 r1 r2 z1 hn (fun H s' acc i h a r => hR H s' acc i (by rw [hS0]; exact h) a r) _ 0 (upd H0 S (.lst [])) _ [] rfl (Nat.zero_le _)
    ⟨I4, st4, fun c hc => ⟨by rw [upd_ne (nS c hc)]; exact (fp c hc).1, (fp c hc).2⟩, hlt, upd_same, ag, ?_⟩⟩
  rw [List.take_zero, List.take_zero]
  rfl
theorem pd_lzip {p p2 pos pz : Pos} {e1 e2 : Expr} {ta tb : DE} (hc : X.calm = true) (hg : Gl X "list") (hm : X.mg "list" = none) (hgz : Gl X "zip") (hmz : X.mg "zip" = none) (ha : PDE X e1 ta) (hb : PDE X e2 tb)
    (hs : starEach [e1, e2] X.env = (false, eval e1 X.env) :: starEach [e2] X.env) (hs2 : starEach [e2] X.env = (false, eval e2 X.env) :: starEach [] X.env) (hpl : (backTo pz (starEach [e2] X.env)).any (·.1) = false) :
    PDE X (.Call (.Name "list" p) [.Call (.Name "zip" p2) [e1, e2] [] pz] [] pos) (fun ρ S K => ta ρ S fun x S1 => tb ρ S1 fun y S2 => match x, y with
      | .tup xs, .tup ys => newL (zipD xs ys) S2 K
      | _, _ => False) := by
  refine ⟨fun pins s σ H Q I ⟨ρ, S, Kd, hρ, hr, ht, hp⟩ => ?_⟩
  have na : starEach [Expr.Call (.Name "zip" p2) [e1, e2] [] pz] X.env = (false, eval (.Call (.Name "zip" p2) [e1, e2] [] pz) X.env) :: starEach [] X.env := rfl
  have e : (fun (x : D) (S1 : Sto) => tb ρ S1 fun y S2 => match x, y with
      | .tup xs, .tup ys => newL (zipD xs ys) S2 Kd
      | _, _ => False) = fun x S1 => tb ρ S1 fun y S2 => ∃ dx dy, [x, y] = [D.tup dx, D.tup dy] ∧ newL (zipD dx dy) S2 Kd := by
    funext x S1
    congr 1
    funext y S2
    apply propext
    cases x <;> first | (constructor <;> intro h <;> first | exact h.elim | (obtain ⟨_, _, h, _⟩ := h; cases h; done)) | skip
    cases y <;> first | (constructor <;> intro h <;> first | exact h.elim | (obtain ⟨_, _, h, _⟩ := h; cases h; done)) | skip
    exact ⟨fun h => ⟨_, _, rfl, h⟩, fun ⟨dx, dy, h, q⟩ => by cases h; exact q⟩
  have ht : ta ρ S (fun (x : D) (S1 : Sto) => tb ρ S1 fun y S2 => match x, y with
      | .tup xs, .tup ys => newL (zipD xs ys) S2 Kd
      | _, _ => False) := ht
  rw [e] at ht
  have hA := (pd_cons ha (pd_cons hb pd_nil hs2) hs).run pz pins s σ H (fun vs H1 => ∃ dx dy S2, newL (zipD dx dy) S2 Kd ∧ Keep H H1 ∧ Ext H S S2 ∧ RS X.K H1 S2 ∧ RelDs X.K H1 [.tup dx, .tup dy] vs) I
    ⟨ρ, S, fun ds S2 => ∃ dx dy, ds = [.tup dx, .tup dy] ∧ newL (zipD dx dy) S2 Kd, hρ, hr, ht, fun ds S2 vs H2 ⟨dx, dy, h2, h3⟩ k2 e2 r2 rd2 => ⟨dx, dy, S2, h3, k2, e2, r2, by rw [← h2]; exact rd2⟩⟩
  refine Call_ (ld_blt I hg hm PyProof.Rows.boot_list (PyProof.Rows.callWith_type1 (PyProof.Rows.args_cons (Call_ (ld_blt I hgz hmz PyProof.Rows.boot_zip (PyProof.Rows.callWith_type1 (thn hA fun us s1 ⟨vs, H1, I1, rv, dx, dy, S2, h, k1, e1, r1, rd⟩ => ?_) hs hpl))) na) na))
  obtain ⟨v, u, rfl, rx, ry⟩ := rd.two
  obtain ⟨a, xs, rfl, t1, z1, q1⟩ := rx
  obtain ⟨b, ys, rfl, t2, z2, q2⟩ := ry
  cases rv with
  | cons g1 gr =>
    cases gr with
    | cons g2 gr =>
      cases gr
      cases g1
      cases g2
      obtain ⟨its, rv, p1, _⟩ := I1.tuple t1.sqt
      obtain ⟨its2, rv2, p2, _⟩ := I1.tuple t2.sqt
      obtain ⟨o1, ho1, _⟩ := id p1
      obtain ⟨o2, ho2, _⟩ := id p2
      refine RZ.call_zipT (show s1.heap.IsTuple a its.toArray from p1) (show s1.heap.IsTuple b its2.toArray from p2) fun h' hz hTI hTO b1 b2 hsz hk => PyProof.Rows.args_nil ?_
      have I2 : Inv X pins σ H1 { s1 with heap := h' } := I1.kept (t' := s1.toks) hk
      have fresh5 : ∀ c, c ∈ [s1.heap.objs.size + 4, s1.heap.objs.size + 2, s1.heap.objs.size + 3, s1.heap.objs.size, s1.heap.objs.size + 1] → FpOk X pins H1 c := fun c hcm => by
        have e' : c = s1.heap.objs.size + 4 ∨ c = s1.heap.objs.size + 2 ∨ c = s1.heap.objs.size + 3 ∨ c = s1.heap.objs.size ∨ c = s1.heap.objs.size + 1 := by simpa using hcm
        have hle : s1.heap.objs.size ≤ c := by
          rcases e' with z | z | z | z | z
          · rw [z]; exact Nat.le_add_right _ _
          · rw [z]; exact Nat.le_add_right _ _
          · rw [z]; exact Nat.le_add_right _ _
          · rw [z]; exact Nat.le_refl _
          · rw [z]; exact Nat.le_add_right _ _
        exact I1.fpOk hle (I1.hok.fresh hle)
      refine callType_codes (Q₁ := fun obj s₁ => obj = .ref h'.objs.size ∧ s₁ = { s1 with heap := h'.push { cls := .type "list", data := .seq #[] } }) F.called_list (F.typeCall_list_1 _) F.entry_list_init
        (code_list_new _ ⟨rfl, rfl⟩) fun obj s₁ h₁ => ?_
      obtain ⟨rfl, rfl⟩ := h₁
      refine ⟨⟨_, Heap.get?_push_size _ rfl, rfl⟩, F.args_list_init_2 _ _, list_init_zip (s := { s1 with heap := h' }) (A := X.A.in1) (H0 := H1) (dx := dx) (dy := dy) (I.ok.hd hc) (PySem.W.ktu_apart s1.heap.objs.size a b (Heap.lt_size ho1) (Heap.lt_size ho2)) I2 hz hTI ⟨_, _, hTO⟩ b1 b2 fresh5 t1 t2 q1 q2 z1 fun H' s' acc i hS ag ra => ?_⟩
      have hS' : H' h'.objs.size = some (.lst acc) := hS
      have hn : H1 h'.objs.size = none := I2.hok.fresh (Nat.le_refl _)
      have kA := ag.keep
      have hz3 : acc.length ≤ sizeLine := by
        rw [ra.length, zipD_len, ← q1.length]
        exact Nat.le_trans (Nat.min_le_left ..) z1
      refine ⟨rfl, V.ref h'.objs.size, H', i, rfl, ?_⟩
      have rN : RS X.K H' (sup S2 h'.objs.size (.lst (zipD dx dy))) := by
        refine r1.step kA (fun b _ q => ag b q) fun b c e => ?_
        by_cases hb : b = h'.objs.size
        · subst hb
          rw [sup_same] at e
          cases e
          exact .inr ⟨by simp, ⟨acc, hS', ra, hz3⟩, .inr hn⟩
        · rw [sup_ne hb] at e
          exact .inl ⟨e, ag b (r1.dom e)⟩
      exact hp _ _ _ _ (h _ (r1.free hn)) (k1.trans kA) ((e1.trans k1 (.new hn))) rN rfl
end
end Lt

set_option Elab.async false
set_option linter.all false
set_option maxRecDepth 100000
set_option maxHeartbeats 4000000
namespace Lt
open PySem PySem.Spec PyProof.Rows L2

/-! ## the context of a tree -/
structure LC where
  N : List Str
  sc : Scope
  st : Scope
def visB (sc : Scope) (x : Str) : Bool := match sc.names.lookup x with
  | some .local => true
  | some .cell => true
  | some .free => true
  | _ => false
theorem vis_of {sc : Scope} {x : Str} (h : visB sc x = true) : Vis sc x := by
  unfold visB at h
  split at h <;> first | exact .inl (by assumption) | exact .inr (.inl (by assumption)) | exact .inr (.inr (by assumption)) | cases h
def locB (sc : Scope) (x : Str) : Bool := match sc.names.lookup x with
  | some .local => true
  | some .cell => true
  | _ => false
theorem loc_of {sc : Scope} {x : Str} (h : locB sc x = true) : Loc sc x := by
  unfold locB at h
  split at h <;> first | exact .inl (by assumption) | exact .inr (by assumption) | cases h
def LC.slot (L : LC) (i : Nat) (x : Str) : Bool := decide (L.N[i]? = some x) && visB L.sc x && !(x == ("__debug__" : Str)) && !(x == ("__classdict__" : Str))
def LC.gl (L : LC) (x : Str) : Bool := decide (L.sc.names.lookup x = some .globalImplicit) && !(x == ("__debug__" : Str))
def LC.sto (L : LC) (i : Nat) (x : Str) : Bool := decide (L.N[i]? = some x) && locB L.st x
def LC.blk (L : LC) (scope : Scope) : LC := ⟨L.N, relS scope L.sc, scope⟩
structure OkX (G : Glob) (c : Calls) (k : Nat) (L : LC) (X : Cx) : Prop where
  env : Env1 G c k X
  sc : X.env.scope = L.sc
  N : X.N = L.N
  st : ∀ x, locB L.st x = true → Loc X.env.scope x ∧ (X.fn x = true ∨ X.env.scope.names.lookup x = some .local)
section
variable {G : Glob} {c : Calls} {k : Nat} {L : LC} {X : Cx}
theorem OkX.blk {scope : Scope} {s : Shared} {H : Hp} {C : Addr} {cl : List (Str × Addr)} {fp : List Addr} (o : OkX G c k L X) : OkX G c k (L.blk scope) (X.blk s H scope (compEnvC scope cl C X.env) fp) where
  env := ⟨o.env.calm, o.env.nd, o.env.room, o.env.free, o.env.con, fun f hf => let F := o.env.fn f hf; ⟨F.mg, F.kp, F.ok⟩, o.env.cls, fun cn m h => let F := o.env.meth cn m h; ⟨F.mt, F.cl, F.ok⟩, fun cn h => let F := o.env.mak cn h; ⟨F.mg, F.mak, F.ok⟩⟩
  sc := by
    show relS scope X.env.scope = relS scope L.sc
    rw [o.sc]
  N := o.N
  st := fun x h => by
    have h : locB scope x = true := h
    rcases loc_of h with q | q
    · exact ⟨.inl (lookup_relS_keep (by simp) q), .inr (lookup_relS_keep (by simp) q)⟩
    · refine ⟨.inr (lookup_relS_keep (by simp) q), .inl ?_⟩
      show (scope.names.lookup x == some .cell) = true
      rw [q]; rfl
theorem OkX.gl (o : OkX G c k L X) {x : Str} (h : L.gl x = true) : Gl X x ∧ (x == ("__debug__" : Str)) = false := by
  unfold LC.gl at h
  rw [Bool.and_eq_true, decide_eq_true_eq, Bool.not_eq_true'] at h
  exact ⟨by show X.env.scope.names.lookup x = _; rw [o.sc]; exact h.1, h.2⟩
theorem OkX.var (o : OkX G c k L X) {i : Nat} {x : Str} {p : Pos} (h : L.slot i x = true) : PDE X (.Name x p) (wE G c (.var i)) := by
  unfold LC.slot at h
  simp only [Bool.and_eq_true, decide_eq_true_eq, Bool.not_eq_true'] at h
  exact pd_var (by rw [o.N]; exact h.1.1.1) (by rw [o.sc]; exact vis_of h.1.1.2) h.1.2 h.2
theorem OkX.sto (o : OkX G c k L X) {i : Nat} {x : Str} (h : L.sto i x = true) : X.N[i]? = some x ∧ Loc X.env.scope x ∧ (X.fn x = true ∨ X.env.scope.names.lookup x = some .local) := by
  unfold LC.sto at h
  rw [Bool.and_eq_true, decide_eq_true_eq] at h
  exact ⟨by rw [o.N]; exact h.1, o.st x h.2⟩
end

/-! ## targets -/
mutual
def chkT (L : LC) : LT → Expr → Bool
  | .name i, e => onName e fun x _ => L.sto i x
  | .tup ts, e => onTuple e fun es _ _ => chkTs L ts es
def chkTs (L : LC) : LTs → List Expr → Bool
  | .nil, [] => true
  | .cons t ts, e :: es => noStar e && (chkT L t e && chkTs L ts es)
  | _, _ => false
end
theorem chkTs_star {L : LC} : ∀ {ts : LTs} {es : List Expr}, chkTs L ts es = true → es.all noStar = true ∧ es.length = ts.len
  | .nil, [], _ => ⟨rfl, rfl⟩
  | .cons t ts, e :: es, h => by
    have h : (noStar e && (chkT L t e && chkTs L ts es)) = true := h
    simp only [Bool.and_eq_true] at h
    obtain ⟨q1, q2⟩ := chkTs_star h.2.2
    exact ⟨by rw [List.all_cons, h.1, q1] <;> rfl, by rw [List.length_cons, q2, LTs.len]⟩
  | .nil, _ :: _, h => by cases h
  | .cons _ _, [], h => by cases h
section
variable {G : Glob} {c : Calls} {k : Nat} {L : LC} {X : Cx}
mutual
theorem sT (o : OkX G c k L X) : ∀ {t : LT} {e : Expr}, chkT L t e = true → PG X e (gLT X.K t)
  | .name i, e, h => by
    obtain ⟨x, p, rfl, h⟩ := onName_eq (f := fun x _ => L.sto i x) h
    obtain ⟨h1, h2, h3⟩ := o.sto h
    exact pg_name o.env.nd h1 h2 h3
  | .tup ts, e, h => by
    obtain ⟨es, j, p, rfl, h⟩ := onTuple_eq (f := fun es _ _ => chkTs L ts es) h
    obtain ⟨q1, q2⟩ := chkTs_star h
    obtain ⟨q3, q4⟩ := asg_len (env := X.env) q1
    exact pg_tup o.env.calm (sTs o h) (by rw [q3, q2]) q4
theorem sTs (o : OkX G c k L X) : ∀ {ts : LTs} {es : List Expr}, chkTs L ts es = true → PGs X es (gLTs X.K ts)
  | .nil, [], _ => pgs_nil
  | .cons t ts, e :: es, h => by
    have h : (noStar e && (chkT L t e && chkTs L ts es)) = true := h
    simp only [Bool.and_eq_true] at h
    exact pgs_cons (sT o h.2.1) (sTs o h.2.2) (by rw [asg_cons h.1] <;> rfl)
  | .nil, _ :: _, h => by cases h
  | .cons _ _, [], h => by cases h
end
end

/-! ## expressions -/
def on1 {α : Type} (l : List α) (f : α → Bool) : Bool := match l with
  | [x] => f x
  | _ => false
def on2 {α : Type} (l : List α) (f : α → α → Bool) : Bool := match l with
  | [x, y] => f x y
  | _ => false
def onM {α : Type} (l : List α) (f : α → α → List α → Bool) : Bool := match l with
  | x :: y :: r => f x y r
  | _ => false
def chkTy (G : Glob) (L : LC) (t : TY) (e : Expr) : Bool := onName e fun n _ => decide (n = tyN t) && (L.gl n && (if isCls t then decide (n ∈ G.classes) else decide (n ∈ G.free)))
def chkTys (G : Glob) (L : LC) : List TY → List Expr → Bool
  | [], [] => true
  | t :: ts, e :: es => noStar e && (chkTy G L t e && chkTys G L ts es)
  | _, _ => false
section
variable {G : Glob} {c : Calls} {k : Nat} {L : LC} {X : Cx}
theorem sTy (o : OkX G c k L X) {t : TY} {e : Expr} (h : chkTy G L t e = true) : ClsE X e t := by
  obtain ⟨n, p, rfl, q⟩ := onName_eq h
  simp only [Bool.and_eq_true, decide_eq_true_eq] at q
  obtain ⟨rfl, h2, h3⟩ := q
  obtain ⟨g1, g2⟩ := o.gl h2
  cases ht : isCls t with
  | false =>
    rw [ht] at h3
    simp only [Bool.false_eq_true, if_false, decide_eq_true_eq] at h3
    exact cls_b ht g1 (o.env.free _ h3)
  | true =>
    rw [ht] at h3
    simp only [if_true, decide_eq_true_eq] at h3
    cases t <;> cases ht
    exact cls_c g1 (o.env.cls _ h3).2 g2
theorem sTys (o : OkX G c k L X) : ∀ {ts : List TY} {es : List Expr}, chkTys G L ts es = true → ClsEs X es ts ∧ ts.length = es.length
  | [], [], _ => ⟨trivial, rfl⟩
  | t :: ts, e :: es, h => by
    have h : (noStar e && (chkTy G L t e && chkTys G L ts es)) = true := h
    simp only [Bool.and_eq_true] at h
    obtain ⟨q1, q2⟩ := sTys o h.2.2
    exact ⟨⟨sTy o h.2.1, star_cons h.1, q1⟩, by rw [List.length_cons, q2, List.length_cons]⟩
  | [], _ :: _, h => by cases h
  | _ :: _, [], h => by cases h
end
def isCmp1 : Expr → Bool
  | .Compare _ [_] [_] _ => true
  | _ => false
section
variable (G : Glob)
mutual
def chkE : LC → LE → Expr → Bool
  | L, .var i, e => onName e fun x _ => L.slot i x
  | _, .int i, e => onConstant e fun x _ _ => decide (x = .int i)
  | _, .bl b, e => onConstant e fun x _ _ => decide (x = .bool b)
  | _, .non, e => onConstant e fun x _ _ => decide (x = .none)
  | _, .str z, e => onConstant e fun x _ _ => decide (x = .str z)
  | L, .glo z, e => onName e fun x _ => decide (x = z) && (L.gl x && (G.con z).isSome)
  | L, .tup es, e => onTuple e fun xs _ _ => chkEs L es xs
  | L, .lst es, e => onList e fun xs _ => chkEs L es xs
  | L, .bin op a b, e => onBinOp e fun x o y _ => decide (o = bopE op) && (chkE L a x && chkE L b y)
  | L, .neg a, e => onUnaryOp e fun o x _ => decide (o = .USub) && chkE L a x
  | L, .inv a, e => onUnaryOp e fun o x _ => decide (o = .Invert) && chkE L a x
  | L, .not a, e => onUnaryOp e fun o x _ => decide (o = .Not) && chkE L a x
  | L, .cmp op a b, e => onCompare e fun x os ys _ => match os, ys with
    | [o], [y] => decide (o = copE op) && (!behindInMarks o y && (chkE L a x && chkE L b y))
    | _, _ => false
  | L, .chain op op' a b d, e => onCompare e fun x os ys _ => match os, ys with
    | [o, o'], [y, z] => decide (o = copE op) && (decide (o' = copE op') && (!lastMarks [o, o'] [y, z] && (chkE L a x && (chkE L b y && chkE L d z))))
    | _, _ => false
  | L, .one a, e => onBoolOp e fun _ vs _ => on1 vs fun x => chkE L a x
  | L, .and a b, e => onBoolOp e fun o vs p => onM vs fun x y r => decide (o = .And) && (chkE L a x && chkE L b (.BoolOp .And (y :: r) p))
  | L, .or a b, e => onBoolOp e fun o vs p => onM vs fun x y r => decide (o = .Or) && (chkE L a x && chkE L b (.BoolOp .Or (y :: r) p))
  | L, .ite t a b, e => onIfExp e fun q x y _ => chkB L false t q && (chkE L a x && chkE L b y)
  | L, .idx a i, e => onSubscript e fun x y _ => noSlice y && (chkE L a x && chkE L i y)
  | L, .slc a lo hi, e => onSubscript e fun x y _ => onSlice y fun l u s _ => match s with
    | none => chkE L a x && (chkO L lo l && chkO L hi u)
    | some _ => false
  | L, .rev a, e => onSubscript e fun x y _ => onSlice y fun l u s _ => match l, u, s with
    | none, none, some z => chkE L a x && onUnaryOp z fun o w _ => decide (o = .USub) && onConstant w fun v _ _ => decide (v = .int 1)
    | _, _, _ => false
  | L, .call f es, e => onCall e fun g xs ks _ => onName g fun x _ => decide (x = f) && (decide (x ∈ G.fns) && (L.gl x && (ks.isEmpty && chkEs L es xs)))
  | L, .callk f es kn vs, e => onCall e fun g xs ks _ => onName g fun x _ => decide (x = f) && (decide (x ∈ G.fns) && (L.gl x && (decide (kwNames ks = kn.map some) && (decide ((x, es.len, kn) ∈ G.kws) && (chkEs L es xs && chkEs L vs (kwVals ks))))))
  | L, .bcall bf es, e => onCall e fun g xs ks _ => onName g fun x _ => decide (x = bfN bf) && (bfOk bf && (decide (x ∈ G.free) && (L.gl x && (ks.isEmpty && (!xs.isEmpty && chkEs L es xs)))))
  | L, .lzip a b, e => onCall e fun g xs ks _ => onName g fun x _ => decide (x = ("list" : Str)) && (decide (x ∈ G.free) && (L.gl x && (ks.isEmpty && on1 xs fun q => onCall q fun g2 ys ks2 _ => onName g2 fun x2 _ => decide (x2 = ("zip" : Str)) && (decide (x2 ∈ G.free) && (L.gl x2 && (ks2.isEmpty && on2 ys fun y z => noStar y && (noStar z && (chkE L a y && chkE L b z))))))))
  | L, .bm m a es, e => onCall e fun g xs ks p => onAttribute g fun x n ap => decide (n = bmN m) && (attrB x && ((ap.endLine == p.line) && (ks.isEmpty && (decide (xs.length < 30) && (chkE L a x && chkEs L es xs)))))
  | L, .isi a ts, e => onCall e fun g xs ks _ => onName g fun x _ => decide (x = ("isinstance" : Str)) && (decide (x ∈ G.free) && (L.gl x && (ks.isEmpty && on2 xs fun y z => noStar y && (noStar z && (chkE L a y && (match ts, noTupE z with
      | [t], true => chkTy G L t z
      | t :: r, false => decide (r.length < 100) && onTuple z fun zs _ _ => chkTys G L (t :: r) zs
      | _, _ => false))))))
  | L, .comp elt t it ifs own, e => onListComp e fun x gs sc _ => on1 gs fun g => decide (g.is_async = 0) && (chkI L it g.iter && (blkC L.N L.sc sc own && (chkT (L.blk sc) t g.target && (chkBO (L.blk sc) ifs g.ifs && (chkE (L.blk sc) elt x && (t.vs.all (fun i => decide (i ∈ own.map (·.2))) && own.all (fun q => decide (q.2 ∈ t.vs))))))))
  | _, _, _ => false
def chkB : LC → Bool → LB → Expr → Bool
  | L, w, .val a, e => !w && ((plainT e || isCmp1 e) && chkE L a e)
  | L, w, .tru a, e => !w && (plainT e && chkE L a e)
  | L, w, .not a, e => !w && onUnaryOp e fun o x _ => decide (o = .Not) && chkB L false a x
  | L, _, .and a b, e => onBoolOp e fun o vs p => onM vs fun x y r => decide (o = .And) && (chkB L false a x && chkB L true b (.BoolOp .And (y :: r) p))
  | L, _, .or a b, e => onBoolOp e fun o vs p => onM vs fun x y r => decide (o = .Or) && (chkB L false a x && chkB L true b (.BoolOp .Or (y :: r) p))
  | L, _, .last a, e => onBoolOp e fun _ vs _ => on1 vs fun x => chkB L false a x
def chkO : LC → LO → Option Expr → Bool
  | _, .none, none => true
  | L, .some a, some e => chkE L a e
  | _, _, _ => false
def chkBO : LC → LBO → List Expr → Bool
  | _, .none, [] => true
  | L, .some b, [x] => chkB L false b x
  | _, _, _ => false
def chkEs : LC → LEs → List Expr → Bool
  | _, .nil, [] => true
  | L, .cons a as, e :: es => noStar e && (chkE L a e && chkEs L as es)
  | _, _, _ => false
def chkI : LC → LI → Expr → Bool
  | L, .ex a, e => noSet e && chkE L a e
  | L, .rng1 a, e => onCall e fun g xs ks _ => onName g fun n _ => decide (n = ("range" : Str)) && (decide (n ∈ G.free) && (L.gl n && (ks.isEmpty && on1 xs fun x => noStar x && chkE L a x)))
  | L, .rng2 a b, e => onCall e fun g xs ks _ => onName g fun n _ => decide (n = ("range" : Str)) && (decide (n ∈ G.free) && (L.gl n && (ks.isEmpty && on2 xs fun x y => noStar x && (noStar y && (chkE L a x && chkE L b y)))))
  | _, _, _ => false
end
end
end Lt

set_option Elab.async false
set_option linter.all false
set_option maxRecDepth 100000
set_option maxHeartbeats 4000000
namespace Lt
open PySem PySem.Spec PyProof.Rows L2

section
variable {G : Glob} {c : Calls} {k : Nat}
theorem chkEs_star {L : LC} : ∀ {es : LEs} {xs : List Expr}, chkEs G L es xs = true → xs.all noStar = true ∧ xs.length = es.len
  | .nil, [], _ => ⟨rfl, rfl⟩
  | .cons a as, e :: es, h => by
    have h : (noStar e && (chkE G L a e && chkEs G L as es)) = true := h
    simp only [Bool.and_eq_true] at h
    obtain ⟨q1, q2⟩ := chkEs_star h.2.2
    exact ⟨by rw [List.all_cons, h.1, q1] <;> rfl, by rw [List.length_cons, q2, LEs.len]⟩
  | .nil, _ :: _, h => by cases h
  | .cons _ _, [], h => by cases h
/-- an expression that is no comparison -/
theorem nc {X : Cx} {e : Expr} {t : DE} (h : PDE X e t) (n : isCmp1 e = false := by rfl) : PDE X e t ∧ (isCmp1 e = true → PDT X e (tstB t)) := ⟨h, fun z => by rw [n] at z; cases z⟩
theorem lst_one {α : Type} {f : α → Bool} {l : List α} (h : on1 l f = true) : ∃ x, l = [x] ∧ f x = true := by
  cases l with
  | nil => cases h
  | cons x r => cases r <;> first | exact ⟨x, rfl, h⟩ | cases h
theorem lst_two {α : Type} {f : α → α → Bool} {l : List α} (h : on2 l f = true) : ∃ x y, l = [x, y] ∧ f x y = true := by
  cases l with
  | nil => cases h
  | cons x r =>
    cases r with
    | nil => cases h
    | cons y r => cases r <;> first | exact ⟨x, y, rfl, h⟩ | cases h
theorem lst_more {α : Type} {f : α → α → List α → Bool} {l : List α} (h : onM l f = true) : ∃ x y r, l = x :: y :: r ∧ f x y r = true := by
  cases l with
  | nil => cases h
  | cons x r =>
    cases r with
    | nil => cases h
    | cons y r => exact ⟨x, y, r, rfl, h⟩
theorem pk_all {X : Cx} : ∀ {ks : List Keyword} {t : DA}, PDA X (kwVals ks) t → True := fun _ => trivial
theorem comp_parts {L : LC} {elt : LE} {t : LT} {it : LI} {ifs : LBO} {own : List (Str × Nat)} {e : Expr} (h : chkE G L (.comp elt t it ifs own) e = true) :
    ∃ x tg iter fs sc p, e = .ListComp x [⟨tg, iter, fs, 0⟩] sc p ∧ chkI G L it iter = true ∧ blkC L.N L.sc sc own = true ∧ chkT (L.blk sc) t tg = true ∧ chkBO G (L.blk sc) ifs fs = true ∧ chkE G (L.blk sc) elt x = true ∧
      (∀ i, i ∈ t.vs → i ∈ own.map (·.2)) ∧ ∀ i, i ∈ own.map (·.2) → i ∈ t.vs := by
  obtain ⟨x, gs, sc, p, rfl, q⟩ := onListComp_eq h
  obtain ⟨g, rfl, q'⟩ := lst_one q
  replace q := q'
  obtain ⟨tg, iter, fs, a⟩ := g
  simp only [Bool.and_eq_true, decide_eq_true_eq, List.all_eq_true] at q
  obtain ⟨h0, h1, h2, h3, h4, h5, h6, h7⟩ := q
  have h0 : a = 0 := h0
  subst h0
  refine ⟨x, tg, iter, fs, sc, p, rfl, h1, h2, h3, h4, h5, h6, fun i hi => ?_⟩
  obtain ⟨q, hq, rfl⟩ := List.mem_map.mp hi
  exact h7 q hq
theorem chkI_set {L : LC} {it : LI} {e : Expr} (h : chkI G L it e = true) : noSet e = true := by
  cases it with
  | ex a =>
    have h : (noSet e && chkE G L a e) = true := h
    rw [Bool.and_eq_true] at h
    exact h.1
  | rng1 a =>
    obtain ⟨f, xs, ks, p, rfl, q⟩ := onCall_eq h
    rfl
  | rng2 a b =>
    obtain ⟨f, xs, ks, p, rfl, q⟩ := onCall_eq h
    rfl
  | zip a b => cases h
  | enum a => cases h
mutual
theorem sE : ∀ (a : LE) {L : LC} {X : Cx} {e : Expr}, OkX G c k L X → chkE G L a e = true → PDE X e (wE G c a) ∧ (isCmp1 e = true → PDT X e (tstB (wE G c a)))
  | .var i, L, X, e, o, h => by
    obtain ⟨x, p, rfl, q⟩ := onName_eq h
    exact nc (o.var q)
  | .int i, L, X, e, o, h => by
    obtain ⟨x, j, p, rfl, q⟩ := onConstant_eq h
    cases of_decide_eq_true q
    exact nc pd_int
  | .bl b, L, X, e, o, h => by
    obtain ⟨x, j, p, rfl, q⟩ := onConstant_eq h
    cases of_decide_eq_true q
    exact nc pd_bl
  | .non, L, X, e, o, h => by
    obtain ⟨x, j, p, rfl, q⟩ := onConstant_eq h
    cases of_decide_eq_true q
    exact nc pd_non
  | .str z, L, X, e, o, h => by
    obtain ⟨x, j, p, rfl, q⟩ := onConstant_eq h
    cases of_decide_eq_true q
    exact nc pd_str
  | .glo z, L, X, e, o, h => by
    obtain ⟨x, p, rfl, q⟩ := onName_eq h
    simp only [Bool.and_eq_true, decide_eq_true_eq] at q
    obtain ⟨rfl, h2, h3⟩ := q
    obtain ⟨g1, g2⟩ := o.gl h2
    obtain ⟨d, hd⟩ := Option.isSome_iff_exists.mp h3
    obtain ⟨v, u, m1, m2, m3⟩ := o.env.con _ d hd
    have := pd_glo (pos := p) g1 m1 m2 m3 g2
    refine nc (peI this fun σ H Q ⟨ρ, S, Kd, he, hs, ht, hp⟩ => ⟨ρ, S, Kd, he, hs, ?_, hp⟩)
    have ht : match G.con x with
      | some d => Kd d S
      | none => False := ht
    rw [hd] at ht
    exact ht
  | .tup es, L, X, e, o, h => by
    obtain ⟨xs, j, p, rfl, q⟩ := onTuple_eq h
    exact nc (pd_tup (sEs es o q))
  | .lst es, L, X, e, o, h => by
    obtain ⟨xs, p, rfl, q⟩ := onList_eq h
    exact nc (pd_lst (sEs es o q))
  | .bin op a b, L, X, e, o, h => by
    obtain ⟨x, o', y, p, rfl, q⟩ := onBinOp_eq h
    simp only [Bool.and_eq_true, decide_eq_true_eq] at q
    obtain ⟨rfl, h1, h2⟩ := q
    exact nc (pd_bin (od_all op) (sE a o h1).1 (sE b o h2).1)
  | .neg a, L, X, e, o, h => by
    obtain ⟨o', x, p, rfl, q⟩ := onUnaryOp_eq h
    simp only [Bool.and_eq_true, decide_eq_true_eq] at q
    obtain ⟨rfl, h1⟩ := q
    exact nc (pd_neg (sE a o h1).1)
  | .inv a, L, X, e, o, h => by
    obtain ⟨o', x, p, rfl, q⟩ := onUnaryOp_eq h
    simp only [Bool.and_eq_true, decide_eq_true_eq] at q
    obtain ⟨rfl, h1⟩ := q
    exact nc (pd_inv (sE a o h1).1)
  | .not a, L, X, e, o, h => by
    obtain ⟨o', x, p, rfl, q⟩ := onUnaryOp_eq h
    simp only [Bool.and_eq_true, decide_eq_true_eq] at q
    obtain ⟨rfl, h1⟩ := q
    exact nc (pd_not (sE a o h1).1)
  | .cmp op a b, L, X, e, o, h => by
    obtain ⟨x, os, ys, p, rfl, q⟩ := onCompare_eq h
    split at q
    · rename_i o' y
      simp only [Bool.and_eq_true, decide_eq_true_eq, Bool.not_eq_true'] at q
      obtain ⟨rfl, h0, h1, h2⟩ := q
      exact ⟨pd_cmp (oc_all o.env.hu op) (sE a o h1).1 (sE b o h2).1 h0, fun _ => pdt_cmp (oc_all o.env.hu op) (sE a o h1).1 (sE b o h2).1 h0⟩
    · cases q
  | .chain op op' a b d, L, X, e, o, h => by
    obtain ⟨x, os, ys, p, rfl, q⟩ := onCompare_eq h
    split at q
    · rename_i o1 o2 y z
      simp only [Bool.and_eq_true, decide_eq_true_eq, Bool.not_eq_true'] at q
      obtain ⟨rfl, rfl, h0, h1, h2, h3⟩ := q
      exact nc (pd_chain (oc_all o.env.hu op) (oc_all o.env.hu op') (sE a o h1).1 (sE b o h2).1 (sE d o h3).1 h0)
    · cases q
  | .one a, L, X, e, o, h => by
    obtain ⟨o', vs, p, rfl, q⟩ := onBoolOp_eq h
    obtain ⟨x, rfl, q'⟩ := lst_one q
    replace q := q'
    exact nc (pd_one (sE a o q).1)
  | .and a b, L, X, e, o, h => by
    obtain ⟨o', vs, p, rfl, q⟩ := onBoolOp_eq h
    obtain ⟨x, y, r, rfl, q'⟩ := lst_more q
    replace q := q'
    simp only [Bool.and_eq_true, decide_eq_true_eq] at q
    obtain ⟨rfl, h1, h2⟩ := q
    exact nc (pd_and (sE a o h1).1 (sE b o h2).1)
  | .or a b, L, X, e, o, h => by
    obtain ⟨o', vs, p, rfl, q⟩ := onBoolOp_eq h
    obtain ⟨x, y, r, rfl, q'⟩ := lst_more q
    replace q := q'
    simp only [Bool.and_eq_true, decide_eq_true_eq] at q
    obtain ⟨rfl, h1, h2⟩ := q
    exact nc (pd_or (sE a o h1).1 (sE b o h2).1)
  | .ite t a b, L, X, e, o, h => by
    obtain ⟨w, x, y, p, rfl, q⟩ := onIfExp_eq h
    simp only [Bool.and_eq_true] at q
    exact nc (pd_ite (sB t o q.1).1 (sE a o q.2.1).1 (sE b o q.2.2).1)
  | .idx a i, L, X, e, o, h => by
    obtain ⟨x, y, p, rfl, q⟩ := onSubscript_eq h
    simp only [Bool.and_eq_true] at q
    exact nc (pd_ix (sE a o q.2.1).1 (sE i o q.2.2).1 (plain_ix q.1))
  | .slc a lo hi, L, X, e, o, h => by
    obtain ⟨x, y, p, rfl, q⟩ := onSubscript_eq h
    obtain ⟨l, u, s, p2, rfl, q'⟩ := onSlice_eq q
    replace q := q'
    cases s with
    | some _ => cases q
    | none =>
      simp only [Bool.and_eq_true] at q
      exact nc (pd_slc (sE a o q.1).1 (sO lo o q.2.1) (sO hi o q.2.2))
  | .rev a, L, X, e, o, h => by
    obtain ⟨x, y, p, rfl, q⟩ := onSubscript_eq h
    obtain ⟨l, u, s, p2, rfl, q'⟩ := onSlice_eq q
    replace q := q'
    cases l <;> first | (cases q; done) | skip
    cases u <;> first | (cases q; done) | skip
    cases s with
    | none => cases q
    | some z =>
      simp only [Bool.and_eq_true] at q
      obtain ⟨h1, q0⟩ := q
      obtain ⟨o', w, p3, rfl, q1⟩ := onUnaryOp_eq q0
      simp only [Bool.and_eq_true, decide_eq_true_eq] at q1
      obtain ⟨rfl, q2⟩ := q1
      obtain ⟨v, j, p4, rfl, q3⟩ := onConstant_eq q2
      cases of_decide_eq_true q3
      exact nc (pd_rev (sE a o h1).1)
  | .call f es, L, X, e, o, h => by
    obtain ⟨g, xs, ks, p, rfl, q⟩ := onCall_eq h
    obtain ⟨x, p2, rfl, q'⟩ := onName_eq q
    replace q := q'
    simp only [Bool.and_eq_true, decide_eq_true_eq, List.isEmpty_iff] at q
    obtain ⟨rfl, h1, h2, rfl, h3⟩ := q
    obtain ⟨g1, g2⟩ := o.gl h2
    have F := o.env.fn _ h1
    have q := sEs es o h3
    obtain ⟨q1, q2⟩ := chkEs_star h3
    cases xs with
    | nil =>
      cases es with
      | cons _ _ => cases q2
      | nil => exact nc (pd_call0 F o.env.room g1 g2)
    | cons y ys =>
      rw [List.all_cons, Bool.and_eq_true] at q1
      exact nc (pd_call F o.env.room g1 q g2 (star_cons q1.1) (back_any q1.2))
  | .callk f es kn vs, L, X, e, o, h => by
    obtain ⟨g, xs, ks, p, rfl, q⟩ := onCall_eq h
    obtain ⟨x, p2, rfl, q'⟩ := onName_eq q
    replace q := q'
    simp only [Bool.and_eq_true, decide_eq_true_eq] at q
    obtain ⟨rfl, h1, h2, h3, h4, h5, h6⟩ := q
    obtain ⟨g1, g2⟩ := o.gl h2
    have F := o.env.fn _ h1
    have q := sEs es o h5
    have qk := sK vs ks o h6
    obtain ⟨q1, q2⟩ := chkEs_star h5
    obtain ⟨b1, b2, b3⟩ := kw_back (pos := p) (env := X.env) h3
    cases xs with
    | nil =>
      cases es with
      | cons _ _ => cases q2
      | nil =>
        refine nc (peI (pd_callk0 F o.env.room g1 h4 qk b1 b2 g2 (by rw [b3]; rfl)) fun σ H Q ⟨ρ, S, Kd, he, hs, ht, hp⟩ => ⟨ρ, S, Kd, he, hs, ?_, hp⟩)
        have e : (fun (zs : List D) (S2 : Sto) => (([] : List D).length = LEs.nil.len ∧ zs.length = kn.length) ∧ c.fn x ([] ++ kwOrd (G.pars x) LEs.nil.len kn zs) S2 Kd) = fun zs S2 => zs.length = kn.length ∧ c.fn x (kwOrd (G.pars x) 0 kn zs) S2 Kd := by
          funext zs S2
          simp [LEs.len]
        have ht : wEs G c vs ρ S (fun (zs : List D) (S2 : Sto) => (([] : List D).length = LEs.nil.len ∧ zs.length = kn.length) ∧ c.fn x ([] ++ kwOrd (G.pars x) LEs.nil.len kn zs) S2 Kd) := ht
        rw [e] at ht
        exact ht
    | cons y ys =>
      rw [List.all_cons, Bool.and_eq_true] at q1
      refine nc (pd_callk F o.env.room g1 h4 q qk b1 b2 g2 (star_cons q1.1) ?_)
      rw [b3, Bool.or_false]
      exact back_any (by rw [List.all_cons, q1.1, q1.2] <;> rfl)
  | .bcall bf es, L, X, e, o, h => by
    obtain ⟨g, xs, ks, p, rfl, q⟩ := onCall_eq h
    obtain ⟨x, p2, rfl, q'⟩ := onName_eq q
    replace q := q'
    simp only [Bool.and_eq_true, decide_eq_true_eq, List.isEmpty_iff] at q
    obtain ⟨rfl, h0, h1, h2, rfl, h4, h3⟩ := q
    obtain ⟨g1, g2⟩ := o.gl h2
    have q := sEs es o h3
    obtain ⟨q1, q2⟩ := chkEs_star h3
    cases xs with
    | nil => cases h4
    | cons y ys =>
      rw [List.all_cons, Bool.and_eq_true] at q1
      exact nc (pd_bcall h0 o.env.calm g1 (o.env.free _ h1) q (star_cons q1.1) (back_any q1.2))
  | .lzip a b, L, X, e, o, h => by
    obtain ⟨g, xs, ks, p, rfl, q⟩ := onCall_eq h
    obtain ⟨x, p2, rfl, q0⟩ := onName_eq q
    simp only [Bool.and_eq_true, decide_eq_true_eq, List.isEmpty_iff] at q0
    obtain ⟨rfl, h1, h2, rfl, q1⟩ := q0
    obtain ⟨g1, _⟩ := o.gl h2
    obtain ⟨w, rfl, q2⟩ := lst_one q1
    obtain ⟨g', ys, ks', pz, rfl, q3⟩ := onCall_eq q2
    obtain ⟨x', p3, rfl, q4⟩ := onName_eq q3
    simp only [Bool.and_eq_true, decide_eq_true_eq, List.isEmpty_iff] at q4
    obtain ⟨rfl, h3, h4, rfl, q5⟩ := q4
    obtain ⟨g2, _⟩ := o.gl h4
    obtain ⟨y, z, rfl, q6⟩ := lst_two q5
    simp only [Bool.and_eq_true] at q6
    obtain ⟨s1, s2, c1, c2⟩ := q6
    exact nc (pd_lzip o.env.calm g1 (o.env.free _ h1) g2 (o.env.free _ h3) (sE a o c1).1 (sE b o c2).1 (star_cons s1) (star_cons s2) (back_any (by rw [List.all_cons, s2] <;> rfl)))
  | .bm m a es, L, X, e, o, h => by
    obtain ⟨g, xs, ks, p, rfl, q⟩ := onCall_eq h
    obtain ⟨x, n, ap, rfl, q'⟩ := onAttribute_eq q
    replace q := q'
    simp only [Bool.and_eq_true, decide_eq_true_eq, List.isEmpty_iff] at q
    obtain ⟨rfl, h0, h1, rfl, h2, h3, h4⟩ := q
    have q := sEs es o h4
    obtain ⟨q1, q2⟩ := chkEs_star h4
    cases xs with
    | nil =>
      cases es with
      | cons _ _ => cases q2
      | nil => exact nc (pd_bm0 (mt_all m) (sE a o h3).1 (attr_base h0) h1)
    | cons y ys =>
      have q3 := q1
      rw [List.all_cons, Bool.and_eq_true] at q1
      refine nc (pd_bm (mt_all m) (sE a o h3).1 q (attr_base h0) ?_ h1 (star_cons q1.1) (back_any q1.2))
      rw [back_all q3]
      show (true && true && decide (_ < 30)) = true
      simpa using h2
  | .isi a ts, L, X, e, o, h => by
    obtain ⟨g, xs, ks, p, rfl, q⟩ := onCall_eq h
    obtain ⟨x, p2, rfl, q'⟩ := onName_eq q
    replace q := q'
    simp only [Bool.and_eq_true, decide_eq_true_eq, List.isEmpty_iff] at q
    obtain ⟨rfl, h1, h2, rfl, q0⟩ := q
    obtain ⟨g1, g2⟩ := o.gl h2
    obtain ⟨y, z, rfl, q1⟩ := lst_two q0
    simp only [Bool.and_eq_true] at q1
    obtain ⟨s1, s2, h3, q2⟩ := q1
    have hcl : ∀ cn ∈ G.classes, ClsF X.K cn (G.fields cn) G.classes := fun cn hcn => (o.env.cls cn hcn).1
    split at q2
    · rename_i t ht
      exact nc (pd_isi1 hcl g1 (o.env.free _ h1) (sE a o h3).1 (sTy o q2) (star_cons s1) (star_cons s2) (back_any (by rw [List.all_cons, s2] <;> rfl)))
    · rename_i t r ht
      simp only [Bool.and_eq_true, decide_eq_true_eq] at q2
      obtain ⟨h5, q3⟩ := q2
      obtain ⟨zs, j, p3, rfl, q4⟩ := onTuple_eq q3
      obtain ⟨c1, c2⟩ := sTys o q4
      exact nc (pd_isiT hcl g1 (o.env.free _ h1) (sE a o h3).1 (pa_cls c1) (by rw [List.length_cons]; omega) (by simp) (star_cons s1) (star_cons s2) (back_any (by rw [List.all_cons, s2] <;> rfl)))
    · cases q2
  | .comp elt t it ifs own, L, X, e, o, h => by
    obtain ⟨x, tg, iter, fs, sc, p, rfl, h1, h2, h3, h4, h5, h6, h7⟩ := comp_parts h
    exact nc (pd_comp o.env.calm o.env.nd (sI it o h1) (by rw [o.N, o.sc]; exact blkOk_by h2) (fun _ _ _ _ _ => sT o.blk h3) (fun _ _ _ _ _ => sBO ifs o.blk h4) (fun _ _ _ _ _ => (sE elt o.blk h5).1) (fun x => folded_ok (chkI_set h1) x) h6 h7)
  | .dic0, _, _, _, _, h => by cases h
  | .lof _, _, _, _, _, h => by cases h
  | .tof _, _, _, _, _, h => by cases h
  | .fld _ _, _, _, _, _, h => by cases h
  | .mk _ _, _, _, _, _, h => by cases h
  | .meth _ _ _, _, _, _, _, h => by cases h
theorem sB : ∀ (b : LB) {L : LC} {X : Cx} {w : Bool} {e : Expr}, OkX G c k L X → chkB G L w b e = true → PDT X e (wB G c b) ∧ (w = true → PDW X e (wB G c b))
  | .val a, L, X, w, e, o, h => by
    have h : (!w && ((plainT e || isCmp1 e) && chkE G L a e)) = true := h
    simp only [Bool.and_eq_true, Bool.or_eq_true, Bool.not_eq_true'] at h
    obtain ⟨rfl, h1, h2⟩ := h
    refine ⟨?_, fun z => by cases z⟩
    rcases h1 with h1 | h1
    · exact pdt_val (sE a o h2).1 (plain_test h1)
    · exact (sE a o h2).2 h1
  | .tru a, L, X, w, e, o, h => by
    have h : (!w && (plainT e && chkE G L a e)) = true := h
    simp only [Bool.and_eq_true, Bool.not_eq_true'] at h
    obtain ⟨rfl, h1, h2⟩ := h
    exact ⟨pdt_tru (sE a o h2).1 (plain_test h1), fun z => by cases z⟩
  | .not a, L, X, w, e, o, h => by
    have h : (!w && onUnaryOp e fun o x _ => decide (o = .Not) && chkB G L false a x) = true := h
    simp only [Bool.and_eq_true, Bool.not_eq_true'] at h
    obtain ⟨rfl, h⟩ := h
    obtain ⟨o', x, p, rfl, q⟩ := onUnaryOp_eq h
    simp only [Bool.and_eq_true, decide_eq_true_eq] at q
    obtain ⟨rfl, q⟩ := q
    exact ⟨pdt_not (sB a o q).1, fun z => by cases z⟩
  | .and a b, L, X, w, e, o, h => by
    obtain ⟨o', vs, p, rfl, q⟩ := onBoolOp_eq h
    obtain ⟨x, y, r, rfl, q'⟩ := lst_more q
    replace q := q'
    simp only [Bool.and_eq_true, decide_eq_true_eq] at q
    obtain ⟨rfl, h1, h2⟩ := q
    have W := pdw_and (sB a o h1).1 ((sB b o h2).2 rfl)
    exact ⟨W.pt, fun _ => W⟩
  | .or a b, L, X, w, e, o, h => by
    obtain ⟨o', vs, p, rfl, q⟩ := onBoolOp_eq h
    obtain ⟨x, y, r, rfl, q'⟩ := lst_more q
    replace q := q'
    simp only [Bool.and_eq_true, decide_eq_true_eq] at q
    obtain ⟨rfl, h1, h2⟩ := q
    have W := pdw_or (sB a o h1).1 ((sB b o h2).2 rfl)
    exact ⟨W.pt, fun _ => W⟩
  | .last a, L, X, w, e, o, h => by
    obtain ⟨o', vs, p, rfl, q⟩ := onBoolOp_eq h
    obtain ⟨x, rfl, q'⟩ := lst_one q
    replace q := q'
    have T := (sB a o q).1
    cases o' with
    | And => exact ⟨(pdw_and1 T).pt, fun _ => pdw_and1 T⟩
    | Or => exact ⟨(pdw_or1 T).pt, fun _ => pdw_or1 T⟩
theorem sO : ∀ (a : LO) {L : LC} {X : Cx} {e : Option Expr}, OkX G c k L X → chkO G L a e = true → PO X e (LiftO X.K (wO G c a))
  | .none, L, X, none, o, h => po_D0
  | .some a, L, X, some e, o, h => po_D1 (sE a o h).1
  | .none, _, _, some _, _, h => by cases h
  | .some _, _, _, none, _, h => by cases h
theorem sBO : ∀ (a : LBO) {L : LC} {X : Cx} {es : List Expr}, OkX G c k L X → chkBO G L a es = true → PTs X es (LiftT X.K (wBO G c a))
  | .none, L, X, [], o, h => pd_nilT
  | .some b, L, X, [x], o, h => pts_one (sB b o h).1
  | .none, _, _, _ :: _, _, h => by cases h
  | .some _, _, _, [], _, h => by cases h
  | .some _, _, _, _ :: _ :: _, _, h => by cases h
theorem sEs : ∀ (a : LEs) {L : LC} {X : Cx} {es : List Expr}, OkX G c k L X → chkEs G L a es = true → PDA X es (wEs G c a)
  | .nil, L, X, [], o, h => pd_nil
  | .cons a as, L, X, e :: es, o, h => by
    have h : (noStar e && (chkE G L a e && chkEs G L as es)) = true := h
    simp only [Bool.and_eq_true] at h
    exact pd_cons (sE a o h.2.1).1 (sEs as o h.2.2) (star_cons h.1)
  | .nil, _, _, _ :: _, _, h => by cases h
  | .cons _ _, _, _, [], _, h => by cases h
theorem sK : ∀ (a : LEs) (ks : List Keyword) {L : LC} {X : Cx}, OkX G c k L X → chkEs G L a (kwVals ks) = true → PK X ks (LiftA X.K (wEs G c a))
  | .nil, [], L, X, o, h => pdk_nil
  | .cons a as, ⟨n, v, p⟩ :: ks, L, X, o, h => by
    have h : (noStar v && (chkE G L a v && chkEs G L as (kwVals ks))) = true := h
    simp only [Bool.and_eq_true] at h
    exact pdk_cons (sE a o h.2.1).1 (sK as ks o h.2.2)
  | .nil, ⟨_, _, _⟩ :: _, _, _, _, h => by cases h
  | .cons _ _, [], _, _, _, h => by cases h
theorem sI : ∀ (a : LI) {L : LC} {X : Cx} {tg e : Expr}, OkX G c k L X → chkI G L a e = true → PDI X tg e (wI G c a)
  | .ex a, L, X, tg, e, o, h => by
    have h : (noSet e && chkE G L a e) = true := h
    rw [Bool.and_eq_true] at h
    exact pd_iter (sE a o h.2).1
  | .rng1 a, L, X, tg, e, o, h => by
    obtain ⟨g, xs, ks, p, rfl, q⟩ := onCall_eq h
    obtain ⟨x, p2, rfl, q'⟩ := onName_eq q
    replace q := q'
    simp only [Bool.and_eq_true, decide_eq_true_eq, List.isEmpty_iff] at q
    obtain ⟨rfl, h1, h2, rfl, q0⟩ := q
    obtain ⟨g1, g2⟩ := o.gl h2
    obtain ⟨y, rfl, q⟩ := lst_one q0
    simp only [Bool.and_eq_true] at q
    have E := star_cons (es := []) (env := X.env) q.1
    refine piI (pd_rng1 g1 (o.env.free _ h1) (pd_cons (sE a o q.2).1 pd_nil E) E) fun σ H R ⟨ρ, S, Kd, hρ, hs, ht, hp⟩ => ⟨ρ, S, Kd, hρ, hs, ?_, hp⟩
    have e : (fun (x : D) (S1 : Sto) => match x with
      | .int j => (-(2 ^ 62) ≤ j ∧ j < 2 ^ 62) ∧ Kd (rngD 0 j.toNat) (fun _ => True) S1
      | _ => False) = fun d S1 => match [d] with
      | [.int j] => (-(2 ^ 62) ≤ j ∧ j < 2 ^ 62) ∧ Kd (rngD 0 j.toNat) (fun _ => True) S1
      | _ => False := by
      funext d S1
      cases d <;> rfl
    have ht : wE G c a ρ S (fun (x : D) (S1 : Sto) => match x with
      | .int j => (-(2 ^ 62) ≤ j ∧ j < 2 ^ 62) ∧ Kd (rngD 0 j.toNat) (fun _ => True) S1
      | _ => False) := ht
    rw [e] at ht
    exact ht
  | .rng2 a b, L, X, tg, e, o, h => by
    obtain ⟨g, xs, ks, p, rfl, q⟩ := onCall_eq h
    obtain ⟨x, p2, rfl, q'⟩ := onName_eq q
    replace q := q'
    simp only [Bool.and_eq_true, decide_eq_true_eq, List.isEmpty_iff] at q
    obtain ⟨rfl, h1, h2, rfl, q0⟩ := q
    obtain ⟨g1, g2⟩ := o.gl h2
    obtain ⟨y, z, rfl, qq⟩ := lst_two q0
    simp only [Bool.and_eq_true] at qq
    obtain ⟨s1, s2, q1, q2⟩ := qq
    have E2 := star_cons (es := []) (env := X.env) s2
    have E1 := star_cons (es := [z]) (env := X.env) s1
    refine piI (pd_rng2 g1 (o.env.free _ h1) (pd_cons (sE a o q1).1 (pd_cons (sE b o q2).1 pd_nil E2) E1) (E1.trans (by rw [E2] <;> rfl)) E2) fun σ H R ⟨ρ, S, Kd, hρ, hs, ht, hp⟩ => ⟨ρ, S, Kd, hρ, hs, ?_, hp⟩
    have e : (fun (x y : D) (S2 : Sto) => match x, y with
      | .int i, .int j => (-(2 ^ 62) ≤ i ∧ i < 2 ^ 62 ∧ -(2 ^ 62) ≤ j ∧ j < 2 ^ 62) ∧ Kd (rngD i (j - i).toNat) (fun _ => True) S2
      | _, _ => False) = fun x y S2 => match [x, y] with
      | [.int i, .int j] => (-(2 ^ 62) ≤ i ∧ i < 2 ^ 62 ∧ -(2 ^ 62) ≤ j ∧ j < 2 ^ 62) ∧ Kd (rngD i (j - i).toNat) (fun _ => True) S2
      | _ => False := by
      funext x y S2
      cases x <;> first | rfl | (cases y <;> rfl)
    have ht : wE G c a ρ S (fun (x : D) (S1 : Sto) => wE G c b ρ S1 ((fun (x y : D) (S2 : Sto) => match x, y with
      | .int i, .int j => (-(2 ^ 62) ≤ i ∧ i < 2 ^ 62 ∧ -(2 ^ 62) ≤ j ∧ j < 2 ^ 62) ∧ Kd (rngD i (j - i).toNat) (fun _ => True) S2
      | _, _ => False) x)) := ht
    rw [e] at ht
    exact ht
  | .zip _ _, _, _, _, _, _, h => by cases h
  | .enum _, _, _, _, _, _, h => by cases h
end
end
end Lt

set_option Elab.async false
set_option linter.all false
set_option maxRecDepth 100000
set_option maxHeartbeats 4000000
namespace Lt
open PySem PySem.Spec PyProof.Rows L2

def isCompE : LE → Bool
  | .comp .. => true
  | _ => false
def locl (sc : Scope) (x : Str) : Bool := decide (sc.names.lookup x = some .local)
def parC (L : LC) (is : List Nat) (xs vs : List Expr) : Bool := match is, xs, vs with
  | [i, j], [x, y], [_, _] => onName x fun a _ => onName y fun b _ => decide (L.N[i]? = some a) && (decide (L.N[j]? = some b) && (decide (i ≠ j) && (locl L.sc a && (locl L.sc b && decide (swT L.sc xs vs = some (some [a, b]))))))
  | [i, j, l], [x, y, z], [_, _, _] => onName x fun a _ => onName y fun b _ => onName z fun d _ => decide (L.N[i]? = some a) && (decide (L.N[j]? = some b) && (decide (L.N[l]? = some d) && (decide (i ≠ j) && (decide (i ≠ l) && (decide (j ≠ l) &&
      (locl L.sc a && (locl L.sc b && (locl L.sc d && decide (swT L.sc xs vs = some (some [a, b, d]))))))))))
  | _, _, _ => false
section
variable (G : Glob)
mutual
def chkS (L : LC) : LS → Stmt → Bool
  | .asg t e, s => onSAssign s fun ts v _ => on1 ts fun tg => (match t with
    | .name i => onName tg fun x q => L.sto i x && (bif swN L.sc v x q then isCompE e else true)
    | .tup tt => onTuple tg fun es _ _ => chkTs L tt es && (noTupE v || onTuple v fun vs _ _ => decide (swT L.sc es vs = some none))) && chkE G L e v
  | .par is es, s => onSAssign s fun ts v _ => on1 ts fun tg => onTuple tg fun xs _ _ => onTuple v fun vs _ _ => chkEs G L es vs && parC L is xs vs
  | .sub o i e, s => onSAssign s fun ts v _ => on1 ts fun tg => onSubscript tg fun x y _ => noSlice y && (chkE G L o x && (chkE G L i y && chkE G L e v))
  | .ex e, s => onSExpr s fun v _ => noCmp v && chkE G L e v
  | .ret e, s => onSReturn s fun v _ => match v with
    | some x => chkE G L e x
    | none => false
  | .retN, s => onSReturn s fun v _ => v.isNone
  | .ite c a b, s => onSIf s fun x p q _ => chkB G L false c x && (chkSs L a p && chkSs L b q)
  | .for_ t it body, s => onSFor s fun tg i b o _ => o.isEmpty && (chkT L t tg && (chkI G L it i && chkSs L body b))
  | .whl c body, s => onSWhile s fun x b o _ => o.isEmpty && (chkB G L false c x && chkSs L body b)
  | .brk, s => match s with
    | .Break _ => true
    | _ => false
  | .cont, s => match s with
    | .Continue _ => true
    | _ => false
  | .pass, s => match s with
    | .Pass _ => true
    | _ => false
  | .never, _ => true
  | _, _ => false
def chkSs (L : LC) : LSs → List Stmt → Bool
  | .nil, [] => true
  | .cons s ss, x :: xs => chkS L s x && chkSs L ss xs
  | _, _ => false
end
end
section
variable {G : Glob} {c : Calls} {k : Nat} {L : LC} {X : Cx}
theorem onSReturn_some {e : LE} {v : Option Expr} (h : (match v with
  | some x => chkE G L e x
  | none => false) = true) : ∃ x, v = some x ∧ chkE G L e x = true := by
  cases v with
  | none => cases h
  | some x => exact ⟨x, rfl, h⟩
theorem s_par (o : OkX G c k L X) {is : List Nat} {xs vs : List Expr} {es : LEs} {k1 k2 : Nat} {p1 p2 p : Pos} (he : chkEs G L es vs = true) (h : parC L is xs vs = true) : PDS X (.Assign [.Tuple xs k1 p1] (.Tuple vs k2 p2) p) (sPar is (wEs G c es)) := by
  unfold parC at h
  split at h
  · rename_i i j x y u w
    obtain ⟨a, pa, rfl, h1⟩ := onName_eq h
    obtain ⟨b, pb, rfl, h2⟩ := onName_eq h1
    simp only [Bool.and_eq_true, decide_eq_true_eq, locl] at h2
    obtain ⟨n1, n2, n3, l1, l2, sw⟩ := h2
    exact ps_par2D o.env.calm o.env.nd (by rw [o.N]; exact n1) (by rw [o.N]; exact n2) n3 (by rw [o.sc]; exact l1) (by rw [o.sc]; exact l2) (sEs es o he) (ss_tup (by rw [o.sc]; exact sw)) sw_tup
  · rename_i i j l x y z u w t
    obtain ⟨a, pa, rfl, h1⟩ := onName_eq h
    obtain ⟨b, pb, rfl, h2⟩ := onName_eq h1
    obtain ⟨d, pd, rfl, h3⟩ := onName_eq h2
    simp only [Bool.and_eq_true, decide_eq_true_eq, locl] at h3
    obtain ⟨n1, n2, n3, i1, i2, i3, l1, l2, l3, sw⟩ := h3
    exact ps_par3D o.env.calm o.env.nd (by rw [o.N]; exact n1) (by rw [o.N]; exact n2) (by rw [o.N]; exact n3) i1 i2 i3 (by rw [o.sc]; exact l1) (by rw [o.sc]; exact l2) (by rw [o.sc]; exact l3) (sEs es o he) (ss_tup (by rw [o.sc]; exact sw)) sw_tup
  · cases h
theorem s_asgN (o : OkX G c k L X) {i : Nat} {x : Str} {q p : Pos} {e : LE} {v : Expr} (h1 : L.sto i x = true) (h2 : (bif swN L.sc v x q then isCompE e else true) = true) (h3 : chkE G L e v = true) : PDS X (.Assign [.Name x q] v p) (sAsg (.name i) (wE G c e)) := by
  obtain ⟨a1, a2, a3⟩ := o.sto h1
  cases hs : swN L.sc v x q with
  | false => exact ps_setD o.env.nd a1 a2 (sE e o h3).1 (by rw [sw_nm, o.sc, hs]) a3
  | true =>
    rw [hs] at h2
    have h2 : isCompE e = true := h2
    obtain ⟨elt, t, it, ifs, own, rfl⟩ : ∃ elt t it ifs own, e = LE.comp elt t it ifs own := by cases e <;> first | exact ⟨_, _, _, _, _, rfl⟩ | cases h2
    obtain ⟨x', tg, iter, fs, sc, p', rfl, h1, h2', h3', h4, h5, h6, h7⟩ := comp_parts h3
    have hl : X.env.scope.names.lookup x = some .local := by
      have hs : (bkS L.sc == .function && L.sc.names.lookup x == some .local && q.line == p'.line && !(sc.names.any fun (n, k) => n == x && (k == .local || k == .cell))) = true := hs
      simp only [Bool.and_eq_true, beq_iff_eq] at hs
      rw [o.sc]
      exact hs.1.1.2
    exact ps_setLcD o.env.calm o.env.nd a1 hl (by rw [sw_nm, o.sc, hs]) (sI it o h1) (by rw [o.N, o.sc]; exact blkOk_by h2') (fun _ _ _ _ _ => sT o.blk h3') (fun _ _ _ _ _ => sBO ifs o.blk h4) (fun _ _ _ _ _ => (sE elt o.blk h5).1) (fun x => folded_ok (chkI_set h1) x) h6 h7
theorem s_asgT (o : OkX G c k L X) {tt : LTs} {es : List Expr} {j : Nat} {q p : Pos} {e : LE} {v : Expr} (h1 : chkTs L tt es = true) (h2 : noTupE v = true ∨ onTuple v (fun vs _ _ => decide (swT L.sc es vs = some none)) = true) (h3 : chkE G L e v = true) : PDS X (.Assign [.Tuple es j q] v p) (sAsg (.tup tt) (wE G c e)) := by
  have hT : chkT L (.tup tt) (.Tuple es j q) = true := h1
  refine ps_asgD (sE e o h3).1 (sT o hT) sw_tup ?_ rfl
  rcases h2 with h2 | h2
  · exact ss_no h2
  · obtain ⟨vs, k', p', rfl, h2⟩ := onTuple_eq h2
    exact ss_tup (by rw [o.sc]; exact of_decide_eq_true h2)
theorem assign_sub {o i : Expr} {p : Pos} {env : PySem.Env} (h : noSlice i = true) (v : Value) : assign (.Subscript o i p) env v = (do
      let ov ← holding [v] (eval o env)
      let iv ← holding [v, ov] (eval i env)
      standAt p
      holding [v, ov, iv] (setItem ov iv v)
      release [v, ov, iv] []) := by
  cases i <;> first | rfl | cases h
mutual
theorem sS (o : OkX G c k L X) (hp : PassesOwn (model X.prog X.w) X.A X.env X.xe) : ∀ (s : LS) {st : Stmt}, chkS G L s st = true → PDS X st (wS G c s)
  | .asg t e, st, h => by
    obtain ⟨ts, v, p, rfl, q⟩ := onSAssign_eq h
    obtain ⟨tg, rfl, q1⟩ := lst_one q
    rw [Bool.and_eq_true] at q1
    obtain ⟨q2, q3⟩ := q1
    cases t with
    | name i =>
      obtain ⟨x, p2, rfl, q4⟩ := onName_eq q2
      rw [Bool.and_eq_true] at q4
      exact s_asgN o q4.1 q4.2 q3
    | tup tt =>
      obtain ⟨es, j, p2, rfl, q4⟩ := onTuple_eq q2
      rw [Bool.and_eq_true, Bool.or_eq_true] at q4
      exact s_asgT o q4.1 q4.2 q3
  | .par is es, st, h => by
    obtain ⟨ts, v, p, rfl, q⟩ := onSAssign_eq h
    obtain ⟨tg, rfl, q1⟩ := lst_one q
    obtain ⟨xs, j, p2, rfl, q2⟩ := onTuple_eq q1
    obtain ⟨vs, j2, p3, rfl, q3⟩ := onTuple_eq q2
    rw [Bool.and_eq_true] at q3
    exact s_par o q3.1 q3.2
  | .sub a i e, st, h => by
    obtain ⟨ts, v, p, rfl, q⟩ := onSAssign_eq h
    obtain ⟨tg, rfl, q1⟩ := lst_one q
    obtain ⟨x, y, p2, rfl, q2⟩ := onSubscript_eq q1
    simp only [Bool.and_eq_true] at q2
    exact ps_subD (sE a o q2.2.1).1 (sE i o q2.2.2.1).1 (sE e o q2.2.2.2).1 sw_sub ss_sub rfl (assign_sub q2.1)
  | .ex e, st, h => by
    obtain ⟨v, p, rfl, q⟩ := onSExpr_eq h
    rw [Bool.and_eq_true] at q
    exact ps_exD (sE e o q.2).1 (sw_no q.1)
  | .ret e, st, h => by
    obtain ⟨v, p, rfl, q⟩ := onSReturn_eq h
    obtain ⟨x, rfl, q1⟩ := onSReturn_some q
    exact ps_retD (sE e o q1).1
  | .retN, st, h => by
    obtain ⟨v, p, rfl, q⟩ := onSReturn_eq h
    cases v with
    | some _ => cases q
    | none => exact ps_retND
  | .ite t a b, st, h => by
    obtain ⟨x, p1, p2, p, rfl, q⟩ := onSIf_eq h
    simp only [Bool.and_eq_true] at q
    exact ps_ifD (sB t o q.1).1 (sSs o hp a q.2.1) (sSs o hp b q.2.2)
  | .for_ t it body, st, h => by
    obtain ⟨tg, i, b, o', p, rfl, q⟩ := onSFor_eq h
    simp only [Bool.and_eq_true, List.isEmpty_iff] at q
    obtain ⟨rfl, q1, q2, q3⟩ := q
    exact ps_forD hp o.env.calm (sI it o q2) (sT o q1) (sSs o hp body q3) (fun x => folded_ok (chkI_set q2) x)
  | .whl t body, st, h => by
    obtain ⟨x, b, o', p, rfl, q⟩ := onSWhile_eq h
    simp only [Bool.and_eq_true, List.isEmpty_iff] at q
    obtain ⟨rfl, q1, q2⟩ := q
    exact ps_whileD hp (sB t o q1).1 (sSs o hp body q2)
  | .brk, st, h => by
    cases st <;> first | exact ps_brkD | cases h
  | .cont, st, h => by
    cases st <;> first | exact ps_contD | cases h
  | .pass, st, h => by
    cases st <;> first | exact ps_passD | cases h
  | .never, st, h => ps_neverD
  | .fld _ _ _, _, h => by cases h
  | .aug _ _ _, _, h => by cases h
theorem sSs (o : OkX G c k L X) (hp : PassesOwn (model X.prog X.w) X.A X.env X.xe) : ∀ (s : LSs) {st : List Stmt}, chkSs G L s st = true → PDSs X st (wSs G c s)
  | .nil, [], h => pss_nilD
  | .cons s ss, x :: xs, h => by
    have h : (chkS G L s x && chkSs G L ss xs) = true := h
    rw [Bool.and_eq_true] at h
    have q : PDSs X (x :: xs) (fun Kd ρ S => wS G c s { Kd with nx := wSs G c ss Kd } ρ S) := pss_consD (sS o hp s h.1) (sSs o hp ss h.2)
    exact q
  | .nil, _ :: _, h => by cases h
  | .cons _ _, [], h => by cases h
end
end
end Lt

set_option Elab.async false
set_option linter.all false
set_option maxRecDepth 100000
set_option maxHeartbeats 4000000
namespace Lt
open PySem PySem.Spec PyProof.Rows L2

/-! ## a program: rows -/
structure Row where
  name : Str
  ps : List Str
  N : List Str
  body : LSs
  args : Arguments
  stmts : List Stmt
  scope : Scope
def startD (N : List Str) (ds : List D) : Env := ds.map some ++ List.replicate (N.length - ds.length) none
theorem start_rel {K : PySem.W.Frag} {H : Hp} {N : List Str} {ds : List D} {vs : List V} (r : RelDs K H ds vs) : RelEnv K H (L2.start N vs) (startD N ds) := by
  refine ⟨?_, fun i d e => ?_⟩
  · unfold L2.start startD
    rw [List.length_append, List.length_append, List.length_map, List.length_map, List.length_replicate, List.length_replicate, r.length]
    exact Nat.le_refl _
  · unfold startD at e
    by_cases h : i < ds.length
    · rw [List.getElem?_append_left (by rw [List.length_map]; exact h), List.getElem?_map] at e
      cases q : ds[i]? with
      | none => rw [q] at e; cases e
      | some d' =>
        rw [q] at e
        cases e
        obtain ⟨v, h1, h2⟩ := r.get q
        refine ⟨v, ?_, h2⟩
        unfold L2.start
        rw [List.getElem?_append_left (by rw [List.length_map, r.length]; exact h), List.getElem?_map, h1] <;> rfl
    · rw [List.getElem?_append_right (by rw [List.length_map]; omega), List.getElem?_replicate] at e
      split at e <;> cases e
def rowC (G : Glob) (r : Row) : Bool := C8.scC r.N r.ps r.scope && chkSs G ⟨r.N, r.scope, r.scope⟩ r.body r.stmts
/-- the meaning of a def's call -/
def rowD (G : Glob) (c : Calls) (r : Row) : List D → Sto → Kt → Prop := fun ds S Kd => ds.length = r.ps.length ∧ wSs G c r.body { nx := fun _ S' => Kd .non S', rt := Kd } (startD r.N ds) S
section
variable {P : Program} {w : World} {K : PySem.W.Frag} {mg : Str → Option Value} {base : Heap}
theorem row_ok {G : Glob} {c : Calls} {k : Nat} {r : Row} {f : Addr} {fd : FuncData} (F : FunD K r.name r.name r.args r.stmts r.scope [] [] f fd) (h : rowC G r = true)
    (E : ∀ (cdv : Value) (A : Around) (outer : List PySem.Env) (s : Shared) (H : Hp) (E : XK), Room k (A.deeper (envOfC r.name r.scope s.heap.objs.size f cdv)) → Env1 G c k (cxOf CX0 P w K mg base r.N r.name r.scope f cdv A outer s H E).nox) :
    FnOk P w K mg base CX0 (k + 1) f fd r.ps (liftSp K (rowD G c r)) := by
  unfold rowC at h
  rw [Bool.and_eq_true] at h
  refine F.ok (C8.fnScope_by h.1) (fun vs H Q E ⟨ds, S, Kd, rd, _, h, _⟩ => by rw [rd.length]; exact h.1) fun cdv A outer s H vs Q Ex hr ⟨ds, S, Kd, rd, hs, hd, hp⟩ => ⟨LiftS K (wSs G c r.body), PSs.nox ?_, ?_⟩
  · have o : OkX G c k ⟨r.N, r.scope, r.scope⟩ (cxOf CX0 P w K mg base r.N r.name r.scope f cdv A outer s H Ex).nox := ⟨E cdv A outer s H Ex hr, rfl, rfl, fun x hx => ⟨loc_of hx, .inl rfl⟩⟩
    exact sSs o PassesOwn.never r.body h.2
  · exact ⟨startD r.N ds, S, _, start_rel rd, hs, hd.2, ⟨fun ρ S' σ H' g k e r rel => hp .non S' .non H' g k e r rfl, hp, fun ρ S' σ H' g _ _ _ _ => g.elim, fun ρ S' σ H' g _ _ _ _ => g.elim⟩⟩
abbrev Nat' := Str → Option (List D → Sto → Kt → Prop)
def lvl (G : Glob) (T : List Row) (nat : Nat') : Nat → Calls
  | 0 => ⟨fun _ _ _ _ => False, fun _ _ _ _ _ => False, fun _ _ _ _ => False⟩
  | n + 1 => ⟨fun f => match nat f with
    | some g => g
    | none => match T.find? (fun r => r.name == f) with
      | some r => rowD G (lvl G T nat n) r
      | none => fun _ _ _ => False, fun _ _ _ _ _ => False, fun _ _ _ _ => False⟩
structure FOk (G : Glob) (K : PySem.W.Frag) (mg : Str → Option Value) (r : Row) : Prop where
  mg : mg r.name = some (.ref (He.ga K r.name))
  ex : ∃ fd, FunD K r.name r.name r.args r.stmts r.scope [] [] (He.ga K r.name) fd ∧ Binds K fd r.ps [] ∧ ∀ n ks, (r.name, n, ks) ∈ G.kws → KBn K fd r.ps n ks (fun us ws => us ++ kwOrd r.ps n ks ws) (fun vs zs => vs ++ kwOrd r.ps n ks zs)
structure POk (G : Glob) (T : List Row) (nat : Nat') (P : Program) (w : World) (K : PySem.W.Frag) (mg : Str → Option Value) (base : Heap) : Prop where
  rows : ∀ r ∈ T, FOk G K mg r
  chk : ∀ r ∈ T, nat r.name = none → rowC G r = true
  fns : ∀ f ∈ G.fns, ∃ r, T.find? (fun r => r.name == f) = some r ∧ G.pars f = r.ps
  free : ∀ x ∈ G.free, mg x = none
  con : ∀ x, G.con x = none
  cls : G.classes = []
  meth : G.meths = []
  mks : G.mks = []
  nat : ∀ r ∈ T, ∀ g, nat r.name = some g → ∀ fd, FunD K r.name r.name r.args r.stmts r.scope [] [] (He.ga K r.name) fd → ∀ n, FnOk P w K mg base CX0 (n + 1) (He.ga K r.name) fd r.ps (liftSp K g)
theorem lvl_ok {G : Glob} {T : List Row} {nat : Nat'} (O : POk G T nat P w K mg base) : ∀ (n : Nat) (f : Str) (r : Row), T.find? (fun r => r.name == f) = some r →
    mg f = some (.ref (He.ga K f)) ∧ PySem.W.keepIn K (.ref (He.ga K f)) = true ∧ ∃ fd, FnOk P w K mg base CX0 n (He.ga K f) fd r.ps (liftSp K ((lvl G T nat n).fn f)) ∧ Binds K fd r.ps [] ∧
      ∀ m ks, (f, m, ks) ∈ G.kws → KBn K fd r.ps m ks (fun us ws => us ++ kwOrd r.ps m ks ws) (fun vs zs => vs ++ kwOrd r.ps m ks zs) := by
  intro n
  induction n with
  | zero =>
    intro f r hr
    have hn : r.name = f := by simpa using List.find?_some hr
    subst hn
    have hm := List.mem_of_find?_eq_some hr
    obtain ⟨fd, F, b, kw⟩ := (O.rows r hm).ex
    exact ⟨(O.rows r hm).mg, F.kp, fd, ⟨fun vs H Q E ⟨_, _, _, _, _, h, _⟩ => h.elim, fun A outer s H args us vs Q E _ _ _ _ ⟨_, _, _, _, _, h, _⟩ => h.elim⟩, b, kw⟩
  | succ n ih =>
    intro f r hr
    have hn : r.name = f := by simpa using List.find?_some hr
    subst hn
    have hm := List.mem_of_find?_eq_some hr
    obtain ⟨fd, F, b, kw⟩ := (O.rows r hm).ex
    refine ⟨(O.rows r hm).mg, F.kp, fd, ?_, b, kw⟩
    cases hq : nat r.name with
    | some g =>
      have e : (lvl G T nat (n + 1)).fn r.name = g := by
        show (match nat r.name with
          | some g => g
          | none => _) = g
        rw [hq]
      rw [e]
      exact O.nat r hm g hq fd F n
    | none =>
      have e : (lvl G T nat (n + 1)).fn r.name = rowD G (lvl G T nat n) r := by
        show (match nat r.name with
          | some g => g
          | none => match T.find? (fun (q : Row) => q.name == r.name) with
            | some r => rowD G (lvl G T nat n) r
            | none => fun _ _ _ => False) = _
        rw [hq, hr]
      rw [e]
      refine row_ok F (O.chk r hm hq) fun cdv A outer s H E hr' => ⟨rfl, ?_, hr', O.free, fun x d h => (by rw [O.con] at h; cases h), fun f hf => ?_, fun cn h => (by rw [O.cls] at h; cases h), fun cn m h => (by rw [O.meth] at h; cases h), fun cn h => (by rw [O.mks] at h; cases h)⟩
      · have q := O.chk r hm hq
        unfold rowC at q
        rw [Bool.and_eq_true] at q
        exact (C8.fnScope_by q.1).nd
      · obtain ⟨r', h1, h2⟩ := O.fns f hf
        obtain ⟨m1, m2, fd', m3, m4, m5⟩ := ih f r' h1
        rw [h2]
        exact ⟨m1, m2, fd', m3, m4, m5⟩
end
end Lt

set_option Elab.async false
set_option linter.all false
set_option maxRecDepth 100000
set_option maxHeartbeats 4000000
namespace Lt
open PySem PySem.Spec PyProof.Rows L2

/-! ## the law's deal -/
def opn (S : Sto) (a b : Addr) (m : Int) (ns : List Int) : Sto := fun x => if x = a then some (.lst [.ref b, .int m]) else if x = b then some (.lst (ns.map D.int)) else S x
theorem opn_a {S : Sto} {a b : Addr} {m : Int} {ns : List Int} : opn S a b m ns a = some (.lst [.ref b, .int m]) := if_pos rfl
theorem opn_b {S : Sto} {a b : Addr} {m : Int} {ns : List Int} (h : a ≠ b) : opn S a b m ns b = some (.lst (ns.map D.int)) := by
  unfold opn
  rw [if_neg (Ne.symm h), if_pos rfl]
theorem opn_o {S : Sto} {a b x : Addr} {m : Int} {ns : List Int} (h1 : x ≠ a) (h2 : x ≠ b) : opn S a b m ns x = S x := by
  unfold opn
  rw [if_neg h1, if_neg h2]
theorem opn_setb {S : Sto} {a b : Addr} {m : Int} {ns ns' : List Int} (h : a ≠ b) : sup (opn S a b m ns) b (.lst (ns'.map D.int)) = opn S a b m ns' := by
  funext x
  unfold sup opn
  by_cases h1 : x = b
  · rw [if_pos h1, if_neg (by rw [h1]; exact Ne.symm h), if_pos h1]
  · rw [if_neg h1]
    by_cases h2 : x = a
    · rw [if_pos h2, if_pos h2]
    · rw [if_neg h2, if_neg h2, if_neg h1, if_neg h1]
theorem opn_seta {S : Sto} {a b : Addr} {m m' : Int} {ns : List Int} : sup (opn S a b m ns) a (.lst [.ref b, .int m']) = opn S a b m' ns := by
  funext x
  unfold sup opn
  by_cases h2 : x = a
  · rw [if_pos h2, if_pos h2]
  · rw [if_neg h2, if_neg h2, if_neg h2]
def CellsOk (m : Int) (ns : List Int) : Prop := (0 ≤ m ∧ m < 2147483647) ∧ ns.length ≤ 1000 ∧ ∀ n ∈ ns, 0 ≤ n ∧ n < 2 ^ 1300
theorem ints_rel {K : PySem.W.Frag} {H : Hp} {ns : List Int} {vs : List V} (r : RelDs K H (ns.map D.int) vs) : vs = ns.map V.int := RelDs.ofInts r
theorem RS.opened {K : PySem.W.Frag} {H : Hp} {S : Sto} {a : Addr} (h : RS K H S) (ha : S a = some .deal) : ∃ b m ns, a ≠ b ∧ S b = none ∧ CellsOk m ns ∧ RS K H (opn S a b m ns) := by
  obtain ⟨hid, q1, q2⟩ := h.hid
  obtain ⟨⟨m, ns, d1, d2, d3, d4, d5, d6⟩, q3⟩ := q1 a ha
  refine ⟨hid a, m, ns, d6, q3, ⟨d3, d4, d5⟩, fun x c e => ?_, hid, fun x e => ?_, fun x y ex ey hxy => ?_⟩
  · by_cases h1 : x = a
    · subst h1
      rw [opn_a] at e
      cases e
      exact ⟨_, d1, ⟨_, _, rfl, rfl, _, _, rfl, rfl, rfl⟩, by show 2 ≤ sizeLine; decide⟩
    · by_cases h2 : x = hid a
      · subst h2
        rw [opn_b d6] at e
        cases e
        exact ⟨_, d2, RelDs.ints, by rw [List.length_map]; exact Nat.le_trans d4 (by decide)⟩
      · rw [opn_o h1 h2] at e
        exact h.ok x c e
  · have h1 : x ≠ a := fun z => by rw [z, opn_a] at e; cases e
    have h2 : x ≠ hid a := fun z => by rw [z, opn_b d6] at e; cases e
    rw [opn_o h1 h2] at e
    obtain ⟨q4, q5⟩ := q1 x e
    have h3 : hid x ≠ a := fun z => by rw [z, ha] at q5; cases q5
    have h4 : hid x ≠ hid a := fun z => h1 (q2 x a e ha z)
    exact ⟨q4, by rw [opn_o h3 h4]; exact q5⟩
  · have h1 : x ≠ a := fun z => by rw [z, opn_a] at ex; cases ex
    have h2 : x ≠ hid a := fun z => by rw [z, opn_b d6] at ex; cases ex
    have h3 : y ≠ a := fun z => by rw [z, opn_a] at ey; cases ey
    have h4 : y ≠ hid a := fun z => by rw [z, opn_b d6] at ey; cases ey
    rw [opn_o h1 h2] at ex
    rw [opn_o h3 h4] at ey
    exact q2 x y ex ey hxy
/-- the cells are hidden again -/
theorem RS.sealed {K : PySem.W.Frag} {H : Hp} {S T : Sto} {a b : Addr} {m : Int} {ns : List Int} (h : RS K H T) (hab : a ≠ b) (Ta : T a = some (.lst [.ref b, .int m])) (Tb : T b = some (.lst (ns.map D.int))) (ok : CellsOk m ns)
    (hS : ∀ x, x ≠ a → x ≠ b → S x = T x) (Sa : S a = some .deal) (Sb : S b = none) : RS K H S := by
  obtain ⟨hid, q1, q2⟩ := h.hid
  obtain ⟨xs, x1, x2, _⟩ := h.ok _ _ Ta
  obtain ⟨ys, y1, y2, _⟩ := h.ok _ _ Tb
  have ey : ys = ns.map V.int := ints_rel y2
  have ex : xs = [.ref b, .int m] := by
    obtain ⟨v, u, rfl, r1, r2⟩ := x2.two
    cases r1
    cases r2
    rfl
  subst ex ey
  have old : ∀ x, x ≠ a → S x = some .deal → T x = some .deal := fun x hx e => by
    have hb : x ≠ b := fun z => by rw [z, Sb] at e; cases e
    rw [← hS x hx hb]; exact e
  refine ⟨fun x c e => ?_, fun x => if x = a then b else hid x, fun x e => ?_, fun x y ex ey hxy => ?_⟩
  · by_cases h1 : x = a
    · subst h1
      rw [Sa] at e
      cases e
      show H x ≠ none
      rw [x1]; simp
    · by_cases h2 : x = b
      · subst h2
        rw [Sb] at e; cases e
      · rw [hS x h1 h2] at e
        exact h.ok x c e
  · show DealAt H x (if x = a then b else hid x) ∧ S (if x = a then b else hid x) = none
    by_cases h1 : x = a
    · rw [if_pos h1]
      subst h1
      exact ⟨⟨m, ns, x1, y1, ok.1, ok.2.1, ok.2.2, hab⟩, Sb⟩
    · rw [if_neg h1]
      obtain ⟨q3, q4⟩ := q1 x (old x h1 e)
      have h3 : hid x ≠ a := fun z => by rw [z, Ta] at q4; cases q4
      have h4 : hid x ≠ b := fun z => by rw [z, Tb] at q4; cases q4
      exact ⟨q3, by rw [hS _ h3 h4]; exact q4⟩
  · have nb : ∀ x, x ≠ a → S x = some .deal → hid x ≠ b := fun x hx e z => by
      have q4 := (q1 x (old x hx e)).2
      rw [z, Tb] at q4; cases q4
    have hxy : (if x = a then b else hid x) = (if y = a then b else hid y) := hxy
    by_cases h1 : x = a
    · by_cases h2 : y = a
      · rw [h1, h2]
      · rw [if_pos h1, if_neg h2] at hxy
        exact absurd hxy.symm (nb y h2 ey)
    · by_cases h2 : y = a
      · rw [if_neg h1, if_pos h2] at hxy
        exact absurd hxy (nb x h1 ex)
      · rw [if_neg h1, if_neg h2] at hxy
        exact q2 x y (old x h1 ex) (old y h2 ey) hxy
def gAny : List D → Sto → Kt → Prop := fun ds S K => ∃ a b, ds = [.ref a, .int b] ∧ S a = some .deal ∧ (0 < b ∧ b < 2 ^ 1000) ∧ ∀ r, 0 ≤ r → r < b → K (.int r) S
def anyB : LSs := (.cons (.whl (.and (.val (.cmp .gt (.bcall .len (.cons (.idx (.var 0) (.int 0)) .nil)) (.int 0))) (.last (.val (.cmp .eq (.idx (.idx (.var 0) (.int 0)) (.neg (.int 1))) (.int 0)))))
      (.cons (.ex (.bm .pop (.idx (.var 0) (.int 0)) .nil)) .nil)) (.cons (.ite (.val (.cmp .gt (.bcall .len (.cons (.idx (.var 0) (.int 0)) .nil)) (.int 0)))
      (.cons (.asg (.name 2) (.bcall .int (.cons (.bm .pop (.idx (.var 0) (.int 0)) .nil) .nil))) (.cons (.ex (.bm .append (.idx (.var 0) (.int 0)) (.cons (.bin .fdiv (.var 2) (.var 1)) .nil))) (.cons (.ret (.bin .mod (.var 2) (.var 1))) .nil)))
      .nil) (.cons (.sub (.var 0) (.int 1) (.bin .mod (.bcall .int (.cons (.bin .add (.bin .mul (.idx (.var 0) (.int 1)) (.int 48271)) (.int 37)) .nil)) (.int 2147483647))) (.cons (.ret (.bin .mod (.bcall .int (.cons (.bin .fdiv (.idx (.var 0) (.int 1)) (.int 64)) .nil)) (.var 1))) .nil))))
/-! ## loops over data -/
theorem whl_ind {C : DT} {B : DS} {Kd : DEnds} (I : Nat → Env → Sto → Prop) (h : ∀ n ρ S (N : Env → Sto → Prop), I n ρ S → (∀ k ρ' S', k < n → I k ρ' S' → N ρ' S') → C ρ S fun b S1 => if b = true then B { nx := N, ct := N, bk := Kd.nx, rt := Kd.rt } ρ S1 else Kd.nx ρ S1) :
    ∀ f n ρ S, n < f → I n ρ S → whlGo C B f Kd ρ S := by
  intro f
  induction f with
  | zero => intro n ρ S hn; omega
  | succ f ih => intro n ρ S hn hI; exact h n ρ S (whlGo C B f Kd) hI fun k ρ' S' hk hI' => ih k ρ' S' (by omega) hI'
theorem for_ind {bnd : D → Env → Option Env} {B : DS} {st : Sto → Prop} {Kd : DEnds} (I : List D → Env → Sto → Prop)
    (h : ∀ d ds ρ S (N : Env → Sto → Prop), I (d :: ds) ρ S → (∀ ρ' S', I ds ρ' S' → N ρ' S') → st S ∧ match bnd d ρ with
      | some ρ1 => B { nx := N, ct := N, bk := Kd.nx, rt := Kd.rt } ρ1 S
      | none => False) (h0 : ∀ ρ S, I [] ρ S → st S ∧ Kd.nx ρ S) : ∀ ds ρ S, I ds ρ S → forGo bnd B st ds Kd ρ S := by
  intro ds
  induction ds with
  | nil => intro ρ S hI; exact h0 ρ S hI
  | cons d ds ih => intro ρ S hI; exact h d ds ρ S (forGo bnd B st ds Kd) hI ih
theorem comp_ind {bnd : D → Env → Option Env} {tst : DT} {elt : DE} {ρ : Env} {st : Sto → Prop} {p : Addr} {K : Kt} (I : List D → Sto → Prop)
    (h : ∀ d ds S (N : Sto → Prop), I (d :: ds) S → (∀ S', I ds S' → N S') → st S ∧ match bnd d ρ with
      | some ρ1 => tst ρ1 S fun b S1 => if b = true then elt ρ1 S1 fun y S2 => (match S2 p with
          | some (.lst acc) => acc.length < sizeLine ∧ N (sup S2 p (.lst (acc ++ [y])))
          | _ => False) else N S1
      | none => False) (h0 : ∀ S, I [] S → st S ∧ K (.ref p) S) : ∀ ds S, I ds S → compGo bnd tst elt ρ st p ds S K := by
  intro ds
  induction ds with
  | nil => intro S hI; exact h0 S hI
  | cons d ds ih => intro S hI; exact h d ds S (fun S => compGo bnd tst elt ρ st p ds S K) hI ih

/-! ## rules of rewriting -/
theorem bind_name {i : Nat} {d : D} {ρ : Env} : LT.bind (.name i) d ρ = some (putR ρ i d) := rfl
theorem bind_tup {ts : LTs} {ds : List D} {ρ : Env} : LT.bind (.tup ts) (.tup ds) ρ = LTs.bind ts ds ρ := rfl
theorem binds_nil {ρ : Env} : LTs.bind .nil [] ρ = some ρ := rfl
theorem binds_cons {t : LT} {ts : LTs} {d : D} {ds : List D} {ρ : Env} : LTs.bind (.cons t ts) (d :: ds) ρ = match LT.bind t d ρ with
  | some ρ1 => LTs.bind ts ds ρ1
  | none => none := rfl
def mAt {α : Type} (o : Option α) (f : α → Prop) : Prop := match o with
  | some x => f x
  | none => False
def mL (o : Option C) (f : List D → Prop) : Prop := match o with
  | some (.lst ds) => f ds
  | _ => False
def mRT (o : Option C) : Option RT := match o with
  | some (.lst _) => some .list
  | some (.dic _) => some .dict
  | some (.dit _) => some .dict
  | _ => none
def mKD (o : Option C) : Option KD := match o with
  | some (.lst _) => some .lst
  | some (.dic _) => some .dict
  | some (.dit _) => some .dict
  | some (.ins cn _) => some (.ins cn)
  | _ => none
section
variable {α : Type} {S : Sto} {K : Kt} {Kb : Bool → Prop} {ds es : List D} {a b : Addr} {i j : Int} {d x y : D} {f : α → Prop} {g : List D → Prop} {p q : Bool} {z : Str} {KW : List D → (Sto → Prop) → Sto → Prop} {o o' : Option Int}
theorem mAt_some {u : α} : mAt (some u) f = f u := rfl
theorem mL_lst : mL (some (.lst ds)) g = g ds := rfl
theorem mRT_lst : mRT (some (.lst ds)) = some .list := rfl
theorem mKD_lst : mKD (some (.lst ds)) = some .lst := rfl
theorem ix_tupE : idxD (.tup ds) (.int i) S K = mAt (atI ds i) fun d => K d S := by
  show (match atI ds i with
    | some d => K d S
    | none => False) = _
  cases atI ds i <;> rfl
theorem ix_rlE : idxD (.rl ds) (.int i) S K = mAt (atI ds i) fun d => K d S := by
  show (match atI ds i with
    | some d => K d S
    | none => False) = _
  cases atI ds i <;> rfl
theorem ix_refE : idxD (.ref a) (.int i) S K = mL (S a) fun ds => mAt (atI ds i) fun d => K d S := by
  show (match S a with
    | some (.lst ds) => (match atI ds i with
      | some d => K d S
      | none => False)
    | _ => False) = _
  cases S a with
  | none => rfl
  | some c =>
    cases c <;> first | rfl | skip
    rename_i ds
    show (match atI ds i with
      | some d => K d S
      | none => False) = mAt (atI ds i) _
    cases atI ds i <;> rfl
theorem gt_int : cmpD .gt (.int i) (.int j) S K = K (.bl (decide (j < i))) S := rfl
theorem lt_int : cmpD .lt (.int i) (.int j) S K = K (.bl (decide (i < j))) S := rfl
theorem le_int : cmpD .le (.int i) (.int j) S K = K (.bl (decide (i ≤ j))) S := rfl
theorem ge_int : cmpD .ge (.int i) (.int j) S K = K (.bl (decide (j ≤ i))) S := rfl
theorem eq_int : cmpD .eq (.int i) (.int j) S K = K (.bl (decide (i = j))) S := rfl
theorem ne_int : cmpD .ne (.int i) (.int j) S K = K (.bl (!decide (i = j))) S := rfl
theorem eq_bl : cmpD .eq (.bl p) (.bl q) S K = K (.bl (decide (p = q))) S := rfl
theorem eq_str {z u : Str} : cmpD .eq (.str z) (.str u) S K = K (.bl (decide (z = u))) S := rfl
theorem is_non : cmpD .is_ x .non S K = K (.bl (isNonD x)) S := by cases x <;> rfl
theorem is_bl' : cmpD .is_ x (.bl p) S K = K (.bl (isBlD p x)) S := by cases x <;> rfl
theorem len_tup : bltD .len [.tup ds] S K = K (.int ds.length) S := rfl
theorem len_rl : bltD .len [.rl ds] S K = K (.int ds.length) S := rfl
theorem len_ref : bltD .len [.ref a] S K = mL (S a) fun ds => K (.int ds.length) S := by
  show (match S a with
    | some (.lst ds) => K (.int ds.length) S
    | _ => False) = _
  cases S a with
  | none => rfl
  | some c => cases c <;> rfl
theorem tup_tup : bltD .tuple [.tup ds] S K = K (.tup ds) S := rfl
theorem tup_ref : bltD .tuple [.ref a] S K = mL (S a) fun ds => K (.tup ds) S := by
  show (match S a with
    | some (.lst ds) => K (.tup ds) S
    | _ => False) = _
  cases S a with
  | none => rfl
  | some c => cases c <;> rfl
theorem int_int : bltD .int [.int i] S K = K (.int i) S := rfl
theorem abs_int : bltD .abs [.int i] S K = K (.int (if i < 0 then -i else i)) S := rfl
theorem rcv_ref : rcvT (.ref a) S = mRT (S a) := by
  show (match S a with
    | some (.lst _) => some RT.list
    | some (.dic _) => some RT.dict
    | some (.dit _) => some RT.dict
    | _ => none) = _
  cases S a with
  | none => rfl
  | some c => cases c <;> rfl
theorem rcv_tup : rcvT (.tup ds) S = some .tuple := rfl
theorem bm_app : bmD .list .append (.ref a) [d] S K = mL (S a) fun ds => ds.length < sizeLine ∧ K .non (sup S a (.lst (ds ++ [d]))) := by
  show (match S a with
    | some (.lst ds) => ds.length < sizeLine ∧ K .non (sup S a (.lst (ds ++ [d])))
    | _ => False) = _
  cases S a with
  | none => rfl
  | some c => cases c <;> rfl
theorem bm_pop : bmD .list .pop (.ref a) [] S K = mL (S a) fun ds => mAt ds.getLast? fun d => K d (sup S a (.lst ds.dropLast)) := by
  show (match S a with
    | some (.lst ds) => (match ds.getLast? with
      | some d => K d (sup S a (.lst ds.dropLast))
      | none => False)
    | _ => False) = _
  cases S a with
  | none => rfl
  | some c =>
    cases c <;> first | rfl | skip
    rename_i ds
    show (match ds.getLast? with
      | some d => K d (sup S a (.lst ds.dropLast))
      | none => False) = mAt ds.getLast? _
    cases ds.getLast? <;> rfl
theorem bm_cnt : bmD .tuple .count (.tup ds) [.int i] S K = mAt (ints? ds) fun ns => K (.int (ns.count i)) S := by
  show (match ints? ds with
    | some ns => K (.int (ns.count i)) S
    | none => False) = _
  cases ints? ds <;> rfl
theorem hm_app : (hasM .list .append = true) = True := by simp [hasM]
theorem hm_pop : (hasM .list .pop = true) = True := by simp [hasM]
theorem hm_cnt : (hasM .tuple .count = true) = True := by simp [hasM]
theorem add_int : binD .add (.int i) (.int j) S K = K (.int (i + j)) S := rfl
theorem add_tup : binD .add (.tup ds) (.tup es) S K = (ds.length + es.length ≤ sizeLine ∧ K (.tup (ds ++ es)) S) := rfl
theorem add_ref : binD .add (.ref a) (.ref b) S K = mL (S a) fun ds => mL (S b) fun es => ds.length + es.length ≤ sizeLine ∧ newL (ds ++ es) S K := by
  show (match S a, S b with
    | some (.lst ds), some (.lst es) => ds.length + es.length ≤ sizeLine ∧ newL (ds ++ es) S K
    | _, _ => False) = _
  cases S a with
  | none => rfl
  | some c =>
    cases c <;> first | rfl | skip
    cases S b with
    | none => rfl
    | some c => cases c <;> rfl
theorem sub_int : binD .sub (.int i) (.int j) S K = K (.int (i - j)) S := rfl
theorem mul_int : binD .mul (.int i) (.int j) S K = (CMulW i j ∧ K (.int (i * j)) S) := rfl
theorem mul_tup : binD .mul (.tup ds) (.int i) S K = ((-1000000000 ≤ i ∧ i ≤ 1000000000 ∧ ds.length * i.toNat ≤ 1000000) ∧ K (.tup (List.replicate i.toNat ds).flatten) S) := rfl
theorem fdiv_int : binD .fdiv (.int i) (.int j) S K = (CDivW i j ∧ K (.int (i / j)) S) := rfl
theorem mod_int : binD .mod (.int i) (.int j) S K = (0 < j ∧ K (.int (i % j)) S) := rfl
theorem pow_int : binD .pow (.int i) (.int j) S K = (CPow i j ∧ K (.int (i ^ j.toNat)) S) := rfl
theorem slc_tup : slcD (.tup ds) o o' S K = K (.tup (cutD ds o o')) S := rfl
theorem slc_rl : slcD (.rl ds) o o' S K = newL (cutD ds o o') S K := rfl
theorem slc_ref : slcD (.ref a) o o' S K = mL (S a) fun ds => newL (cutD ds o o') S K := by
  show (match S a with
    | some (.lst ds) => newL (cutD ds o o') S K
    | _ => False) = _
  cases S a with
  | none => rfl
  | some c => cases c <;> rfl
theorem rev_tup : revD (.tup ds) S K = K (.tup ds.reverse) S := rfl
theorem rev_ref : revD (.ref a) S K = mL (S a) fun ds => newL ds.reverse S K := by
  show (match S a with
    | some (.lst ds) => newL ds.reverse S K
    | _ => False) = _
  cases S a with
  | none => rfl
  | some c => cases c <;> rfl
theorem tru_bl : truD (.bl p) S Kb = Kb p := rfl
theorem tru_int : truD (.int i) S Kb = Kb (i != 0) := rfl
theorem tru_tup : truD (.tup ds) S Kb = Kb (!ds.isEmpty) := rfl
theorem knd_int : knd (.int i) S = some .int := rfl
theorem knd_bl : knd (.bl p) S = some .bool := rfl
theorem knd_non : knd .non S = some .non := rfl
theorem knd_str : knd (.str z) S = some .str := rfl
theorem knd_tup : knd (.tup ds) S = some .tup := rfl
theorem knd_ref : knd (.ref a) S = mKD (S a) := by
  show (match S a with
    | some (.lst _) => some KD.lst
    | some (.dic _) => some KD.dict
    | some (.dit _) => some KD.dict
    | some (.ins cn _) => some (KD.ins cn)
    | _ => none) = _
  cases S a with
  | none => rfl
  | some c => cases c <;> rfl
theorem wk_tup : walkD (.tup ds) S KW = KW ds (fun _ => True) S := rfl
theorem wk_rl : walkD (.rl ds) S KW = KW ds (fun _ => True) S := rfl
theorem wk_ref : walkD (.ref a) S KW = mL (S a) fun ds => KW ds (Stay a ds) S := by
  show (match S a with
    | some (.lst ds) => KW ds (Stay a ds) S
    | _ => False) = _
  cases S a with
  | none => rfl
  | some c => cases c <;> rfl
theorem at0 {u : α} {l : List α} : atI (u :: l) 0 = some u := by
  unfold atI ixN
  rw [if_pos (by omega), if_pos (by rw [List.length_cons]; omega)]
  rfl
theorem at1 {u v : α} {l : List α} : atI (u :: v :: l) 1 = some v := by
  unfold atI ixN
  rw [if_pos (by omega), if_pos (by rw [List.length_cons, List.length_cons]; omega)]
  rfl
theorem atm {u : α} {l : List α} : atI (l ++ [u]) (-1) = some u := by
  unfold atI ixN
  rw [if_neg (by omega), if_pos (by rw [List.length_append, List.length_singleton]; omega)]
  have e : (-1 + ((l ++ [u]).length : Int)).toNat = l.length := by rw [List.length_append, List.length_singleton]; omega
  rw [e]
  show (l ++ [u])[l.length]? = some u
  simp
theorem pair_ok : ([x, y] : List D).length ≤ sizeLine := by show 2 ≤ sizeLine; decide
end
theorem any_run {G : Glob} {c : Calls} {S : Sto} {a b : Addr} {bd m : Int} {ns : List Int} {K : Kt} (hab : a ≠ b) (hb : 0 < bd ∧ bd < 2 ^ 1000) (ok : CellsOk m ns)
    (h : ∀ r m' ns', 0 ≤ r → r < bd → CellsOk m' ns' → K (.int r) (opn S a b m' ns')) : wSs G c anyB { nx := fun _ S' => K .non S', rt := K } [some (.ref a), some (.int bd), none] (opn S a b m ns) := by
  unfold anyB
  simp only [wSs, wS, wE, wB, wEs, wO, wBO, wI, bind_name, bind_tup, binds_nil, binds_cons, pars, putR, List.getElem?_cons_zero, List.getElem?_cons_succ, List.set_cons_zero, List.set_cons_succ]
  refine ⟨ns.length + 1, whl_ind (fun n ρ T => ∃ ns', n = ns'.length ∧ CellsOk m ns' ∧ ρ = [some (.ref a), some (.int bd), none] ∧ T = opn S a b m ns') ?_ _ _ _ _ (Nat.lt_succ_self _) ⟨ns, rfl, ok, rfl, rfl⟩⟩
  rintro n ρ T N ⟨ns', rfl, ok', rfl, rfl⟩ hN
  rcases List.eq_nil_or_concat ns' with rfl | ⟨ns1, x, rfl⟩
  · simp only [mAt_some, mL_lst, mRT_lst, mKD_lst, ix_tupE, ix_rlE, ix_refE, gt_int, lt_int, le_int, ge_int, eq_int, ne_int, eq_bl, eq_str, is_non, is_bl', len_tup, len_rl, len_ref, tup_tup, tup_ref, int_int, abs_int, rcv_ref, rcv_tup, bm_app, bm_pop, bm_cnt, hm_app, hm_pop, hm_cnt, add_int, add_tup, add_ref, sub_int, mul_int, mul_tup, fdiv_int, mod_int, pow_int, slc_tup, slc_rl, slc_ref, rev_tup, rev_ref, tru_bl, tru_int, tru_tup, knd_int, knd_bl, knd_non, knd_str, knd_tup, knd_ref, wk_tup, wk_rl, wk_ref, at0, at1, atm, true_and, and_true, sup_same, if_true, if_false, Bool.false_eq_true, reduceIte, List.getElem?_cons_zero, List.getElem?_cons_succ, List.set_cons_zero, List.set_cons_succ, bind_name, bind_tup, binds_nil, binds_cons, pars, putR, opn_a, opn_b hab, List.map_nil, List.length_nil]
    rw [if_neg (by decide), if_neg (by decide)]
    obtain ⟨⟨m0, m1⟩, _⟩ := ok'
    refine ⟨wide_mul (a := 31) (b := 16) (by omega) (by decide) (by decide) (by decide) (by decide), by decide, ?_⟩
    simp only [mAt_some, mL_lst, mRT_lst, mKD_lst, ix_tupE, ix_rlE, ix_refE, gt_int, lt_int, le_int, ge_int, eq_int, ne_int, eq_bl, eq_str, is_non, is_bl', len_tup, len_rl, len_ref, tup_tup, tup_ref, int_int, abs_int, rcv_ref, rcv_tup, bm_app, bm_pop, bm_cnt, hm_app, hm_pop, hm_cnt, add_int, add_tup, add_ref, sub_int, mul_int, mul_tup, fdiv_int, mod_int, pow_int, slc_tup, slc_rl, slc_ref, rev_tup, rev_ref, tru_bl, tru_int, tru_tup, knd_int, knd_bl, knd_non, knd_str, knd_tup, knd_ref, wk_tup, wk_rl, wk_ref, at0, at1, atm, true_and, and_true, sup_same, if_true, if_false, Bool.false_eq_true, reduceIte, List.getElem?_cons_zero, List.getElem?_cons_succ, List.set_cons_zero, List.set_cons_succ, bind_name, bind_tup, binds_nil, binds_cons, pars, putR, show ixN [D.ref b, D.int m].length 1 = some 1 from rfl, opn_seta]
    refine ⟨wide_div (b := 7) (by decide) (by decide) (by decide) (by decide), hb.1, ?_⟩
    exact h _ _ [] (Int.emod_nonneg _ (by omega)) (Int.emod_lt_of_pos _ hb.1) ⟨⟨Int.emod_nonneg _ (by decide), Int.emod_lt_of_pos _ (by decide)⟩, Nat.zero_le _, fun _ h => by cases h⟩
  · have ok1 : CellsOk m ns1 := ⟨ok'.1, by have := ok'.2.1; rw [List.length_concat] at this; omega, fun n hn => ok'.2.2 n (by rw [List.concat_eq_append]; exact List.mem_append_left _ hn)⟩
    have hx := ok'.2.2 x (by rw [List.concat_eq_append]; simp)
    have hlen := ok'.2.1
    rw [List.length_concat] at hlen
    simp only [mAt_some, mL_lst, mRT_lst, mKD_lst, ix_tupE, ix_rlE, ix_refE, gt_int, lt_int, le_int, ge_int, eq_int, ne_int, eq_bl, eq_str, is_non, is_bl', len_tup, len_rl, len_ref, tup_tup, tup_ref, int_int, abs_int, rcv_ref, rcv_tup, bm_app, bm_pop, bm_cnt, hm_app, hm_pop, hm_cnt, add_int, add_tup, add_ref, sub_int, mul_int, mul_tup, fdiv_int, mod_int, pow_int, slc_tup, slc_rl, slc_ref, rev_tup, rev_ref, tru_bl, tru_int, tru_tup, knd_int, knd_bl, knd_non, knd_str, knd_tup, knd_ref, wk_tup, wk_rl, wk_ref, at0, at1, atm, true_and, and_true, sup_same, if_true, if_false, Bool.false_eq_true, reduceIte, List.getElem?_cons_zero, List.getElem?_cons_succ, List.set_cons_zero, List.set_cons_succ, bind_name, bind_tup, binds_nil, binds_cons, pars, putR, opn_a, opn_b hab, List.concat_eq_append, List.map_append, List.map_cons, List.map_nil, List.getLast?_concat, List.dropLast_concat, opn_setb hab]
    have e0 : decide (0 < ((List.map D.int ns1 ++ [D.int x]).length : Int)) = true := decide_eq_true (by rw [List.length_append, List.length_singleton]; omega)
    rw [e0, if_pos rfl]
    by_cases hx0 : x = 0
    · rw [if_pos (decide_eq_true hx0)]
      exact hN ns1.length _ _ (by rw [List.length_concat]; omega) ⟨ns1, rfl, ok1, rfl, rfl⟩
    · rw [if_neg (by simpa using hx0), if_pos rfl]
      refine ⟨wide_div (b := 1000) hb.1 (by have := hb.2; omega) (by decide) (by decide), ?_, hb.1, ?_⟩
      · rw [List.length_map]
        have : sizeLine = 2 ^ 24 := rfl
        omega
      · have e1 : List.map D.int ns1 ++ [D.int (x / bd)] = (ns1 ++ [x / bd]).map D.int := by rw [List.map_append] <;> rfl
        rw [e1, opn_setb hab]
        refine h _ _ _ (Int.emod_nonneg _ (by omega)) (Int.emod_lt_of_pos _ hb.1) ⟨ok'.1, by rw [List.length_append, List.length_singleton]; exact hlen, fun n hn => ?_⟩
        rcases List.mem_append.mp hn with q | q
        · exact ok1.2.2 n q
        · rw [List.mem_singleton.mp q]
          exact ⟨Int.ediv_nonneg hx.1 (by omega), Int.lt_of_le_of_lt (Int.ediv_le_self _ hx.1) hx.2⟩
def rAnyN : List Str := ["deal", "bound", "rest"]
theorem any_nat {K : PySem.W.Frag} {G : Glob} {c : Calls} {r : Lt.Row} (hp : r.ps.length = 2) (hN : r.N.length = 3) (hb : r.body = anyB) {vs : List V} {H : Hp} {Q : VK} {E : XK} (h : liftSp K gAny vs H Q E) : liftSp K (rowD G c r) vs H Q E := by
  obtain ⟨ds, S, Kd, rd, hs, ⟨a, bd, rfl, ha, hbd, hK⟩, hp'⟩ := h
  obtain ⟨b, m, ns, hab, hSb, ok, hs'⟩ := hs.opened ha
  refine ⟨_, opn S a b m ns, fun d S' => ∃ r m' ns', 0 ≤ r ∧ r < bd ∧ CellsOk m' ns' ∧ d = .int r ∧ S' = opn S a b m' ns', rd, hs', ⟨by rw [hp] <;> rfl, ?_⟩, fun d S' v H' ⟨r, m', ns', h1, h2, h3, e1, e2⟩ k e rs rd' => ?_⟩
  · rw [hb]
    have e : startD r.N [.ref a, .int bd] = [some (.ref a), some (.int bd), none] := by
      unfold startD
      rw [hN] <;> rfl
    rw [e]
    exact any_run hab hbd ok fun r m' ns' h1 h2 h3 => ⟨r, m', ns', h1, h2, h3, rfl, rfl⟩
  · subst e1 e2
    exact hp' _ S v H' (hK r h1 h2) k .refl (rs.sealed hab opn_a (opn_b hab) h3 (fun x h1 h2 => (opn_o h1 h2).symm) ha hSb) rd'
end Lt

set_option Elab.async false
set_option linter.all false
set_option maxRecDepth 100000
set_option maxHeartbeats 4000000
namespace Lt
open PySem PySem.Spec PyProof.Rows L2

def dealB : LSs := (.cons (.asg (.name 2) (.bin .mul (.bin .mul (.bin .mul (.bin .mul (.bin .mul (.bin .pow (.int 10) (.int 64)) (.bin .pow (.int 10) (.int 64))) (.bin .pow (.int 10) (.int 64))) (.bin .pow (.int 10) (.int 64))) (.bin .pow (.int 10) (.int 64))) (.bin .pow (.int 10) (.int 64)))) (.cons (.par [3, 4] (.cons (.comp (.bin .mod (.bcall .int (.cons (.bcall .abs (.cons (.bcall .int (.cons (.var 5) .nil)) .nil)) .nil)) (.var 2)) (.name 5) (.ex (.slc (.var 0) .none (.some (.int 63)))) .none [("cell", 5)]) (.cons (.bin .add (.int 90031) (.bin .mul (.int 6073) (.var 1))) .nil))) (.cons (.for_ (.name 5) (.ex (.var 3))
      (.cons (.asg (.name 4) (.bin .mod (.bcall .int (.cons (.bin .add (.bin .add (.bin .mul (.var 4) (.int 69621)) (.bin .mod (.bcall .int (.cons (.var 5) .nil)) (.int 2147483563))) (.int 29)) .nil)) (.int 2147483647))) .nil)) (.cons (.ret (.lst (.cons (.rev (.comp (.var 5) (.name 5) (.ex (.var 3)) (.some (.val (.cmp .ge (.var 5) (.bin .pow (.int 10) (.int 18))))) [("cell", 5)])) (.cons (.var 4) .nil)))) .nil))))
theorem sub_new {S T : Sto} {p : Addr} {c : C} (h : Sub S T) (hp : T p = none) : Sub S (sup T p c) := Sub.sup h hp
theorem sub_old {S T : Sto} {p : Addr} {c : C} (h : Sub S T) (hp : S p = none) : Sub S (sup T p c) := fun a d e => by
  rw [sup_ne (fun z => by rw [z, hp] at e; cases e)]
  exact h a d e
theorem cut_map {α : Type} {f : α → D} {xs : List α} {lo hi : Option Int} : ∃ ys : List α, cutD (xs.map f) lo hi = ys.map f ∧ ys.length ≤ xs.length ∧ ∀ y ∈ ys, y ∈ xs := by
  refine ⟨(xs.drop (HT.sIx xs.length 0 lo)).take (HT.sIx xs.length xs.length hi - HT.sIx xs.length 0 lo), ?_, ?_, fun y hy => List.mem_of_mem_drop (List.mem_of_mem_take hy)⟩
  · unfold cutD
    rw [List.length_map, List.map_take, List.map_drop]
  · rw [List.length_take, List.length_drop]
    omega
theorem new_ne {S : Sto} {p q : Addr} {c : C} (h : sup S p c q = none) : q ≠ p ∧ S q = none := by
  have n : q ≠ p := fun e => by
    rw [e, sup_same] at h
    cases h
  exact ⟨n, by rw [sup_ne n] at h; exact h⟩
theorem deal_run {G : Glob} {c : Calls} {S : Sto} {ns : List Int} {salt : Int} {K : Kt} (hns : ns.length ≤ 63) (hs : 0 ≤ salt ∧ salt ≤ 300000)
    (h : ∀ p b m cs S', p ≠ b → S p = none → S b = none → CellsOk m cs → Sub S S' → S' p = some (.lst [.ref b, .int m]) → S' b = some (.lst (cs.map D.int)) → K (.ref p) S') :
    wSs G c dealB { nx := fun _ S' => K .non S', rt := K } [some (.rl (ns.map D.int)), some (.int salt), none, none, none, none] S := by
  unfold dealB
  simp only [wSs, wS, wE, wB, wEs, wO, wBO, wI, bind_name, bind_tup, binds_nil, binds_cons, pars, putR, List.getElem?_cons_zero, List.getElem?_cons_succ, List.set_cons_zero, List.set_cons_succ]
  simp only [mAt_some, mL_lst, mRT_lst, mKD_lst, ix_tupE, ix_rlE, ix_refE, gt_int, lt_int, le_int, ge_int, eq_int, ne_int, eq_bl, eq_str, is_non, is_bl', len_tup, len_rl, len_ref, tup_tup, tup_ref, int_int, abs_int, rcv_ref, rcv_tup, bm_app, bm_pop, bm_cnt, hm_app, hm_pop, hm_cnt, add_int, add_tup, add_ref, sub_int, mul_int, mul_tup, fdiv_int, mod_int, pow_int, slc_tup, slc_rl, slc_ref, rev_tup, rev_ref, tru_bl, tru_int, tru_tup, knd_int, knd_bl, knd_non, knd_str, knd_tup, knd_ref, wk_tup, wk_rl, wk_ref, at0, at1, atm, true_and, and_true, sup_same, if_true, if_false, Bool.false_eq_true, reduceIte, List.getElem?_cons_zero, List.getElem?_cons_succ, List.set_cons_zero, List.set_cons_succ, bind_name, bind_tup, binds_nil, binds_cons, pars, putR, newL, List.length_cons]
  refine ⟨⟨by decide, by decide, by decide⟩, ⟨by decide, by decide, by decide⟩, (by unfold CMulW; decide +kernel), ⟨by decide, by decide, by decide⟩, (by unfold CMulW; decide +kernel), ⟨by decide, by decide, by decide⟩, (by unfold CMulW; decide +kernel), ⟨by decide, by decide, by decide⟩, (by unfold CMulW; decide +kernel), ⟨by decide, by decide, by decide⟩, (by unfold CMulW; decide +kernel), ?_⟩
  generalize hw : ((10 : Int) ^ Int.toNat 64 * 10 ^ Int.toNat 64 * 10 ^ Int.toNat 64 * 10 ^ Int.toNat 64 * 10 ^ Int.toNat 64 * 10 ^ Int.toNat 64) = wide
  have hw1 : 0 < wide ∧ wide < 2 ^ 1300 := by rw [← hw]; decide +kernel
  clear hw
  obtain ⟨cs0, ec, lc, _⟩ := cut_map (f := D.int) (xs := ns) (lo := none) (hi := some 63)
  rw [ec]
  have line : sizeLine = 2 ^ 24 := rfl
  intro p hp q hq
  obtain ⟨pq, hq0⟩ := new_ne hq
  refine comp_ind (fun ds T => ∃ (ms acc : List Int), ds = ms.map D.int ∧ T p = some (.lst (cs0.map D.int)) ∧ T q = some (.lst (acc.map D.int)) ∧ Sub S T ∧ acc.length + ms.length ≤ 63 ∧ ∀ n ∈ acc, 0 ≤ n ∧ n < 2 ^ 1300) ?_ ?_ _ _
    ⟨cs0, [], rfl, by rw [sup_ne (Ne.symm pq), sup_same], sup_same, sub_new (sub_new .refl hp) hq, by simp; omega, fun _ h => by cases h⟩
  · rintro d ds T N ⟨ms, acc, e, h1, h2, h3, h4, h5⟩ hN
    cases ms with
    | nil => cases e
    | cons n ms =>
      injection e with e1 e2
      subst e1 e2
      refine ⟨h1, ?_⟩
      simp only [mAt_some, mL_lst, mRT_lst, mKD_lst, ix_tupE, ix_rlE, ix_refE, gt_int, lt_int, le_int, ge_int, eq_int, ne_int, eq_bl, eq_str, is_non, is_bl', len_tup, len_rl, len_ref, tup_tup, tup_ref, int_int, abs_int, rcv_ref, rcv_tup, bm_app, bm_pop, bm_cnt, hm_app, hm_pop, hm_cnt, add_int, add_tup, add_ref, sub_int, mul_int, mul_tup, fdiv_int, mod_int, pow_int, slc_tup, slc_rl, slc_ref, rev_tup, rev_ref, tru_bl, tru_int, tru_tup, knd_int, knd_bl, knd_non, knd_str, knd_tup, knd_ref, wk_tup, wk_rl, wk_ref, at0, at1, atm, true_and, and_true, sup_same, if_true, if_false, Bool.false_eq_true, reduceIte, List.getElem?_cons_zero, List.getElem?_cons_succ, List.set_cons_zero, List.set_cons_succ, bind_name, bind_tup, binds_nil, binds_cons, pars, putR, h2]
      refine ⟨hw1.1, ?_, hN _ ⟨ms, acc ++ [(if n < 0 then -n else n) % wide], rfl, by rw [sup_ne (Ne.symm pq)]; exact h1, by rw [sup_same, List.map_append]; rfl, sub_old h3 hq0, ?_, fun x hx => ?_⟩⟩
      · rw [List.length_map, line]
        rw [List.length_cons] at h4
        omega
      · rw [List.length_append, List.length_singleton]
        rw [List.length_cons] at h4
        omega
      · rcases List.mem_append.mp hx with q | q
        · exact h5 x q
        · rw [List.mem_singleton.mp q]
          exact ⟨Int.emod_nonneg _ (by omega), Int.lt_trans (Int.emod_lt_of_pos _ hw1.1) hw1.2⟩
  · rintro T ⟨ms, cs, e, h1, h2, h3, h4, h5⟩
    refine ⟨h1, wide_mul (a := 16) (b := 32) (by decide) (by omega) (by decide) (by decide) (by decide), ?_⟩
    simp only [mAt_some, mL_lst, mRT_lst, mKD_lst, ix_tupE, ix_rlE, ix_refE, gt_int, lt_int, le_int, ge_int, eq_int, ne_int, eq_bl, eq_str, is_non, is_bl', len_tup, len_rl, len_ref, tup_tup, tup_ref, int_int, abs_int, rcv_ref, rcv_tup, bm_app, bm_pop, bm_cnt, hm_app, hm_pop, hm_cnt, add_int, add_tup, add_ref, sub_int, mul_int, mul_tup, fdiv_int, mod_int, pow_int, slc_tup, slc_rl, slc_ref, rev_tup, rev_ref, tru_bl, tru_int, tru_tup, knd_int, knd_bl, knd_non, knd_str, knd_tup, knd_ref, wk_tup, wk_rl, wk_ref, at0, at1, atm, true_and, and_true, sup_same, if_true, if_false, Bool.false_eq_true, reduceIte, List.getElem?_cons_zero, List.getElem?_cons_succ, List.set_cons_zero, List.set_cons_succ, bind_name, bind_tup, binds_nil, binds_cons, pars, putR, h2]
    have hcs : cs.length ≤ 63 := by omega
    refine for_ind (fun ds ρ T' => ∃ (ms : List Int) (m : Int) (x5 : Option D), ds = ms.map D.int ∧ ρ = [some (.rl (ns.map D.int)), some (.int salt), some (.int wide), some (.ref q), some (.int m), x5] ∧ T' = T ∧ (0 ≤ m ∧ m < 2147483647)) ?_ ?_ _ _ _
      ⟨cs, _, _, rfl, rfl, rfl, by omega⟩
    · rintro d ds ρ T' N ⟨ms, m, x5, e, rfl, rfl, hm⟩ hN
      cases ms with
      | nil => cases e
      | cons n ms =>
        injection e with e1 e2
        subst e1 e2
        refine ⟨h2, ?_⟩
        simp only [mAt_some, mL_lst, mRT_lst, mKD_lst, ix_tupE, ix_rlE, ix_refE, gt_int, lt_int, le_int, ge_int, eq_int, ne_int, eq_bl, eq_str, is_non, is_bl', len_tup, len_rl, len_ref, tup_tup, tup_ref, int_int, abs_int, rcv_ref, rcv_tup, bm_app, bm_pop, bm_cnt, hm_app, hm_pop, hm_cnt, add_int, add_tup, add_ref, sub_int, mul_int, mul_tup, fdiv_int, mod_int, pow_int, slc_tup, slc_rl, slc_ref, rev_tup, rev_ref, tru_bl, tru_int, tru_tup, knd_int, knd_bl, knd_non, knd_str, knd_tup, knd_ref, wk_tup, wk_rl, wk_ref, at0, at1, atm, true_and, and_true, sup_same, if_true, if_false, Bool.false_eq_true, reduceIte, List.getElem?_cons_zero, List.getElem?_cons_succ, List.set_cons_zero, List.set_cons_succ, bind_name, bind_tup, binds_nil, binds_cons, pars, putR, h2]
        exact ⟨wide_mul (a := 31) (b := 17) (by omega) (by decide) (by decide) (by decide) (by decide), by decide, by decide, hN _ _ ⟨ms, _, _, rfl, rfl, rfl, Int.emod_nonneg _ (by decide), Int.emod_lt_of_pos _ (by decide)⟩⟩
    · rintro ρ T' ⟨ms, m, x5, e, rfl, rfl, hm⟩
      refine ⟨h2, ?_⟩
      simp only [mAt_some, mL_lst, mRT_lst, mKD_lst, ix_tupE, ix_rlE, ix_refE, gt_int, lt_int, le_int, ge_int, eq_int, ne_int, eq_bl, eq_str, is_non, is_bl', len_tup, len_rl, len_ref, tup_tup, tup_ref, int_int, abs_int, rcv_ref, rcv_tup, bm_app, bm_pop, bm_cnt, hm_app, hm_pop, hm_cnt, add_int, add_tup, add_ref, sub_int, mul_int, mul_tup, fdiv_int, mod_int, pow_int, slc_tup, slc_rl, slc_ref, rev_tup, rev_ref, tru_bl, tru_int, tru_tup, knd_int, knd_bl, knd_non, knd_str, knd_tup, knd_ref, wk_tup, wk_rl, wk_ref, at0, at1, atm, true_and, and_true, sup_same, if_true, if_false, Bool.false_eq_true, reduceIte, List.getElem?_cons_zero, List.getElem?_cons_succ, List.set_cons_zero, List.set_cons_succ, bind_name, bind_tup, binds_nil, binds_cons, pars, putR, h2]
      intro r hr
      have rq : r ≠ q := fun z => by rw [z, h2] at hr; cases hr
      have hr0 : S r = none := h3.none hr
      refine comp_ind (fun ds T' => ∃ (ms acc : List Int), ds = ms.map D.int ∧ T' q = some (.lst (cs.map D.int)) ∧ T' r = some (.lst (acc.map D.int)) ∧ Sub S T' ∧ acc.length + ms.length ≤ 63 ∧ (∀ n ∈ acc, 0 ≤ n ∧ n < 2 ^ 1300) ∧ ∀ n ∈ ms, 0 ≤ n ∧ n < 2 ^ 1300) ?_ ?_ _ _
        ⟨cs, [], rfl, by rw [sup_ne (Ne.symm rq)]; exact h2, sup_same, sub_new h3 hr, by simp; omega, fun _ h => (by cases h), h5⟩
      · rintro d ds T' N ⟨ms, acc, e, g1, g2, g3, g4, g5, g6⟩ hN
        cases ms with
        | nil => cases e
        | cons n ms =>
          injection e with e1 e2
          subst e1 e2
          refine ⟨g1, ?_⟩
          simp only [mAt_some, mL_lst, mRT_lst, mKD_lst, ix_tupE, ix_rlE, ix_refE, gt_int, lt_int, le_int, ge_int, eq_int, ne_int, eq_bl, eq_str, is_non, is_bl', len_tup, len_rl, len_ref, tup_tup, tup_ref, int_int, abs_int, rcv_ref, rcv_tup, bm_app, bm_pop, bm_cnt, hm_app, hm_pop, hm_cnt, add_int, add_tup, add_ref, sub_int, mul_int, mul_tup, fdiv_int, mod_int, pow_int, slc_tup, slc_rl, slc_ref, rev_tup, rev_ref, tru_bl, tru_int, tru_tup, knd_int, knd_bl, knd_non, knd_str, knd_tup, knd_ref, wk_tup, wk_rl, wk_ref, at0, at1, atm, true_and, and_true, sup_same, if_true, if_false, Bool.false_eq_true, reduceIte, List.getElem?_cons_zero, List.getElem?_cons_succ, List.set_cons_zero, List.set_cons_succ, bind_name, bind_tup, binds_nil, binds_cons, pars, putR, g2]
          refine ⟨⟨by decide, by decide, by decide⟩, ?_⟩
          rw [List.length_cons] at g4
          by_cases hc : (10 : Int) ^ Int.toNat 18 ≤ n
          · rw [if_pos (decide_eq_true hc)]
            refine ⟨by rw [List.length_map, line]; omega, hN _ ⟨ms, acc ++ [n], rfl, by rw [sup_ne (Ne.symm rq)]; exact g1, by rw [sup_same, List.map_append]; rfl, sub_old g3 hr0, by rw [List.length_append, List.length_singleton]; omega, fun x hx => ?_, fun x hx => g6 x (List.mem_cons_of_mem _ hx)⟩⟩
            rcases List.mem_append.mp hx with q | q
            · exact g5 x q
            · rw [List.mem_singleton.mp q]
              exact g6 n List.mem_cons_self
          · rw [if_neg (by simpa using hc)]
            exact hN _ ⟨ms, acc, rfl, g1, g2, g3, by omega, g5, fun x hx => g6 x (List.mem_cons_of_mem _ hx)⟩
      · rintro T' ⟨ms, acc, e, g1, g2, g3, g4, g5, g6⟩
        refine ⟨g1, ?_⟩
        simp only [mAt_some, mL_lst, mRT_lst, mKD_lst, ix_tupE, ix_rlE, ix_refE, gt_int, lt_int, le_int, ge_int, eq_int, ne_int, eq_bl, eq_str, is_non, is_bl', len_tup, len_rl, len_ref, tup_tup, tup_ref, int_int, abs_int, rcv_ref, rcv_tup, bm_app, bm_pop, bm_cnt, hm_app, hm_pop, hm_cnt, add_int, add_tup, add_ref, sub_int, mul_int, mul_tup, fdiv_int, mod_int, pow_int, slc_tup, slc_rl, slc_ref, rev_tup, rev_ref, tru_bl, tru_int, tru_tup, knd_int, knd_bl, knd_non, knd_str, knd_tup, knd_ref, wk_tup, wk_rl, wk_ref, at0, at1, atm, true_and, and_true, sup_same, if_true, if_false, Bool.false_eq_true, reduceIte, List.getElem?_cons_zero, List.getElem?_cons_succ, List.set_cons_zero, List.set_cons_succ, bind_name, bind_tup, binds_nil, binds_cons, pars, putR, g2, newL]
        intro u hu
        refine ⟨by decide, fun v hv => ?_⟩
        obtain ⟨vu, hv0⟩ := new_ne hv
        refine h v u m acc.reverse _ vu (g3.none hv0) (g3.none hu) ⟨hm, ?_, fun n hn => g5 n (List.mem_reverse.mp hn)⟩ (sub_new (sub_new g3 hu) hv) sup_same (by rw [sup_ne (Ne.symm vu), sup_same, List.map_reverse])
        rw [List.length_reverse]
        omega
def gDeal : List D → Sto → Kt → Prop := fun ds S K => ∃ (ns : List Int) (salt : Int), ds = [.rl (ns.map D.int), .int salt] ∧ ns.length ≤ 63 ∧ (0 ≤ salt ∧ salt ≤ 300000) ∧ ∀ p, S p = none → K (.ref p) (sup S p .deal)
theorem deal_nat {K : PySem.W.Frag} {G : Glob} {c : Calls} {r : Lt.Row} (hp : r.ps.length = 2) (hN : r.N.length = 6) (hb : r.body = dealB) {vs : List V} {H : Hp} {Q : VK} {E : XK} (h : liftSp K gDeal vs H Q E) : liftSp K (rowD G c r) vs H Q E := by
  obtain ⟨ds, S, Kd, rd, hs, ⟨ns, salt, rfl, h1, h2, hK⟩, hp'⟩ := h
  refine ⟨_, S, fun d S' => ∃ p b m cs, d = .ref p ∧ p ≠ b ∧ S p = none ∧ S b = none ∧ CellsOk m cs ∧ Sub S S' ∧ S' p = some (.lst [.ref b, .int m]) ∧ S' b = some (.lst (cs.map D.int)), rd, hs, ⟨by rw [hp] <;> rfl, ?_⟩, fun d S' v H' ⟨p, b, m, cs, e1, pb, np, nb, ok, sb, e2, e3⟩ k e rs rd' => ?_⟩
  · rw [hb]
    have e : startD r.N [.rl (ns.map D.int), .int salt] = [some (.rl (ns.map D.int)), some (.int salt), none, none, none, none] := by
      unfold startD
      rw [hN] <;> rfl
    rw [e]
    exact deal_run h1 h2 fun p b m cs S' pb np nb ok sb e2 e3 => ⟨p, b, m, cs, rfl, pb, np, nb, ok, sb, e2, e3⟩
  · subst e1
    refine hp' _ _ v H' (hK p np) k (fun x hx => ?_) ?_ rd'
    · by_cases hxp : x = p
      · subst hxp
        rcases e x (by rw [e2]; simp) with q | q
        · exact absurd np q
        · exact .inr q
      · rw [sup_ne hxp] at hx
        exact .inl hx
    · have rs' : RS K H' (fun x => if x = p ∨ x = b then S' x else S x) := rs.sub fun x c hx => by
        by_cases hxx : x = p ∨ x = b
        · rw [if_pos hxx] at hx; exact hx
        · rw [if_neg hxx] at hx; exact sb x c hx
      refine rs'.sealed pb (by rw [if_pos (.inl rfl)]; exact e2) (by rw [if_pos (.inr rfl)]; exact e3) ok (fun x n1 n2 => ?_) sup_same (by rw [sup_ne (Ne.symm pb)]; exact nb)
      rw [sup_ne n1, if_neg (by rintro (z | z) <;> contradiction)]
end Lt

set_option Elab.async false
set_option linter.all false
set_option maxRecDepth 100000
set_option maxHeartbeats 4000000
namespace Lt
open PySem PySem.Spec PyProof.Rows L2

/-! ## what the law looks at: plain data -/
mutual
def plainD : D → Bool
  | .non => true
  | .bl _ => true
  | .int _ => true
  | .str _ => true
  | .tup ds => plainDs ds
  | _ => false
def plainDs : List D → Bool
  | [] => true
  | d :: ds => plainD d && plainDs ds
end
mutual
def sizD : D → Nat
  | .tup ds => 1 + sizDs ds
  | _ => 1
def sizDs : List D → Nat
  | [] => 0
  | d :: ds => sizD d + sizDs ds
end
def leafD : D → Bool
  | .non => true
  | .bl _ => true
  | .int _ => true
  | .str _ => true
  | _ => false
theorem sizD_pos : ∀ d, 1 ≤ sizD d
  | .tup ds => by rw [sizD]; omega
  | .non => by simp [sizD]
  | .bl _ => by simp [sizD]
  | .int _ => by simp [sizD]
  | .str _ => by simp [sizD]
  | .ref _ => by simp [sizD]
  | .fn _ => by simp [sizD]
  | .rl _ => by simp [sizD]
theorem sizDs_app : ∀ xs ys, sizDs (xs ++ ys) = sizDs xs + sizDs ys
  | [], ys => by simp [sizDs]
  | x :: xs, ys => by rw [List.cons_append, sizDs, sizDs, sizDs_app xs ys]; omega
theorem sizDs_len : ∀ xs, xs.length ≤ sizDs xs
  | [] => by simp [sizDs]
  | x :: xs => by
    have := sizDs_len xs
    have := sizD_pos x
    rw [sizDs, List.length_cons]; omega
theorem plainDs_app : ∀ xs ys, plainDs (xs ++ ys) = (plainDs xs && plainDs ys)
  | [], ys => by simp [plainDs]
  | x :: xs, ys => by rw [List.cons_append, plainDs, plainDs, plainDs_app xs ys, Bool.and_assoc]
theorem zipD_self : ∀ xs, zipD xs xs = xs.map fun x => .tup [x, x]
  | [] => rfl
  | x :: xs => by rw [zipD, zipD_self xs, List.map_cons]
def kindB : LSs := (.cons (.ite (.val (.cmp .is_ (.var 1) .non))
      (.cons (.ret (.cmp .is_ (.var 0) .non)) .nil)
      .nil) (.cons (.ite (.or (.val (.cmp .is_ (.var 1) (.bl true))) (.last (.val (.cmp .is_ (.var 1) (.bl false)))))
      (.cons (.ret (.ite (.tru (.var 1)) (.cmp .is_ (.var 0) (.bl true)) (.cmp .is_ (.var 0) (.bl false)))) .nil)
      .nil) (.cons (.ite (.tru (.isi (.var 1) [.str]))
      (.cons (.ret (.and (.isi (.var 0) [.str]) (.one (.cmp .eq (.var 0) (.var 1))))) .nil)
      .nil) (.cons (.ret (.and (.isi (.var 0) [.int]) (.and (.not (.isi (.var 0) [.bool])) (.one (.cmp .eq (.var 0) (.var 1)))))) .nil))))
theorem kind_run {G : Glob} {c : Calls} {S : Sto} {d : D} {K : Kt} (hd : leafD d = true) (h : K (.bl true) S) : wSs G c kindB { nx := fun _ S' => K .non S', rt := K } [some d, some d] S := by
  unfold kindB
  simp only [wSs, wS, wE, wB, wEs, wO, wBO, wI, bind_name, bind_tup, binds_nil, binds_cons, pars, putR, List.getElem?_cons_zero, List.getElem?_cons_succ, List.set_cons_zero, List.set_cons_succ]
  cases d <;> first | cases hd; done | skip
  · simp only [mAt_some, mL_lst, mRT_lst, mKD_lst, ix_tupE, ix_rlE, ix_refE, gt_int, lt_int, le_int, ge_int, eq_int, ne_int, eq_bl, eq_str, is_non, is_bl', len_tup, len_rl, len_ref, tup_tup, tup_ref, int_int, abs_int, rcv_ref, rcv_tup, bm_app, bm_pop, bm_cnt, hm_app, hm_pop, hm_cnt, add_int, add_tup, add_ref, sub_int, mul_int, mul_tup, fdiv_int, mod_int, pow_int, slc_tup, slc_rl, slc_ref, rev_tup, rev_ref, tru_bl, tru_int, tru_tup, knd_int, knd_bl, knd_non, knd_str, knd_tup, knd_ref, wk_tup, wk_rl, wk_ref, at0, at1, atm, true_and, and_true, sup_same, if_true, if_false, Bool.false_eq_true, reduceIte, List.getElem?_cons_zero, List.getElem?_cons_succ, List.set_cons_zero, List.set_cons_succ, bind_name, bind_tup, binds_nil, binds_cons, pars, putR, isNonD]
    exact h
  · rename_i b
    cases b
    · simp only [mAt_some, mL_lst, mRT_lst, mKD_lst, ix_tupE, ix_rlE, ix_refE, gt_int, lt_int, le_int, ge_int, eq_int, ne_int, eq_bl, eq_str, is_non, is_bl', len_tup, len_rl, len_ref, tup_tup, tup_ref, int_int, abs_int, rcv_ref, rcv_tup, bm_app, bm_pop, bm_cnt, hm_app, hm_pop, hm_cnt, add_int, add_tup, add_ref, sub_int, mul_int, mul_tup, fdiv_int, mod_int, pow_int, slc_tup, slc_rl, slc_ref, rev_tup, rev_ref, tru_bl, tru_int, tru_tup, knd_int, knd_bl, knd_non, knd_str, knd_tup, knd_ref, wk_tup, wk_rl, wk_ref, at0, at1, atm, true_and, and_true, sup_same, if_true, if_false, Bool.false_eq_true, reduceIte, List.getElem?_cons_zero, List.getElem?_cons_succ, List.set_cons_zero, List.set_cons_succ, bind_name, bind_tup, binds_nil, binds_cons, pars, putR, isNonD, isBlD]
      simpa using h
    · simp only [mAt_some, mL_lst, mRT_lst, mKD_lst, ix_tupE, ix_rlE, ix_refE, gt_int, lt_int, le_int, ge_int, eq_int, ne_int, eq_bl, eq_str, is_non, is_bl', len_tup, len_rl, len_ref, tup_tup, tup_ref, int_int, abs_int, rcv_ref, rcv_tup, bm_app, bm_pop, bm_cnt, hm_app, hm_pop, hm_cnt, add_int, add_tup, add_ref, sub_int, mul_int, mul_tup, fdiv_int, mod_int, pow_int, slc_tup, slc_rl, slc_ref, rev_tup, rev_ref, tru_bl, tru_int, tru_tup, knd_int, knd_bl, knd_non, knd_str, knd_tup, knd_ref, wk_tup, wk_rl, wk_ref, at0, at1, atm, true_and, and_true, sup_same, if_true, if_false, Bool.false_eq_true, reduceIte, List.getElem?_cons_zero, List.getElem?_cons_succ, List.set_cons_zero, List.set_cons_succ, bind_name, bind_tup, binds_nil, binds_cons, pars, putR, isNonD, isBlD]
      simpa using h
  · simp only [mAt_some, mL_lst, mRT_lst, mKD_lst, ix_tupE, ix_rlE, ix_refE, gt_int, lt_int, le_int, ge_int, eq_int, ne_int, eq_bl, eq_str, is_non, is_bl', len_tup, len_rl, len_ref, tup_tup, tup_ref, int_int, abs_int, rcv_ref, rcv_tup, bm_app, bm_pop, bm_cnt, hm_app, hm_pop, hm_cnt, add_int, add_tup, add_ref, sub_int, mul_int, mul_tup, fdiv_int, mod_int, pow_int, slc_tup, slc_rl, slc_ref, rev_tup, rev_ref, tru_bl, tru_int, tru_tup, knd_int, knd_bl, knd_non, knd_str, knd_tup, knd_ref, wk_tup, wk_rl, wk_ref, at0, at1, atm, true_and, and_true, sup_same, if_true, if_false, Bool.false_eq_true, reduceIte, List.getElem?_cons_zero, List.getElem?_cons_succ, List.set_cons_zero, List.set_cons_succ, bind_name, bind_tup, binds_nil, binds_cons, pars, putR, isNonD, isBlD, kOk, isK, List.all_cons, List.all_nil, List.any_cons, List.any_nil]
    simpa [isK] using h
  · simp only [mAt_some, mL_lst, mRT_lst, mKD_lst, ix_tupE, ix_rlE, ix_refE, gt_int, lt_int, le_int, ge_int, eq_int, ne_int, eq_bl, eq_str, is_non, is_bl', len_tup, len_rl, len_ref, tup_tup, tup_ref, int_int, abs_int, rcv_ref, rcv_tup, bm_app, bm_pop, bm_cnt, hm_app, hm_pop, hm_cnt, add_int, add_tup, add_ref, sub_int, mul_int, mul_tup, fdiv_int, mod_int, pow_int, slc_tup, slc_rl, slc_ref, rev_tup, rev_ref, tru_bl, tru_int, tru_tup, knd_int, knd_bl, knd_non, knd_str, knd_tup, knd_ref, wk_tup, wk_rl, wk_ref, at0, at1, atm, true_and, and_true, sup_same, if_true, if_false, Bool.false_eq_true, reduceIte, List.getElem?_cons_zero, List.getElem?_cons_succ, List.set_cons_zero, List.set_cons_succ, bind_name, bind_tup, binds_nil, binds_cons, pars, putR, isNonD, isBlD, kOk, isK, List.all_cons, List.all_nil, List.any_cons, List.any_nil]
    simpa [isK] using h
def sameB : LSs := (.cons (.asg (.name 2) (.lst (.cons (.tup (.cons (.var 0) (.cons (.var 1) .nil))) .nil))) (.cons (.whl (.val (.cmp .gt (.bcall .len (.cons (.var 2) .nil)) (.int 0)))
      (.cons (.asg (.tup (.cons (.name 3) (.cons (.name 4) .nil))) (.bm .pop (.var 2) .nil)) (.cons (.ite (.tru (.isi (.var 4) [.tup]))
      (.cons (.ite (.or (.not (.tru (.isi (.var 3) [.tup]))) (.last (.val (.cmp .ne (.bcall .len (.cons (.var 3) .nil)) (.bcall .len (.cons (.var 4) .nil))))))
      (.cons (.ret (.bl false)) .nil)
      .nil) (.cons (.asg (.name 2) (.bin .add (.var 2) (.lzip (.var 3) (.var 4)))) .nil))
      (.cons (.ite (.or (.tru (.isi (.var 3) [.tup, .lst, .dict])) (.last (.not (.tru (.call "_law_is_kind" (.cons (.var 3) (.cons (.var 4) .nil)))))))
      (.cons (.ret (.bl false)) .nil)
      .nil) .nil)) .nil))) (.cons (.ret (.bl true)) .nil)))
theorem same_run {G : Glob} {c : Calls} {S : Sto} {d : D} {K : Kt} (hk : ∀ x S K, leafD x = true → K (.bl true) S → c.fn "_law_is_kind" [x, x] S K) (hd : plainD d = true) (hz : sizD d ≤ 1000000) (h : ∀ S', Sub S S' → K (.bl true) S') :
    wSs G c sameB { nx := fun _ S' => K .non S', rt := K } [some d, some d, none, none, none] S := by
  unfold sameB
  simp only [wSs, wS, wE, wB, wEs, wO, wBO, wI, bind_name, bind_tup, binds_nil, binds_cons, pars, putR, List.getElem?_cons_zero, List.getElem?_cons_succ, List.set_cons_zero, List.set_cons_succ]
  simp only [mAt_some, mL_lst, mRT_lst, mKD_lst, ix_tupE, ix_rlE, ix_refE, gt_int, lt_int, le_int, ge_int, eq_int, ne_int, eq_bl, eq_str, is_non, is_bl', len_tup, len_rl, len_ref, tup_tup, tup_ref, int_int, abs_int, rcv_ref, rcv_tup, bm_app, bm_pop, bm_cnt, hm_app, hm_pop, hm_cnt, add_int, add_tup, add_ref, sub_int, mul_int, mul_tup, fdiv_int, mod_int, pow_int, slc_tup, slc_rl, slc_ref, rev_tup, rev_ref, tru_bl, tru_int, tru_tup, knd_int, knd_bl, knd_non, knd_str, knd_tup, knd_ref, wk_tup, wk_rl, wk_ref, at0, at1, atm, true_and, and_true, sup_same, if_true, if_false, Bool.false_eq_true, reduceIte, List.getElem?_cons_zero, List.getElem?_cons_succ, List.set_cons_zero, List.set_cons_succ, bind_name, bind_tup, binds_nil, binds_cons, pars, putR, newL, List.length_cons, List.length_nil]
  have line : sizeLine = 2 ^ 24 := rfl
  refine ⟨by decide, by decide, fun p hp => ?_⟩
  refine ⟨sizD d + 1, whl_ind (fun n ρ T => ∃ (xs : List D) (q : Addr) (x3 x4 : Option D), n = sizDs xs ∧ ρ = [some d, some d, some (.ref q), x3, x4] ∧ T q = some (.lst (xs.map fun x => .tup [x, x])) ∧ plainDs xs = true ∧ sizDs xs ≤ 1000000 ∧ S q = none ∧ Sub S T) ?_ _ _ _ _ (Nat.lt_succ_self _)
    ⟨[d], p, none, none, by simp [sizDs], rfl, sup_same, by simp [plainDs, hd], by simp [sizDs]; exact hz, hp, sub_new .refl hp⟩⟩
  rintro n ρ T N ⟨xs, q, x3, x4, rfl, rfl, h1, h2, h3, h4, h5⟩ hN
  rcases List.eq_nil_or_concat xs with rfl | ⟨ys, x, rfl⟩
  · simp only [mAt_some, mL_lst, mRT_lst, mKD_lst, ix_tupE, ix_rlE, ix_refE, gt_int, lt_int, le_int, ge_int, eq_int, ne_int, eq_bl, eq_str, is_non, is_bl', len_tup, len_rl, len_ref, tup_tup, tup_ref, int_int, abs_int, rcv_ref, rcv_tup, bm_app, bm_pop, bm_cnt, hm_app, hm_pop, hm_cnt, add_int, add_tup, add_ref, sub_int, mul_int, mul_tup, fdiv_int, mod_int, pow_int, slc_tup, slc_rl, slc_ref, rev_tup, rev_ref, tru_bl, tru_int, tru_tup, knd_int, knd_bl, knd_non, knd_str, knd_tup, knd_ref, wk_tup, wk_rl, wk_ref, at0, at1, atm, true_and, and_true, sup_same, if_true, if_false, Bool.false_eq_true, reduceIte, List.getElem?_cons_zero, List.getElem?_cons_succ, List.set_cons_zero, List.set_cons_succ, bind_name, bind_tup, binds_nil, binds_cons, pars, putR, h1, List.map_nil, List.length_nil]
    rw [if_neg (by decide)]
    exact h T h5
  · rw [List.concat_eq_append] at h1 h2 h3 hN
    rw [plainDs_app] at h2
    simp only [Bool.and_eq_true, plainDs, Bool.and_true] at h2
    rw [sizDs_app] at h3 hN
    simp only [sizDs, Nat.add_zero] at h3 hN
    obtain ⟨p1, p2⟩ := h2
    have e0 : decide (0 < ((ys.map (fun x => D.tup [x, x]) ++ [D.tup [x, x]]).length : Int)) = true := decide_eq_true (by rw [List.length_append, List.length_singleton]; omega)
    have hx := sizD_pos x
    simp only [mAt_some, mL_lst, mRT_lst, mKD_lst, ix_tupE, ix_rlE, ix_refE, gt_int, lt_int, le_int, ge_int, eq_int, ne_int, eq_bl, eq_str, is_non, is_bl', len_tup, len_rl, len_ref, tup_tup, tup_ref, int_int, abs_int, rcv_ref, rcv_tup, bm_app, bm_pop, bm_cnt, hm_app, hm_pop, hm_cnt, add_int, add_tup, add_ref, sub_int, mul_int, mul_tup, fdiv_int, mod_int, pow_int, slc_tup, slc_rl, slc_ref, rev_tup, rev_ref, tru_bl, tru_int, tru_tup, knd_int, knd_bl, knd_non, knd_str, knd_tup, knd_ref, wk_tup, wk_rl, wk_ref, at0, at1, atm, true_and, and_true, sup_same, if_true, if_false, Bool.false_eq_true, reduceIte, List.getElem?_cons_zero, List.getElem?_cons_succ, List.set_cons_zero, List.set_cons_succ, bind_name, bind_tup, binds_nil, binds_cons, pars, putR, h1, e0, List.map_append, List.map_cons, List.map_nil, List.getLast?_concat, List.dropLast_concat]
    cases x with
    | tup es =>
      simp only [mAt_some, mL_lst, mRT_lst, mKD_lst, ix_tupE, ix_rlE, ix_refE, gt_int, lt_int, le_int, ge_int, eq_int, ne_int, eq_bl, eq_str, is_non, is_bl', len_tup, len_rl, len_ref, tup_tup, tup_ref, int_int, abs_int, rcv_ref, rcv_tup, bm_app, bm_pop, bm_cnt, hm_app, hm_pop, hm_cnt, add_int, add_tup, add_ref, sub_int, mul_int, mul_tup, fdiv_int, mod_int, pow_int, slc_tup, slc_rl, slc_ref, rev_tup, rev_ref, tru_bl, tru_int, tru_tup, knd_int, knd_bl, knd_non, knd_str, knd_tup, knd_ref, wk_tup, wk_rl, wk_ref, at0, at1, atm, true_and, and_true, sup_same, if_true, if_false, Bool.false_eq_true, reduceIte, List.getElem?_cons_zero, List.getElem?_cons_succ, List.set_cons_zero, List.set_cons_succ, bind_name, bind_tup, binds_nil, binds_cons, pars, putR, kOk, isK, List.all_cons, List.all_nil, List.any_cons, List.any_nil, Bool.and_self, Bool.or_false, Bool.not_true, newL]
      simp only [decide_true, Bool.not_true, Bool.false_eq_true, if_false]
      intro r hr
      obtain ⟨rq, hr0⟩ := new_ne hr
      simp only [mAt_some, mL_lst, mRT_lst, mKD_lst, ix_tupE, ix_rlE, ix_refE, gt_int, lt_int, le_int, ge_int, eq_int, ne_int, eq_bl, eq_str, is_non, is_bl', len_tup, len_rl, len_ref, tup_tup, tup_ref, int_int, abs_int, rcv_ref, rcv_tup, bm_app, bm_pop, bm_cnt, hm_app, hm_pop, hm_cnt, add_int, add_tup, add_ref, sub_int, mul_int, mul_tup, fdiv_int, mod_int, pow_int, slc_tup, slc_rl, slc_ref, rev_tup, rev_ref, tru_bl, tru_int, tru_tup, knd_int, knd_bl, knd_non, knd_str, knd_tup, knd_ref, wk_tup, wk_rl, wk_ref, at0, at1, atm, true_and, and_true, sup_same, if_true, if_false, Bool.false_eq_true, reduceIte, List.getElem?_cons_zero, List.getElem?_cons_succ, List.set_cons_zero, List.set_cons_succ, bind_name, bind_tup, binds_nil, binds_cons, pars, putR, sup_ne (Ne.symm rq), zipD_self]
      have l1 := sizDs_len ys
      have l2 := sizDs_len es
      simp only [sizD] at h3 hN
      refine ⟨by rw [List.length_map, List.length_map, line]; omega, fun u hu => ?_⟩
      have hu0 : T u = none := (new_ne (new_ne hu).2).2
      refine hN (sizDs (ys ++ es)) _ _ (by rw [sizDs_app]; omega) ⟨ys ++ es, u, _, _, rfl, rfl, by rw [sup_same, List.map_append], by rw [plainDs_app, p1]; simpa [plainD] using p2, by rw [sizDs_app]; omega, h5.none hu0, ?_⟩
      exact sub_new (sub_new (sub_old h5 h4) hr) hu
    | non =>
      simp only [mAt_some, mL_lst, mRT_lst, mKD_lst, ix_tupE, ix_rlE, ix_refE, gt_int, lt_int, le_int, ge_int, eq_int, ne_int, eq_bl, eq_str, is_non, is_bl', len_tup, len_rl, len_ref, tup_tup, tup_ref, int_int, abs_int, rcv_ref, rcv_tup, bm_app, bm_pop, bm_cnt, hm_app, hm_pop, hm_cnt, add_int, add_tup, add_ref, sub_int, mul_int, mul_tup, fdiv_int, mod_int, pow_int, slc_tup, slc_rl, slc_ref, rev_tup, rev_ref, tru_bl, tru_int, tru_tup, knd_int, knd_bl, knd_non, knd_str, knd_tup, knd_ref, wk_tup, wk_rl, wk_ref, at0, at1, atm, true_and, and_true, sup_same, if_true, if_false, Bool.false_eq_true, reduceIte, List.getElem?_cons_zero, List.getElem?_cons_succ, List.set_cons_zero, List.set_cons_succ, bind_name, bind_tup, binds_nil, binds_cons, pars, putR, kOk, isK, List.all_cons, List.all_nil, List.any_cons, List.any_nil, Bool.and_self, Bool.or_false, Bool.not_true]
      refine hk _ _ _ rfl ?_
      simp only [mAt_some, mL_lst, mRT_lst, mKD_lst, ix_tupE, ix_rlE, ix_refE, gt_int, lt_int, le_int, ge_int, eq_int, ne_int, eq_bl, eq_str, is_non, is_bl', len_tup, len_rl, len_ref, tup_tup, tup_ref, int_int, abs_int, rcv_ref, rcv_tup, bm_app, bm_pop, bm_cnt, hm_app, hm_pop, hm_cnt, add_int, add_tup, add_ref, sub_int, mul_int, mul_tup, fdiv_int, mod_int, pow_int, slc_tup, slc_rl, slc_ref, rev_tup, rev_ref, tru_bl, tru_int, tru_tup, knd_int, knd_bl, knd_non, knd_str, knd_tup, knd_ref, wk_tup, wk_rl, wk_ref, at0, at1, atm, true_and, and_true, sup_same, if_true, if_false, Bool.false_eq_true, reduceIte, List.getElem?_cons_zero, List.getElem?_cons_succ, List.set_cons_zero, List.set_cons_succ, bind_name, bind_tup, binds_nil, binds_cons, pars, putR, Bool.not_true]
      exact hN (sizDs ys) _ _ (by simp [sizD]) ⟨ys, q, _, _, rfl, rfl, sup_same, p1, by omega, h4, sub_old h5 h4⟩
    | bl b =>
      simp only [mAt_some, mL_lst, mRT_lst, mKD_lst, ix_tupE, ix_rlE, ix_refE, gt_int, lt_int, le_int, ge_int, eq_int, ne_int, eq_bl, eq_str, is_non, is_bl', len_tup, len_rl, len_ref, tup_tup, tup_ref, int_int, abs_int, rcv_ref, rcv_tup, bm_app, bm_pop, bm_cnt, hm_app, hm_pop, hm_cnt, add_int, add_tup, add_ref, sub_int, mul_int, mul_tup, fdiv_int, mod_int, pow_int, slc_tup, slc_rl, slc_ref, rev_tup, rev_ref, tru_bl, tru_int, tru_tup, knd_int, knd_bl, knd_non, knd_str, knd_tup, knd_ref, wk_tup, wk_rl, wk_ref, at0, at1, atm, true_and, and_true, sup_same, if_true, if_false, Bool.false_eq_true, reduceIte, List.getElem?_cons_zero, List.getElem?_cons_succ, List.set_cons_zero, List.set_cons_succ, bind_name, bind_tup, binds_nil, binds_cons, pars, putR, kOk, isK, List.all_cons, List.all_nil, List.any_cons, List.any_nil, Bool.and_self, Bool.or_false, Bool.not_true]
      refine hk _ _ _ rfl ?_
      simp only [mAt_some, mL_lst, mRT_lst, mKD_lst, ix_tupE, ix_rlE, ix_refE, gt_int, lt_int, le_int, ge_int, eq_int, ne_int, eq_bl, eq_str, is_non, is_bl', len_tup, len_rl, len_ref, tup_tup, tup_ref, int_int, abs_int, rcv_ref, rcv_tup, bm_app, bm_pop, bm_cnt, hm_app, hm_pop, hm_cnt, add_int, add_tup, add_ref, sub_int, mul_int, mul_tup, fdiv_int, mod_int, pow_int, slc_tup, slc_rl, slc_ref, rev_tup, rev_ref, tru_bl, tru_int, tru_tup, knd_int, knd_bl, knd_non, knd_str, knd_tup, knd_ref, wk_tup, wk_rl, wk_ref, at0, at1, atm, true_and, and_true, sup_same, if_true, if_false, Bool.false_eq_true, reduceIte, List.getElem?_cons_zero, List.getElem?_cons_succ, List.set_cons_zero, List.set_cons_succ, bind_name, bind_tup, binds_nil, binds_cons, pars, putR, Bool.not_true]
      exact hN (sizDs ys) _ _ (by simp [sizD]) ⟨ys, q, _, _, rfl, rfl, sup_same, p1, by omega, h4, sub_old h5 h4⟩
    | int b =>
      simp only [mAt_some, mL_lst, mRT_lst, mKD_lst, ix_tupE, ix_rlE, ix_refE, gt_int, lt_int, le_int, ge_int, eq_int, ne_int, eq_bl, eq_str, is_non, is_bl', len_tup, len_rl, len_ref, tup_tup, tup_ref, int_int, abs_int, rcv_ref, rcv_tup, bm_app, bm_pop, bm_cnt, hm_app, hm_pop, hm_cnt, add_int, add_tup, add_ref, sub_int, mul_int, mul_tup, fdiv_int, mod_int, pow_int, slc_tup, slc_rl, slc_ref, rev_tup, rev_ref, tru_bl, tru_int, tru_tup, knd_int, knd_bl, knd_non, knd_str, knd_tup, knd_ref, wk_tup, wk_rl, wk_ref, at0, at1, atm, true_and, and_true, sup_same, if_true, if_false, Bool.false_eq_true, reduceIte, List.getElem?_cons_zero, List.getElem?_cons_succ, List.set_cons_zero, List.set_cons_succ, bind_name, bind_tup, binds_nil, binds_cons, pars, putR, kOk, isK, List.all_cons, List.all_nil, List.any_cons, List.any_nil, Bool.and_self, Bool.or_false, Bool.not_true]
      refine hk _ _ _ rfl ?_
      simp only [mAt_some, mL_lst, mRT_lst, mKD_lst, ix_tupE, ix_rlE, ix_refE, gt_int, lt_int, le_int, ge_int, eq_int, ne_int, eq_bl, eq_str, is_non, is_bl', len_tup, len_rl, len_ref, tup_tup, tup_ref, int_int, abs_int, rcv_ref, rcv_tup, bm_app, bm_pop, bm_cnt, hm_app, hm_pop, hm_cnt, add_int, add_tup, add_ref, sub_int, mul_int, mul_tup, fdiv_int, mod_int, pow_int, slc_tup, slc_rl, slc_ref, rev_tup, rev_ref, tru_bl, tru_int, tru_tup, knd_int, knd_bl, knd_non, knd_str, knd_tup, knd_ref, wk_tup, wk_rl, wk_ref, at0, at1, atm, true_and, and_true, sup_same, if_true, if_false, Bool.false_eq_true, reduceIte, List.getElem?_cons_zero, List.getElem?_cons_succ, List.set_cons_zero, List.set_cons_succ, bind_name, bind_tup, binds_nil, binds_cons, pars, putR, Bool.not_true]
      exact hN (sizDs ys) _ _ (by simp [sizD]) ⟨ys, q, _, _, rfl, rfl, sup_same, p1, by omega, h4, sub_old h5 h4⟩
    | str b =>
      simp only [mAt_some, mL_lst, mRT_lst, mKD_lst, ix_tupE, ix_rlE, ix_refE, gt_int, lt_int, le_int, ge_int, eq_int, ne_int, eq_bl, eq_str, is_non, is_bl', len_tup, len_rl, len_ref, tup_tup, tup_ref, int_int, abs_int, rcv_ref, rcv_tup, bm_app, bm_pop, bm_cnt, hm_app, hm_pop, hm_cnt, add_int, add_tup, add_ref, sub_int, mul_int, mul_tup, fdiv_int, mod_int, pow_int, slc_tup, slc_rl, slc_ref, rev_tup, rev_ref, tru_bl, tru_int, tru_tup, knd_int, knd_bl, knd_non, knd_str, knd_tup, knd_ref, wk_tup, wk_rl, wk_ref, at0, at1, atm, true_and, and_true, sup_same, if_true, if_false, Bool.false_eq_true, reduceIte, List.getElem?_cons_zero, List.getElem?_cons_succ, List.set_cons_zero, List.set_cons_succ, bind_name, bind_tup, binds_nil, binds_cons, pars, putR, kOk, isK, List.all_cons, List.all_nil, List.any_cons, List.any_nil, Bool.and_self, Bool.or_false, Bool.not_true]
      refine hk _ _ _ rfl ?_
      simp only [mAt_some, mL_lst, mRT_lst, mKD_lst, ix_tupE, ix_rlE, ix_refE, gt_int, lt_int, le_int, ge_int, eq_int, ne_int, eq_bl, eq_str, is_non, is_bl', len_tup, len_rl, len_ref, tup_tup, tup_ref, int_int, abs_int, rcv_ref, rcv_tup, bm_app, bm_pop, bm_cnt, hm_app, hm_pop, hm_cnt, add_int, add_tup, add_ref, sub_int, mul_int, mul_tup, fdiv_int, mod_int, pow_int, slc_tup, slc_rl, slc_ref, rev_tup, rev_ref, tru_bl, tru_int, tru_tup, knd_int, knd_bl, knd_non, knd_str, knd_tup, knd_ref, wk_tup, wk_rl, wk_ref, at0, at1, atm, true_and, and_true, sup_same, if_true, if_false, Bool.false_eq_true, reduceIte, List.getElem?_cons_zero, List.getElem?_cons_succ, List.set_cons_zero, List.set_cons_succ, bind_name, bind_tup, binds_nil, binds_cons, pars, putR, Bool.not_true]
      exact hN (sizDs ys) _ _ (by simp [sizD]) ⟨ys, q, _, _, rfl, rfl, sup_same, p1, by omega, h4, sub_old h5 h4⟩
    | ref _ => simp [plainD] at p2
    | fn _ => simp [plainD] at p2
    | rl _ => simp [plainD] at p2
def allB : LSs := (.cons (.ret (.cmp .eq (.bcall .len (.cons (.comp (.var 1) (.tup (.cons (.name 1) (.cons (.name 2) .nil))) (.ex (.var 0)) (.some (.not (.tru (.call "_law_same" (.cons (.var 1) (.cons (.var 2) .nil)))))) [("told", 1), ("due", 2)]) .nil)) (.int 0))) .nil)
theorem all_run {G : Glob} {c : Calls} {S : Sto} {p : Addr} {xs : List D} {K : Kt} (hk : ∀ x S K, plainD x = true → sizD x ≤ 1000000 → (∀ S', Sub S S' → K (.bl true) S') → c.fn "_law_same" [x, x] S K) (hp : S p = some (.lst (xs.map fun x => .tup [x, x])))
    (hd : ∀ x ∈ xs, plainD x = true ∧ sizD x ≤ 1000000) (h : ∀ S', Sub S S' → K (.bl true) S') : wSs G c allB { nx := fun _ S' => K .non S', rt := K } [some (.ref p), none, none] S := by
  unfold allB
  simp only [wSs, wS, wE, wB, wEs, wO, wBO, wI, bind_name, bind_tup, binds_nil, binds_cons, pars, putR, List.getElem?_cons_zero, List.getElem?_cons_succ, List.set_cons_zero, List.set_cons_succ]
  simp only [mAt_some, mL_lst, mRT_lst, mKD_lst, ix_tupE, ix_rlE, ix_refE, gt_int, lt_int, le_int, ge_int, eq_int, ne_int, eq_bl, eq_str, is_non, is_bl', len_tup, len_rl, len_ref, tup_tup, tup_ref, int_int, abs_int, rcv_ref, rcv_tup, bm_app, bm_pop, bm_cnt, hm_app, hm_pop, hm_cnt, add_int, add_tup, add_ref, sub_int, mul_int, mul_tup, fdiv_int, mod_int, pow_int, slc_tup, slc_rl, slc_ref, rev_tup, rev_ref, tru_bl, tru_int, tru_tup, knd_int, knd_bl, knd_non, knd_str, knd_tup, knd_ref, wk_tup, wk_rl, wk_ref, at0, at1, atm, true_and, and_true, sup_same, if_true, if_false, Bool.false_eq_true, reduceIte, List.getElem?_cons_zero, List.getElem?_cons_succ, List.set_cons_zero, List.set_cons_succ, bind_name, bind_tup, binds_nil, binds_cons, pars, putR, hp]
  intro q hq
  have hS : Sub S (sup S q (.lst [])) := sub_new .refl hq
  refine comp_ind (fun ds T => ∃ ys, ds = ys.map (fun x => .tup [x, x]) ∧ (∀ y ∈ ys, y ∈ xs) ∧ Sub S T ∧ T q = some (.lst [])) ?_ ?_ _ _ ⟨xs, rfl, fun _ h => h, hS, sup_same⟩
  · rintro d ds T N ⟨ys, e, h1, h2, h3⟩ hN
    cases ys with
    | nil => cases e
    | cons y ys =>
      injection e with e1 e2
      subst e1 e2
      refine ⟨h2 _ _ hp, ?_⟩
      simp only [mAt_some, mL_lst, mRT_lst, mKD_lst, ix_tupE, ix_rlE, ix_refE, gt_int, lt_int, le_int, ge_int, eq_int, ne_int, eq_bl, eq_str, is_non, is_bl', len_tup, len_rl, len_ref, tup_tup, tup_ref, int_int, abs_int, rcv_ref, rcv_tup, bm_app, bm_pop, bm_cnt, hm_app, hm_pop, hm_cnt, add_int, add_tup, add_ref, sub_int, mul_int, mul_tup, fdiv_int, mod_int, pow_int, slc_tup, slc_rl, slc_ref, rev_tup, rev_ref, tru_bl, tru_int, tru_tup, knd_int, knd_bl, knd_non, knd_str, knd_tup, knd_ref, wk_tup, wk_rl, wk_ref, at0, at1, atm, true_and, and_true, sup_same, if_true, if_false, Bool.false_eq_true, reduceIte, List.getElem?_cons_zero, List.getElem?_cons_succ, List.set_cons_zero, List.set_cons_succ, bind_name, bind_tup, binds_nil, binds_cons, pars, putR]
      obtain ⟨a1, a2⟩ := hd y (h1 y List.mem_cons_self)
      refine hk y _ _ a1 a2 fun T' hT' => ?_
      simp only [mAt_some, mL_lst, mRT_lst, mKD_lst, ix_tupE, ix_rlE, ix_refE, gt_int, lt_int, le_int, ge_int, eq_int, ne_int, eq_bl, eq_str, is_non, is_bl', len_tup, len_rl, len_ref, tup_tup, tup_ref, int_int, abs_int, rcv_ref, rcv_tup, bm_app, bm_pop, bm_cnt, hm_app, hm_pop, hm_cnt, add_int, add_tup, add_ref, sub_int, mul_int, mul_tup, fdiv_int, mod_int, pow_int, slc_tup, slc_rl, slc_ref, rev_tup, rev_ref, tru_bl, tru_int, tru_tup, knd_int, knd_bl, knd_non, knd_str, knd_tup, knd_ref, wk_tup, wk_rl, wk_ref, at0, at1, atm, true_and, and_true, sup_same, if_true, if_false, Bool.false_eq_true, reduceIte, List.getElem?_cons_zero, List.getElem?_cons_succ, List.set_cons_zero, List.set_cons_succ, bind_name, bind_tup, binds_nil, binds_cons, pars, putR, Bool.not_true]
      exact hN _ ⟨ys, rfl, fun z hz => h1 z (List.mem_cons_of_mem _ hz), h2.trans hT', hT' _ _ h3⟩
  · rintro T ⟨ys, e, h1, h2, h3⟩
    refine ⟨h2 _ _ hp, ?_⟩
    simp only [mAt_some, mL_lst, mRT_lst, mKD_lst, ix_tupE, ix_rlE, ix_refE, gt_int, lt_int, le_int, ge_int, eq_int, ne_int, eq_bl, eq_str, is_non, is_bl', len_tup, len_rl, len_ref, tup_tup, tup_ref, int_int, abs_int, rcv_ref, rcv_tup, bm_app, bm_pop, bm_cnt, hm_app, hm_pop, hm_cnt, add_int, add_tup, add_ref, sub_int, mul_int, mul_tup, fdiv_int, mod_int, pow_int, slc_tup, slc_rl, slc_ref, rev_tup, rev_ref, tru_bl, tru_int, tru_tup, knd_int, knd_bl, knd_non, knd_str, knd_tup, knd_ref, wk_tup, wk_rl, wk_ref, at0, at1, atm, true_and, and_true, sup_same, if_true, if_false, Bool.false_eq_true, reduceIte, List.getElem?_cons_zero, List.getElem?_cons_succ, List.set_cons_zero, List.set_cons_succ, bind_name, bind_tup, binds_nil, binds_cons, pars, putR, h3, List.length_nil]
    exact h T h2
end Lt

set_option Elab.async false
set_option linter.all false
set_option maxRecDepth 100000
set_option maxHeartbeats 4000000
namespace Lt
open PySem PySem.Spec PyProof.Rows L2

/-! ## towards the end of a law -/
theorem kw_bn {K : PySem.W.Frag} {x qual : Str} {params : Arguments} {body : List Stmt} {scope : Scope} {f : Addr} {fd : FuncData} {n : Nat} {ks ps : List Str} (F : FunD K x qual params body scope [] [] f fd)
    (h : ∀ (kV doc pm : Value) (an : Option Addr) (cdv ct : Value) (us ws : List Value), us.length = n → ws.length = ks.length → bindArgs (PySem.W.fnOf x qual params body scope .none kV doc pm an cdv ct) ⟨us, ks.zip ws⟩ = pure (ps.zip (us ++ kwOrd ps n ks ws))) :
    KBn K fd ps n ks (fun us ws => us ++ kwOrd ps n ks ws) (fun vs zs => vs ++ kwOrd ps n ks zs) := by
  obtain ⟨oc, od, dV, kV, doc, pm, an, cdv, ct, osl, rfl, lk, hcd, hD, hK⟩ := F.ex
  rcases hD with ⟨_, rfl⟩ | ⟨e, _⟩
  · exact ⟨fun s us ws X l1 l2 => BindsTo.of_eq (h kV doc pm an cdv ct us ws l1 l2), fun r1 r2 => r1.append (kwOrd_vals r2 _)⟩
  · exact absurd rfl e
theorem fn_eq {G : Glob} {T : List Lt.Row} {nat : Nat'} {n : Nat} {f : Str} {r : Lt.Row} (h : nat f = none) (hr : T.find? (fun (r : Lt.Row) => r.name == f) = some r) : (lvl G T nat (n + 1)).fn f = rowD G (lvl G T nat n) r := by
  show (match nat f with
    | some g => g
    | none => match T.find? (fun (r : Lt.Row) => r.name == f) with
      | some r => rowD G (lvl G T nat n) r
      | none => fun _ _ _ => False) = _
  rw [h, hr]
theorem nat_eq {G : Glob} {T : List Lt.Row} {nat : Nat'} {n : Nat} {f : Str} {g : List D → Sto → Kt → Prop} (h : nat f = some g) : (lvl G T nat (n + 1)).fn f = g := by
  show (match nat f with
    | some g => g
    | none => _) = _
  rw [h]
theorem no_kw {G : Glob} {f : Str} (h : f ∉ G.kws.map (·.1)) {n : Nat} {ks : List Str} : (f, n, ks) ∉ G.kws := fun m => h (List.mem_map_of_mem (f := (·.1)) m)
/-- the law's own argument -/
theorem script_sp {K : PySem.W.Frag} {H : Hp} {a : Addr} {ns : List Int} {n : Nat} {g : List D → Sto → Kt → Prop} (hl : ns.length ≤ n) (hn : n ≤ sizeLine) (hO : Only H) (hS : SqL K H a (ns.map V.int))
    (h : g [.rl (ns.map D.int)] (fun _ => none) fun d _ => d = .bl true) : liftSp K g [.ref a] H (fun v _ => v = .bl true) (fun _ _ _ => False) := by
  have ro : RoL K H a (ns.map V.int) := by
    rcases hS with (q | ⟨o, q⟩) | q
    · rcases hO a with e | ⟨o, xs, e⟩
      · rw [q] at e; cases e
      · rw [q] at e; cases e
    · exact .inl ⟨o, q⟩
    · exact .inr q
  refine ⟨[.rl (ns.map D.int)], fun _ => none, _, ⟨_, [], rfl, ⟨a, _, rfl, ro, by rw [List.length_map]; omega, RelDs.ints⟩, rfl⟩, ⟨fun _ _ e => (by cases e), ⟨fun x => x, fun _ e => (by cases e), fun _ _ e => (by cases e)⟩⟩, h, fun d S' v H' e k x rs rd => ?_⟩
  subst e
  exact rd
end Lt

set_option Elab.async false
set_option linter.all false
set_option maxRecDepth 100000
set_option maxHeartbeats 4000000
namespace K03
open PySem PySem.Spec PyProof.Rows L2 Lt
def top (i : Nat) : Stmt := PySem.Challenge.pw_maystand_k03_whole_reduced_rows_form_a_g.main.body.getD i (.Pass ⟨0, 0, 0, 0⟩)
def b_folded : LSs := (.cons (.asg (.name 1) (.lst .nil)) (.cons (.for_ (.name 2) (.ex (.var 0))
      (.cons (.ite (.and (.val (.cmp .ne (.var 1) (.lst .nil))) (.last (.val (.cmp .eq (.idx (.var 1) (.neg (.int 1))) (.var 2)))))
      (.cons (.ex (.bm .pop (.var 1) .nil)) .nil)
      (.cons (.ex (.bm .append (.var 1) (.cons (.var 2) .nil))) .nil)) .nil)) (.cons (.ret (.bcall .tuple (.cons (.var 1) .nil))) .nil)))
def r_folded : Lt.Row := ⟨"folded", ["steps"], ["steps", "found", "thing"], b_folded, defArgs (top 1), defBody (top 1), defScope (top 1)⟩
def b_joined_steps : LSs := (.cons (.ret (.call "folded" (.cons (.bin .add (.bcall .tuple (.cons (.var 0) .nil)) (.bcall .tuple (.cons (.var 1) .nil))) .nil))) .nil)
def r_joined_steps : Lt.Row := ⟨"joined_steps", ["one", "other"], ["one", "other"], b_joined_steps, defArgs (top 2), defBody (top 2), defScope (top 2)⟩
def b_back : LSs := (.cons (.ret (.rev (.bcall .tuple (.cons (.var 0) .nil)))) .nil)
def r_back : Lt.Row := ⟨"back", ["steps"], ["steps"], b_back, defArgs (top 4), defBody (top 4), defScope (top 4)⟩
def b__law_deal : LSs := (.cons (.asg (.name 2) (.bin .mul (.bin .mul (.bin .mul (.bin .mul (.bin .mul (.bin .pow (.int 10) (.int 64)) (.bin .pow (.int 10) (.int 64))) (.bin .pow (.int 10) (.int 64))) (.bin .pow (.int 10) (.int 64))) (.bin .pow (.int 10) (.int 64))) (.bin .pow (.int 10) (.int 64)))) (.cons (.par [3, 4] (.cons (.comp (.bin .mod (.bcall .int (.cons (.bcall .abs (.cons (.bcall .int (.cons (.var 5) .nil)) .nil)) .nil)) (.var 2)) (.name 5) (.ex (.slc (.var 0) .none (.some (.int 63)))) .none [("cell", 5)]) (.cons (.bin .add (.int 90031) (.bin .mul (.int 6073) (.var 1))) .nil))) (.cons (.for_ (.name 5) (.ex (.var 3))
      (.cons (.asg (.name 4) (.bin .mod (.bcall .int (.cons (.bin .add (.bin .add (.bin .mul (.var 4) (.int 69621)) (.bin .mod (.bcall .int (.cons (.var 5) .nil)) (.int 2147483563))) (.int 29)) .nil)) (.int 2147483647))) .nil)) (.cons (.ret (.lst (.cons (.rev (.comp (.var 5) (.name 5) (.ex (.var 3)) (.some (.val (.cmp .ge (.var 5) (.bin .pow (.int 10) (.int 18))))) [("cell", 5)])) (.cons (.var 4) .nil)))) .nil))))
def r__law_deal : Lt.Row := ⟨"_law_deal", ["script", "salt"], ["script", "salt", "wide", "cells", "mix", "cell"], b__law_deal, defArgs (top 6), defBody (top 6), defScope (top 6)⟩
def b__law_any : LSs := (.cons (.whl (.and (.val (.cmp .gt (.bcall .len (.cons (.idx (.var 0) (.int 0)) .nil)) (.int 0))) (.last (.val (.cmp .eq (.idx (.idx (.var 0) (.int 0)) (.neg (.int 1))) (.int 0)))))
      (.cons (.ex (.bm .pop (.idx (.var 0) (.int 0)) .nil)) .nil)) (.cons (.ite (.val (.cmp .gt (.bcall .len (.cons (.idx (.var 0) (.int 0)) .nil)) (.int 0)))
      (.cons (.asg (.name 2) (.bcall .int (.cons (.bm .pop (.idx (.var 0) (.int 0)) .nil) .nil))) (.cons (.ex (.bm .append (.idx (.var 0) (.int 0)) (.cons (.bin .fdiv (.var 2) (.var 1)) .nil))) (.cons (.ret (.bin .mod (.var 2) (.var 1))) .nil)))
      .nil) (.cons (.sub (.var 0) (.int 1) (.bin .mod (.bcall .int (.cons (.bin .add (.bin .mul (.idx (.var 0) (.int 1)) (.int 48271)) (.int 37)) .nil)) (.int 2147483647))) (.cons (.ret (.bin .mod (.bcall .int (.cons (.bin .fdiv (.idx (.var 0) (.int 1)) (.int 64)) .nil)) (.var 1))) .nil))))
def r__law_any : Lt.Row := ⟨"_law_any", ["deal", "bound"], ["deal", "bound", "rest"], b__law_any, defArgs (top 7), defBody (top 7), defScope (top 7)⟩
def b__law_of : LSs := (.cons (.ret (.idx (.var 1) (.call "_law_any" (.cons (.var 0) (.cons (.bcall .len (.cons (.var 1) .nil)) .nil))))) .nil)
def r__law_of : Lt.Row := ⟨"_law_of", ["deal", "some"], ["deal", "some"], b__law_of, defArgs (top 8), defBody (top 8), defScope (top 8)⟩
def b__law_is_kind : LSs := (.cons (.ite (.val (.cmp .is_ (.var 1) .non))
      (.cons (.ret (.cmp .is_ (.var 0) .non)) .nil)
      .nil) (.cons (.ite (.or (.val (.cmp .is_ (.var 1) (.bl true))) (.last (.val (.cmp .is_ (.var 1) (.bl false)))))
      (.cons (.ret (.ite (.tru (.var 1)) (.cmp .is_ (.var 0) (.bl true)) (.cmp .is_ (.var 0) (.bl false)))) .nil)
      .nil) (.cons (.ite (.tru (.isi (.var 1) [.str]))
      (.cons (.ret (.and (.isi (.var 0) [.str]) (.one (.cmp .eq (.var 0) (.var 1))))) .nil)
      .nil) (.cons (.ret (.and (.isi (.var 0) [.int]) (.and (.not (.isi (.var 0) [.bool])) (.one (.cmp .eq (.var 0) (.var 1)))))) .nil))))
def r__law_is_kind : Lt.Row := ⟨"_law_is_kind", ["told", "due"], ["told", "due"], b__law_is_kind, defArgs (top 9), defBody (top 9), defScope (top 9)⟩
def b__law_same : LSs := (.cons (.asg (.name 2) (.lst (.cons (.tup (.cons (.var 0) (.cons (.var 1) .nil))) .nil))) (.cons (.whl (.val (.cmp .gt (.bcall .len (.cons (.var 2) .nil)) (.int 0)))
      (.cons (.asg (.tup (.cons (.name 3) (.cons (.name 4) .nil))) (.bm .pop (.var 2) .nil)) (.cons (.ite (.tru (.isi (.var 4) [.tup]))
      (.cons (.ite (.or (.not (.tru (.isi (.var 3) [.tup]))) (.last (.val (.cmp .ne (.bcall .len (.cons (.var 3) .nil)) (.bcall .len (.cons (.var 4) .nil))))))
      (.cons (.ret (.bl false)) .nil)
      .nil) (.cons (.asg (.name 2) (.bin .add (.var 2) (.lzip (.var 3) (.var 4)))) .nil))
      (.cons (.ite (.or (.tru (.isi (.var 3) [.tup, .lst, .dict])) (.last (.not (.tru (.call "_law_is_kind" (.cons (.var 3) (.cons (.var 4) .nil)))))))
      (.cons (.ret (.bl false)) .nil)
      .nil) .nil)) .nil))) (.cons (.ret (.bl true)) .nil)))
def r__law_same : Lt.Row := ⟨"_law_same", ["told", "due"], ["told", "due", "todo", "one", "other"], b__law_same, defArgs (top 10), defBody (top 10), defScope (top 10)⟩
def b__law_all : LSs := (.cons (.ret (.cmp .eq (.bcall .len (.cons (.comp (.var 1) (.tup (.cons (.name 1) (.cons (.name 2) .nil))) (.ex (.var 0)) (.some (.not (.tru (.call "_law_same" (.cons (.var 1) (.cons (.var 2) .nil)))))) [("told", 1), ("due", 2)]) .nil)) (.int 0))) .nil)
def r__law_all : Lt.Row := ⟨"_law_all", ["pairs"], ["pairs", "told", "due"], b__law_all, defArgs (top 11), defBody (top 11), defScope (top 11)⟩
def b__law_fold : LSs := (.cons (.asg (.name 1) (.lst .nil)) (.cons (.for_ (.name 2) (.ex (.var 0))
      (.cons (.ite (.and (.val (.cmp .gt (.bcall .len (.cons (.var 1) .nil)) (.int 0))) (.last (.val (.cmp .eq (.idx (.var 1) (.neg (.int 1))) (.var 2)))))
      (.cons (.ex (.bm .pop (.var 1) .nil)) .nil)
      (.cons (.ex (.bm .append (.var 1) (.cons (.var 2) .nil))) .nil)) .nil)) (.cons (.ret (.bcall .tuple (.cons (.var 1) .nil))) .nil)))
def r__law_fold : Lt.Row := ⟨"_law_fold", ["steps"], ["steps", "found", "thing"], b__law_fold, defArgs (top 12), defBody (top 12), defScope (top 12)⟩
def b__law_rows : LSs := (.cons (.par [2, 3] (.cons (.call "_law_any" (.cons (.var 0) (.cons (.int 4) .nil))) (.cons (.call "_law_of" (.cons (.var 0) (.cons (.lst (.cons (.int 0) (.cons (.int 1) (.cons (.int 2) (.cons (.int 7) (.cons (.int 40) (.cons (.int 300) .nil))))))) .nil))) .nil))) (.cons (.ite (.val (.cmp .eq (.var 2) (.int 0)))
      (.cons (.ret (.bcall .tuple (.cons (.comp (.call "_law_any" (.cons (.var 0) (.cons (.var 1) .nil))) (.name 4) (.rng1 (.var 3)) .none [("turn", 4)]) .nil))) .nil)
      .nil) (.cons (.ite (.val (.cmp .eq (.var 2) (.int 1)))
      (.cons (.ret (.bin .mul (.tup (.cons (.call "_law_any" (.cons (.var 0) (.cons (.var 1) .nil))) .nil)) (.var 3))) .nil)
      .nil) (.cons (.asg (.name 5) (.comp (.call "_law_any" (.cons (.var 0) (.cons (.var 1) .nil))) (.name 4) (.rng1 (.bin .fdiv (.var 3) (.int 4))) .none [("turn", 4)])) (.cons (.for_ (.name 4) (.rng1 (.bin .fdiv (.var 3) (.int 3)))
      (.cons (.par [6, 7] (.cons (.call "_law_any" (.cons (.var 0) (.cons (.bin .add (.bcall .len (.cons (.var 5) .nil)) (.int 1)) .nil))) (.cons (.call "_law_any" (.cons (.var 0) (.cons (.var 1) .nil))) .nil))) (.cons (.asg (.name 5) (.bin .add (.bin .add (.slc (.var 5) .none (.some (.var 6))) (.lst (.cons (.var 7) (.cons (.var 7) .nil)))) (.slc (.var 5) (.some (.var 6)) .none))) .nil))) (.cons (.ret (.ite (.val (.cmp .eq (.var 2) (.int 3))) (.bcall .tuple (.cons (.bin .add (.var 5) (.rev (.var 5))) .nil)) (.bcall .tuple (.cons (.var 5) .nil)))) .nil))))))
def r__law_rows : Lt.Row := ⟨"_law_rows", ["deal", "things"], ["deal", "things", "sort", "size", "turn", "row", "at", "thing"], b__law_rows, defArgs (top 13), defBody (top 13), defScope (top 13)⟩
def b__law_odd : LSs := (.cons (.ret (.bcall .tuple (.cons (.comp (.var 1) (.name 1) (.rng1 (.int 8)) (.some (.val (.cmp .eq (.bin .mod (.bcall .int (.cons (.bm .count (.var 0) (.cons (.var 1) .nil)) .nil)) (.int 2)) (.int 1)))) [("thing", 1)]) .nil))) .nil)
def r__law_odd : Lt.Row := ⟨"_law_odd", ["steps"], ["steps", "thing"], b__law_odd, defArgs (top 14), defBody (top 14), defScope (top 14)⟩
def b_law : LSs := (.cons (.asg (.tup (.cons (.name 1) (.cons (.name 2) .nil))) (.tup (.cons (.call "_law_deal" (.cons (.var 0) (.cons (.int 1003) .nil))) (.cons (.lst .nil) .nil)))) (.cons (.for_ (.name 3) (.rng1 (.int 5))
      (.cons (.asg (.name 4) (.bin .add (.int 1) (.call "_law_any" (.cons (.var 1) (.cons (.int 8) .nil))))) (.cons (.par [5, 6, 7] (.cons (.call "_law_rows" (.cons (.var 1) (.cons (.var 4) .nil))) (.cons (.call "_law_rows" (.cons (.var 1) (.cons (.var 4) .nil))) (.cons (.call "_law_rows" (.cons (.var 1) (.cons (.var 4) .nil))) .nil)))) (.cons (.asg (.name 8) (.ite (.val (.cmp .eq (.var 3) (.int 0))) (.callk "folded" .nil ["steps"] (.cons (.var 5) .nil)) (.call "folded" (.cons (.var 5) .nil)))) (.cons (.asg (.name 2) (.bin .add (.var 2) (.lst (.cons (.tup (.cons (.var 8) (.cons (.call "_law_fold" (.cons (.var 5) .nil)) .nil))) (.cons (.tup (.cons (.ite (.val (.cmp .eq (.var 3) (.int 0))) (.callk "back" .nil ["steps"] (.cons (.var 5) .nil)) (.call "back" (.cons (.var 5) .nil))) (.cons (.rev (.var 5)) .nil))) .nil))))) (.cons (.asg (.name 2) (.bin .add (.var 2) (.lst (.cons (.tup (.cons (.ite (.val (.cmp .eq (.var 3) (.int 0))) (.callk "joined_steps" .nil ["one", "other"] (.cons (.var 5) (.cons (.var 6) .nil))) (.call "joined_steps" (.cons (.var 5) (.cons (.var 6) .nil)))) (.cons (.call "_law_fold" (.cons (.bin .add (.var 5) (.var 6)) .nil)) .nil))) .nil)))) (.cons (.asg (.name 2) (.bin .add (.var 2) (.lst (.cons (.tup (.cons (.call "joined_steps" (.cons (.call "joined_steps" (.cons (.var 5) (.cons (.var 6) .nil))) (.cons (.var 7) .nil))) (.cons (.call "_law_fold" (.cons (.bin .add (.bin .add (.var 5) (.var 6)) (.var 7)) .nil)) .nil))) (.cons (.tup (.cons (.call "joined_steps" (.cons (.var 5) (.cons (.call "joined_steps" (.cons (.var 6) (.cons (.var 7) .nil))) .nil))) (.cons (.call "_law_fold" (.cons (.bin .add (.bin .add (.var 5) (.var 6)) (.var 7)) .nil)) .nil))) .nil))))) (.cons (.asg (.name 2) (.bin .add (.var 2) (.lst (.cons (.tup (.cons (.call "joined_steps" (.cons (.var 5) (.cons (.call "back" (.cons (.var 5) .nil)) .nil))) (.cons (.tup .nil) .nil))) (.cons (.tup (.cons (.call "joined_steps" (.cons (.call "back" (.cons (.var 5) .nil)) (.cons (.var 5) .nil))) (.cons (.tup .nil) .nil))) (.cons (.tup (.cons (.call "joined_steps" (.cons (.var 5) (.cons (.tup .nil) .nil))) (.cons (.call "_law_fold" (.cons (.var 5) .nil)) .nil))) (.cons (.tup (.cons (.call "joined_steps" (.cons (.tup .nil) (.cons (.var 5) .nil))) (.cons (.call "_law_fold" (.cons (.var 5) .nil)) .nil))) .nil))))))) (.cons (.asg (.name 2) (.bin .add (.var 2) (.lst (.cons (.tup (.cons (.call "folded" (.cons (.call "back" (.cons (.var 5) .nil)) .nil)) (.cons (.rev (.call "_law_fold" (.cons (.var 5) .nil))) .nil))) (.cons (.tup (.cons (.call "back" (.cons (.call "folded" (.cons (.var 5) .nil)) .nil)) (.cons (.rev (.call "_law_fold" (.cons (.var 5) .nil))) .nil))) (.cons (.tup (.cons (.call "folded" (.cons (.call "folded" (.cons (.var 5) .nil)) .nil)) (.cons (.call "_law_fold" (.cons (.var 5) .nil)) .nil))) .nil)))))) (.cons (.asg (.name 2) (.bin .add (.var 2) (.lst (.cons (.tup (.cons (.call "joined_steps" (.cons (.call "back" (.cons (.var 6) .nil)) (.cons (.call "back" (.cons (.var 5) .nil)) .nil))) (.cons (.rev (.call "_law_fold" (.cons (.bin .add (.var 5) (.var 6)) .nil))) .nil))) .nil)))) (.cons (.ite (.tru (.isi (.var 8) [.tup]))
      (.cons (.asg (.name 2) (.bin .add (.var 2) (.lst (.cons (.tup (.cons (.call "_law_odd" (.cons (.var 8) .nil)) (.cons (.call "_law_odd" (.cons (.var 5) .nil)) .nil))) (.cons (.tup (.cons (.bin .mod (.bcall .int (.cons (.bin .sub (.bcall .len (.cons (.var 5) .nil)) (.bcall .len (.cons (.var 8) .nil))) .nil)) (.int 2)) (.cons (.int 0) .nil))) (.cons (.tup (.cons (.bcall .len (.cons (.comp (.var 9) (.name 9) (.rng1 (.bin .sub (.bcall .len (.cons (.var 8) .nil)) (.int 1))) (.some (.val (.cmp .eq (.idx (.var 8) (.var 9)) (.idx (.var 8) (.bin .add (.var 9) (.int 1)))))) [("at", 9)]) .nil)) (.cons (.int 0) .nil))) .nil)))))) .nil)
      .nil) .nil))))))))))) (.cons (.asg (.name 10) (.bcall .tuple (.cons (.comp (.call "_law_any" (.cons (.var 1) (.cons (.int 3) .nil))) (.name 3) (.rng1 (.int 700)) .none [("turn", 3)]) .nil))) (.cons (.asg (.name 2) (.bin .add (.var 2) (.lst (.cons (.tup (.cons (.call "folded" (.cons (.bin .add (.bin .add (.var 10) (.rev (.var 10))) (.tup (.cons (.int 2) .nil))) .nil)) (.cons (.tup (.cons (.int 2) .nil)) .nil))) (.cons (.tup (.cons (.call "joined_steps" (.cons (.var 10) (.cons (.bin .add (.rev (.var 10)) (.tup (.cons (.int 0) (.cons (.int 1) (.cons (.int 0) .nil))))) .nil))) (.cons (.tup (.cons (.int 0) (.cons (.int 1) (.cons (.int 0) .nil)))) .nil))) (.cons (.tup (.cons (.call "folded" (.cons (.bin .mul (.tup (.cons (.int 0) (.cons (.int 1) .nil))) (.int 1000)) .nil)) (.cons (.bin .mul (.tup (.cons (.int 0) (.cons (.int 1) .nil))) (.int 1000)) .nil))) .nil)))))) (.cons (.asg (.name 2) (.bin .add (.var 2) (.lst (.cons (.tup (.cons (.call "folded" (.cons (.bin .mul (.tup (.cons (.int 0) .nil)) (.int 2000)) .nil)) (.cons (.tup .nil) .nil))) (.cons (.tup (.cons (.call "folded" (.cons (.bin .mul (.tup (.cons (.int 5) .nil)) (.int 1999)) .nil)) (.cons (.tup (.cons (.int 5) .nil)) .nil))) (.cons (.tup (.cons (.call "joined_steps" (.cons (.tup (.cons (.int 0) (.cons (.int 1) (.cons (.int 1) (.cons (.int 0) .nil))))) (.cons (.tup (.cons (.int 2) .nil)) .nil))) (.cons (.tup (.cons (.int 2) .nil)) .nil))) (.cons (.tup (.cons (.call "back" (.cons (.tup .nil) .nil)) (.cons (.tup .nil) .nil))) .nil))))))) (.cons (.ret (.call "_law_all" (.cons (.var 2) .nil))) .nil))))))
def r_law : Lt.Row := ⟨"law", ["script"], ["script", "deal", "pairs", "turn", "things", "one", "other", "last", "short", "at", "wide"], b_law, defArgs (top 15), defBody (top 15), defScope (top 15)⟩
def T : List Lt.Row := [r_folded, r_joined_steps, r_back, r__law_deal, r__law_any, r__law_of, r__law_is_kind, r__law_same, r__law_all, r__law_fold, r__law_rows, r__law_odd, r_law]
def parTab : List (Str × List Str) := [("folded", ["steps"]), ("joined_steps", ["one", "other"]), ("back", ["steps"]), ("_law_deal", ["script", "salt"]), ("_law_any", ["deal", "bound"]), ("_law_of", ["deal", "some"]), ("_law_is_kind", ["told", "due"]), ("_law_same", ["told", "due"]), ("_law_all", ["pairs"]), ("_law_fold", ["steps"]), ("_law_rows", ["deal", "things"]), ("_law_odd", ["steps"]), ("law", ["script"])]
def G : Glob where
  con := fun _ => none
  free := ["abs", "bool", "dict", "int", "isinstance", "len", "list", "range", "str", "tuple", "zip"]
  fns := ["folded", "joined_steps", "back", "_law_deal", "_law_any", "_law_of", "_law_is_kind", "_law_same", "_law_all", "_law_fold", "_law_rows", "_law_odd"]
  pars := fun f => (parTab.lookup f).getD []
  kws := [("back", 0, ["steps"]), ("folded", 0, ["steps"]), ("joined_steps", 0, ["one", "other"])]
  classes := []
  fields := fun _ => []
  meths := []
  mks := []
theorem c_folded : rowC G r_folded = true := by kernel_rfl
theorem c_joined_steps : rowC G r_joined_steps = true := by kernel_rfl
theorem c_back : rowC G r_back = true := by kernel_rfl
theorem c__law_of : rowC G r__law_of = true := by kernel_rfl
theorem c__law_is_kind : rowC G r__law_is_kind = true := by kernel_rfl
theorem c__law_same : rowC G r__law_same = true := by kernel_rfl
theorem c__law_all : rowC G r__law_all = true := by kernel_rfl
theorem c__law_fold : rowC G r__law_fold = true := by kernel_rfl
theorem c__law_rows : rowC G r__law_rows = true := by kernel_rfl
theorem c__law_odd : rowC G r__law_odd = true := by kernel_rfl
theorem c_law : rowC G r_law = true := by kernel_rfl
theorem c__law_deal : rowC G r__law_deal = true := by kernel_rfl
theorem c__law_any : rowC G r__law_any = true := by kernel_rfl
end K03

set_option linter.all false
namespace K03
/-! ## rows of steps, put together: each step is its own way back -/
def step (s : List Int) (x : Int) : List Int := match s with
  | y :: r => if y = x then r else x :: y :: r
  | [] => [x]
def act (xs : List Int) (s : List Int) : List Int := xs.foldl step s
def fold (xs : List Int) : List Int := (act xs []).reverse
/-- no two neighbours alike -/
def red : List Int → Prop
  | x :: y :: r => x ≠ y ∧ red (y :: r)
  | _ => True
theorem act_nil (s : List Int) : act [] s = s := rfl
theorem act_cons (x : Int) (xs s : List Int) : act (x :: xs) s = act xs (step s x) := rfl
theorem act_app (xs ys s : List Int) : act (xs ++ ys) s = act ys (act xs s) := List.foldl_append
theorem act_snoc (xs : List Int) (x : Int) (s : List Int) : act (xs ++ [x]) s = step (act xs s) x := by rw [act_app]; rfl
theorem red_tail {x : Int} {r : List Int} (h : red (x :: r)) : red r := by
  cases r with
  | nil => trivial
  | cons y r => exact h.2
theorem red_step {s : List Int} (x : Int) (h : red s) : red (step s x) := by
  cases s with
  | nil => trivial
  | cons y r =>
    unfold step
    by_cases e : y = x
    · simp only [e, if_true]; exact red_tail h
    · simp only [e, if_false]; exact ⟨fun z => e z.symm, h⟩
theorem red_act {s : List Int} : ∀ (xs : List Int), red s → red (act xs s) := by
  intro xs
  induction xs generalizing s with
  | nil => exact fun h => h
  | cons x xs ih => exact fun h => ih (red_step x h)
theorem step_step {s : List Int} (x : Int) (h : red s) : step (step s x) x = s := by
  cases s with
  | nil => simp [step]
  | cons y r =>
    by_cases e : y = x
    · subst e
      simp only [step, if_true]
      cases r with
      | nil => rfl
      | cons z r =>
        have n : ¬ z = y := fun q => h.1 q.symm
        simp only [step, n, if_false]
    · simp only [step, e, if_false, if_true]
theorem act_rev {s : List Int} : ∀ (xs : List Int), red s → act xs.reverse (act xs s) = s := by
  intro xs
  induction xs generalizing s with
  | nil => exact fun _ => rfl
  | cons x xs ih =>
    intro h
    rw [List.reverse_cons, act_snoc, act_cons, ih (red_step x h), step_step x h]
/-- a reduced row is laid as it is -/
theorem act_self : ∀ {s : List Int}, red s → act s.reverse [] = s
  | [], _ => rfl
  | x :: r, h => by
    rw [List.reverse_cons, act_snoc, act_self (red_tail h)]
    cases r with
    | nil => rfl
    | cons y r =>
      have n : ¬ y = x := fun q => h.1 q.symm
      simp only [step, n, if_false]
/-- what is left acts as the whole -/
theorem act_fold : ∀ (n : Nat) (xs : List Int) (t : List Int), xs.length = n → red t → act (act xs []).reverse t = act xs t := by
  intro n
  induction n with
  | zero =>
    intro xs t hn _
    have : xs = [] := List.length_eq_zero_iff.mp hn
    subst this
    rfl
  | succ n ih =>
    intro xs t hn ht
    rcases List.eq_nil_or_concat xs with rfl | ⟨ys, x, rfl⟩
    · simp at hn
    · rw [List.concat_eq_append] at hn ⊢
      have hy : ys.length = n := by simp at hn; exact hn
      have IH := ih ys t hy ht
      rw [act_snoc, act_snoc]
      have hs : red (act ys []) := red_act ys trivial
      have e := ih ys t hy ht
      cases hq : act ys [] with
      | nil =>
        rw [hq] at IH
        have IH : t = act ys t := IH
        show step t x = step (act ys t) x
        rw [← IH]
      | cons y r =>
        rw [hq] at IH hs
        rw [List.reverse_cons, act_snoc] at IH
        by_cases e : y = x
        · subst e
          simp only [step, if_true]
          rw [← IH]
          exact (step_step _ (red_act _ ht)).symm
        · have : step (y :: r) x = x :: y :: r := by simp only [step, e, if_false]
          rw [this, List.reverse_cons, act_snoc, List.reverse_cons, act_snoc, IH]
theorem red_fold (xs : List Int) : red (act xs []) := red_act xs trivial
theorem fold_fold_l (xs ys : List Int) : fold (fold xs ++ ys) = fold (xs ++ ys) := by
  unfold fold
  rw [act_app, act_app, act_fold _ xs [] rfl trivial]
theorem fold_fold_r (xs ys : List Int) : fold (xs ++ fold ys) = fold (xs ++ ys) := by
  unfold fold
  rw [act_app, act_app, act_fold _ ys _ rfl (red_fold xs)]
theorem fold_fold (xs : List Int) : fold (fold xs) = fold xs := by
  have := fold_fold_l xs []
  rw [List.append_nil, List.append_nil] at this
  exact this
theorem fold_inv (xs : List Int) : fold (xs ++ xs.reverse) = [] := by
  unfold fold
  rw [act_app, act_rev xs (show red [] from trivial)]
  rfl
theorem fold_inv2 (xs : List Int) : fold (xs.reverse ++ xs) = [] := by
  have := fold_inv xs.reverse
  rw [List.reverse_reverse] at this
  exact this
theorem red_append_single : ∀ {r : List Int} {x : Int}, red (r ++ [x]) → red r
  | [], _, _ => trivial
  | [_], _, _ => trivial
  | a :: b :: r, x, h => ⟨h.1, red_append_single (r := b :: r) h.2⟩
theorem red_reverse : ∀ {s : List Int}, red s → red s.reverse
  | [], _ => trivial
  | [_], _ => trivial
  | a :: b :: r, h => by
    have h2 := red_reverse h.2
    rw [List.reverse_cons] at h2
    rw [List.reverse_cons, List.reverse_cons, List.append_assoc]
    have key : ∀ (l : List Int), red (l ++ [b]) → red (l ++ [b, a]) := by
      intro l
      induction l with
      | nil => intro _; exact ⟨fun z => h.1 z.symm, trivial⟩
      | cons c l ih =>
        intro hl
        cases l with
        | nil => exact ⟨hl.1, ih trivial⟩
        | cons d l => exact ⟨hl.1, ih hl.2⟩
    exact key _ h2
theorem fold_rev (xs : List Int) : fold xs.reverse = (fold xs).reverse := by
  unfold fold
  rw [List.reverse_reverse]
  have hs := red_fold xs
  have ht := red_fold xs.reverse
  have h9 : act xs (act xs.reverse []) = [] := by
    have := act_rev (s := []) xs.reverse trivial
    rw [List.reverse_reverse] at this
    exact this
  have h10 : act (act xs []).reverse (act xs.reverse []) = [] := by rw [act_fold _ xs _ rfl ht]; exact h9
  have h11 : act (act xs []).reverse.reverse (act (act xs []).reverse (act xs.reverse [])) = act xs.reverse [] := act_rev _ ht
  rw [h10] at h11
  have h12 := act_self (red_reverse hs)
  rw [h11] at h12
  rw [h12, List.reverse_reverse]
theorem fold_of_red {xs : List Int} (h : red xs) : fold xs = xs := by
  unfold fold
  have := act_self (red_reverse h)
  rw [List.reverse_reverse] at this
  rw [this, List.reverse_reverse]
theorem red_of_fold (xs : List Int) : red (fold xs) := red_reverse (red_fold xs)
theorem red_next : ∀ {s : List Int} {i : Nat} {x y : Int}, red s → s[i]? = some x → s[i + 1]? = some y → x ≠ y
  | [], _, _, _, _, h, _ => by simp at h
  | [_], 0, _, _, _, _, h => by simp at h
  | [_], i + 1, _, _, _, h, _ => by simp at h
  | a :: b :: r, 0, x, y, h, h1, h2 => by
    simp at h1 h2
    subst h1 h2
    exact h.1
  | a :: b :: r, i + 1, x, y, h, h1, h2 => red_next (s := b :: r) (i := i) h.2 (by simpa using h1) (by simpa using h2)
theorem step_count (s : List Int) (x t : Int) : (step s x).count t % 2 = (s.count t + (if x = t then 1 else 0)) % 2 := by
  cases s with
  | nil =>
    by_cases e : x = t
    · subst e; simp [step]
    · simp [step, e]
  | cons y r =>
    by_cases h : y = x
    · subst h
      by_cases e : y = t
      · subst e; simp [step]; omega
      · simp [step, e]
    · by_cases e : x = t
      · subst e; simp [step, h]
      · simp [step, h, e]
theorem act_count (t : Int) : ∀ (xs s : List Int), (act xs s).count t % 2 = (s.count t + xs.count t) % 2 := by
  intro xs
  induction xs with
  | nil => intro s; simp [act]
  | cons x xs ih =>
    intro s
    rw [act_cons, ih, List.count_cons]
    have := step_count s x t
    by_cases e : x = t
    · subst e
      simp at this ⊢
      omega
    · simp [e] at this ⊢
      omega
theorem fold_count (t : Int) (xs : List Int) : (fold xs).count t % 2 = xs.count t % 2 := by
  unfold fold
  rw [List.count_reverse, act_count]
  simp
theorem step_len (s : List Int) (x : Int) : (step s x).length % 2 = (s.length + 1) % 2 ∧ (step s x).length ≤ s.length + 1 := by
  cases s with
  | nil => simp [step]
  | cons y r =>
    have e : step (y :: r) x = if y = x then r else x :: y :: r := rfl
    rw [e]
    by_cases h : y = x
    · rw [if_pos h, List.length_cons]; omega
    · rw [if_neg h, List.length_cons, List.length_cons]; omega
theorem act_len : ∀ (xs s : List Int), (act xs s).length % 2 = (s.length + xs.length) % 2 ∧ (act xs s).length ≤ s.length + xs.length := by
  intro xs
  induction xs with
  | nil => intro s; simp [act]
  | cons x xs ih =>
    intro s
    rw [act_cons, List.length_cons]
    have := ih (step s x)
    have := step_len s x
    omega
theorem fold_len (xs : List Int) : (fold xs).length % 2 = xs.length % 2 ∧ (fold xs).length ≤ xs.length := by
  unfold fold
  have := act_len xs []
  rw [List.length_reverse]
  simpa using this
theorem fold_wide (xs : List Int) (x : Int) : fold (xs ++ xs.reverse ++ [x]) = [x] := by
  rw [← fold_fold_l (xs ++ xs.reverse), fold_inv]
  rfl
theorem fold_wide3 (xs : List Int) (ys : List Int) (h : red ys) : fold (xs ++ (xs.reverse ++ ys)) = ys := by
  rw [← List.append_assoc, ← fold_fold_l (xs ++ xs.reverse), fold_inv, List.nil_append, fold_of_red h]
end K03

set_option Elab.async false
set_option linter.all false
set_option maxRecDepth 100000
set_option maxHeartbeats 4000000
namespace K03
open PySem Lt

abbrev I (xs : List Int) : D := .tup (xs.map D.int)
theorem pds_ints : ∀ ns : List Int, pds (ns.map D.int) = some (ns.map PyData.int)
  | [] => rfl
  | n :: ns => by
    rw [List.map_cons, pds, pds_ints ns]
    rfl
theorem lay_ints : ∀ ns : List Int, PyData.canLayAll0 (ns.map PyData.int) = true
  | [] => rfl
  | n :: ns => by
    rw [List.map_cons, PyData.canLayAll0, lay_ints ns]
    rfl
theorem dep_ints : ∀ ns : List Int, PyData.depthAll (ns.map PyData.int) = 0
  | [] => rfl
  | n :: ns => by
    rw [List.map_cons, PyData.depthAll, dep_ints ns]
    rfl
theorem shaped_ints (ns : List Int) : SeqAt.shaped (.list (ns.map PyData.int)) = true := by
  unfold SeqAt.shaped
  rw [PyData.canLay0, lay_ints, PyData.depth, dep_ints]
  rfl
theorem ne_nil {S : Sto} {K : Kt} {p q : Addr} {ns : List Int} (hp : S p = some (.lst (ns.map D.int))) (hq : S q = some (.lst [])) (h : K (.bl (!ns.isEmpty)) S) : cmpD .ne (.ref p) (.ref q) S K := by
  show match pdT S (.ref p), pdT S (.ref q) with
    | some d, some e => SeqAt.shaped d = true ∧ SeqAt.shaped e = true ∧ K (.bl (!PyData.eqv d e)) S
    | _, _ => False
  have e1 : pdT S (.ref p) = some (.list (ns.map PyData.int)) := by
    show (match S p with
      | some (.lst ds) => (pds ds).map PyData.list
      | _ => none) = _
    rw [hp]
    show (pds (ns.map D.int)).map PyData.list = _
    rw [pds_ints] <;> rfl
  have e2 : pdT S (.ref q) = some (.list []) := by
    show (match S q with
      | some (.lst ds) => (pds ds).map PyData.list
      | _ => none) = _
    rw [hq] <;> rfl
  rw [e1, e2]
  refine ⟨shaped_ints ns, by decide, ?_⟩
  have e3 : PyData.eqv (.list (ns.map PyData.int)) (.list []) = ns.isEmpty := by
    cases ns <;> simp [PyData.eqv, PyData.eqvAll]
  rw [e3]
  exact h
theorem line : sizeLine = 2 ^ 24 := rfl
theorem folded_run {c : Calls} {S : Sto} {xs : List Int} {K : Kt} (hz : xs.length ≤ 1000000) (h : ∀ S', Sub S S' → K (I (fold xs)) S') : wSs G c b_folded { nx := fun _ S' => K .non S', rt := K } [some (I xs), none, none] S := by
  unfold b_folded
  simp only [wSs, wS, wE, wB, wEs, wO, wBO, wI, bind_name, bind_tup, binds_nil, binds_cons, pars, putR, List.getElem?_cons_zero, List.getElem?_cons_succ, List.set_cons_zero, List.set_cons_succ]
  simp only [mAt_some, mL_lst, mRT_lst, mKD_lst, ix_tupE, ix_rlE, ix_refE, gt_int, lt_int, le_int, ge_int, eq_int, ne_int, eq_bl, eq_str, is_non, is_bl', len_tup, len_rl, len_ref, tup_tup, tup_ref, int_int, abs_int, rcv_ref, rcv_tup, bm_app, bm_pop, bm_cnt, hm_app, hm_pop, hm_cnt, add_int, add_tup, add_ref, sub_int, mul_int, mul_tup, fdiv_int, mod_int, pow_int, slc_tup, slc_rl, slc_ref, rev_tup, rev_ref, tru_bl, tru_int, tru_tup, knd_int, knd_bl, knd_non, knd_str, knd_tup, knd_ref, wk_tup, wk_rl, wk_ref, at0, at1, atm, true_and, and_true, sup_same, if_true, if_false, Bool.false_eq_true, reduceIte, List.getElem?_cons_zero, List.getElem?_cons_succ, List.set_cons_zero, List.set_cons_succ, bind_name, bind_tup, binds_nil, binds_cons, pars, putR, newL, List.length_nil]
  refine ⟨by decide, fun p hp => ?_⟩
  refine for_ind (fun ds ρ T => ∃ (ys s : List Int) (x2 : Option D), ds = ys.map D.int ∧ ρ = [some (I xs), some (.ref p), x2] ∧ T p = some (.lst (s.reverse.map D.int)) ∧ Sub S T ∧ s.length + ys.length ≤ 1000000 ∧ act ys s = act xs []) ?_ ?_ _ _ _
    ⟨xs, [], none, rfl, rfl, sup_same, sub_new .refl hp, by simpa using hz, rfl⟩
  · rintro d ds ρ T N ⟨ys, s, x2, e, rfl, h1, h2, h3, h4⟩ hN
    cases ys with
    | nil => cases e
    | cons y ys =>
      injection e with e1 e2
      subst e1 e2
      refine ⟨trivial, ?_⟩
      simp only [mAt_some, mL_lst, mRT_lst, mKD_lst, ix_tupE, ix_rlE, ix_refE, gt_int, lt_int, le_int, ge_int, eq_int, ne_int, eq_bl, eq_str, is_non, is_bl', len_tup, len_rl, len_ref, tup_tup, tup_ref, int_int, abs_int, rcv_ref, rcv_tup, bm_app, bm_pop, bm_cnt, hm_app, hm_pop, hm_cnt, add_int, add_tup, add_ref, sub_int, mul_int, mul_tup, fdiv_int, mod_int, pow_int, slc_tup, slc_rl, slc_ref, rev_tup, rev_ref, tru_bl, tru_int, tru_tup, knd_int, knd_bl, knd_non, knd_str, knd_tup, knd_ref, wk_tup, wk_rl, wk_ref, at0, at1, atm, true_and, and_true, sup_same, if_true, if_false, Bool.false_eq_true, reduceIte, List.getElem?_cons_zero, List.getElem?_cons_succ, List.set_cons_zero, List.set_cons_succ, bind_name, bind_tup, binds_nil, binds_cons, pars, putR, newL, List.length_nil]
      refine ⟨by decide, fun q hq => ?_⟩
      have pq : p ≠ q := fun z => by rw [z, hq] at h1; cases h1
      refine ne_nil (ns := s.reverse) (by rw [sup_ne pq]; exact h1) sup_same ?_
      rw [List.length_cons] at h3
      have hsub := sub_new (c := .lst []) h2 hq
      have h1' : sup T q (.lst []) p = some (.lst (s.reverse.map D.int)) := by rw [sup_ne pq]; exact h1
      rw [act_cons] at h4
      cases s with
      | nil =>
        simp only [List.reverse_nil, List.isEmpty_nil, Bool.not_true, Bool.false_eq_true, if_false]
        simp only [mAt_some, mL_lst, mRT_lst, mKD_lst, ix_tupE, ix_rlE, ix_refE, gt_int, lt_int, le_int, ge_int, eq_int, ne_int, eq_bl, eq_str, is_non, is_bl', len_tup, len_rl, len_ref, tup_tup, tup_ref, int_int, abs_int, rcv_ref, rcv_tup, bm_app, bm_pop, bm_cnt, hm_app, hm_pop, hm_cnt, add_int, add_tup, add_ref, sub_int, mul_int, mul_tup, fdiv_int, mod_int, pow_int, slc_tup, slc_rl, slc_ref, rev_tup, rev_ref, tru_bl, tru_int, tru_tup, knd_int, knd_bl, knd_non, knd_str, knd_tup, knd_ref, wk_tup, wk_rl, wk_ref, at0, at1, atm, true_and, and_true, sup_same, if_true, if_false, Bool.false_eq_true, reduceIte, List.getElem?_cons_zero, List.getElem?_cons_succ, List.set_cons_zero, List.set_cons_succ, bind_name, bind_tup, binds_nil, binds_cons, pars, putR, h1', List.reverse_nil, List.map_nil, List.length_nil, List.nil_append]
        exact ⟨by decide, hN _ _ ⟨ys, [y], _, rfl, rfl, sup_same, sub_old hsub hp, by simp at h3 ⊢; omega, h4⟩⟩
      | cons z r =>
        rw [List.reverse_cons, List.map_append] at h1'
        have e0 : (!(z :: r).reverse.isEmpty) = true := by simp
        rw [e0]
        simp only [if_true]
        simp only [mAt_some, mL_lst, mRT_lst, mKD_lst, ix_tupE, ix_rlE, ix_refE, gt_int, lt_int, le_int, ge_int, eq_int, ne_int, eq_bl, eq_str, is_non, is_bl', len_tup, len_rl, len_ref, tup_tup, tup_ref, int_int, abs_int, rcv_ref, rcv_tup, bm_app, bm_pop, bm_cnt, hm_app, hm_pop, hm_cnt, add_int, add_tup, add_ref, sub_int, mul_int, mul_tup, fdiv_int, mod_int, pow_int, slc_tup, slc_rl, slc_ref, rev_tup, rev_ref, tru_bl, tru_int, tru_tup, knd_int, knd_bl, knd_non, knd_str, knd_tup, knd_ref, wk_tup, wk_rl, wk_ref, at0, at1, atm, true_and, and_true, sup_same, if_true, if_false, Bool.false_eq_true, reduceIte, List.getElem?_cons_zero, List.getElem?_cons_succ, List.set_cons_zero, List.set_cons_succ, bind_name, bind_tup, binds_nil, binds_cons, pars, putR, h1', List.map_cons, List.map_nil, List.getLast?_concat, List.dropLast_concat]
        rw [List.length_cons] at h3
        by_cases e : z = y
        · rw [if_pos (decide_eq_true e)]
          refine hN _ _ ⟨ys, r, _, rfl, rfl, sup_same, sub_old hsub hp, by omega, ?_⟩
          rw [← h4]
          simp only [step, e, if_true]
        · rw [if_neg (by simpa using e)]
          refine ⟨by simp [line]; omega, hN _ _ ⟨ys, y :: z :: r, _, rfl, rfl, by rw [sup_same]; simp, sub_old hsub hp, by simp; omega, ?_⟩⟩
          rw [← h4]
          simp only [step, e, if_false]
  · rintro ρ T ⟨ys, s, x2, e, rfl, h1, h2, h3, h4⟩
    refine ⟨trivial, ?_⟩
    simp only [mAt_some, mL_lst, mRT_lst, mKD_lst, ix_tupE, ix_rlE, ix_refE, gt_int, lt_int, le_int, ge_int, eq_int, ne_int, eq_bl, eq_str, is_non, is_bl', len_tup, len_rl, len_ref, tup_tup, tup_ref, int_int, abs_int, rcv_ref, rcv_tup, bm_app, bm_pop, bm_cnt, hm_app, hm_pop, hm_cnt, add_int, add_tup, add_ref, sub_int, mul_int, mul_tup, fdiv_int, mod_int, pow_int, slc_tup, slc_rl, slc_ref, rev_tup, rev_ref, tru_bl, tru_int, tru_tup, knd_int, knd_bl, knd_non, knd_str, knd_tup, knd_ref, wk_tup, wk_rl, wk_ref, at0, at1, atm, true_and, and_true, sup_same, if_true, if_false, Bool.false_eq_true, reduceIte, List.getElem?_cons_zero, List.getElem?_cons_succ, List.set_cons_zero, List.set_cons_succ, bind_name, bind_tup, binds_nil, binds_cons, pars, putR, h1]
    have : ys = [] := by simpa using e.symm
    subst this
    have e2 : s.reverse = fold xs := by unfold fold; rw [← h4]; rfl
    rw [e2]
    exact h T h2
theorem lfold_run {c : Calls} {S : Sto} {xs : List Int} {K : Kt} (hz : xs.length ≤ 1000000) (h : ∀ S', Sub S S' → K (I (fold xs)) S') : wSs G c b__law_fold { nx := fun _ S' => K .non S', rt := K } [some (I xs), none, none] S := by
  unfold b__law_fold
  simp only [wSs, wS, wE, wB, wEs, wO, wBO, wI, bind_name, bind_tup, binds_nil, binds_cons, pars, putR, List.getElem?_cons_zero, List.getElem?_cons_succ, List.set_cons_zero, List.set_cons_succ]
  simp only [mAt_some, mL_lst, mRT_lst, mKD_lst, ix_tupE, ix_rlE, ix_refE, gt_int, lt_int, le_int, ge_int, eq_int, ne_int, eq_bl, eq_str, is_non, is_bl', len_tup, len_rl, len_ref, tup_tup, tup_ref, int_int, abs_int, rcv_ref, rcv_tup, bm_app, bm_pop, bm_cnt, hm_app, hm_pop, hm_cnt, add_int, add_tup, add_ref, sub_int, mul_int, mul_tup, fdiv_int, mod_int, pow_int, slc_tup, slc_rl, slc_ref, rev_tup, rev_ref, tru_bl, tru_int, tru_tup, knd_int, knd_bl, knd_non, knd_str, knd_tup, knd_ref, wk_tup, wk_rl, wk_ref, at0, at1, atm, true_and, and_true, sup_same, if_true, if_false, Bool.false_eq_true, reduceIte, List.getElem?_cons_zero, List.getElem?_cons_succ, List.set_cons_zero, List.set_cons_succ, bind_name, bind_tup, binds_nil, binds_cons, pars, putR, newL, List.length_nil]
  refine ⟨by decide, fun p hp => ?_⟩
  refine for_ind (fun ds ρ T => ∃ (ys s : List Int) (x2 : Option D), ds = ys.map D.int ∧ ρ = [some (I xs), some (.ref p), x2] ∧ T p = some (.lst (s.reverse.map D.int)) ∧ Sub S T ∧ s.length + ys.length ≤ 1000000 ∧ act ys s = act xs []) ?_ ?_ _ _ _
    ⟨xs, [], none, rfl, rfl, sup_same, sub_new .refl hp, by simpa using hz, rfl⟩
  · rintro d ds ρ T N ⟨ys, s, x2, e, rfl, h1, h2, h3, h4⟩ hN
    cases ys with
    | nil => cases e
    | cons y ys =>
      injection e with e1 e2
      subst e1 e2
      refine ⟨trivial, ?_⟩
      rw [List.length_cons] at h3
      rw [act_cons] at h4
      cases s with
      | nil =>
        simp only [mAt_some, mL_lst, mRT_lst, mKD_lst, ix_tupE, ix_rlE, ix_refE, gt_int, lt_int, le_int, ge_int, eq_int, ne_int, eq_bl, eq_str, is_non, is_bl', len_tup, len_rl, len_ref, tup_tup, tup_ref, int_int, abs_int, rcv_ref, rcv_tup, bm_app, bm_pop, bm_cnt, hm_app, hm_pop, hm_cnt, add_int, add_tup, add_ref, sub_int, mul_int, mul_tup, fdiv_int, mod_int, pow_int, slc_tup, slc_rl, slc_ref, rev_tup, rev_ref, tru_bl, tru_int, tru_tup, knd_int, knd_bl, knd_non, knd_str, knd_tup, knd_ref, wk_tup, wk_rl, wk_ref, at0, at1, atm, true_and, and_true, sup_same, if_true, if_false, Bool.false_eq_true, reduceIte, List.getElem?_cons_zero, List.getElem?_cons_succ, List.set_cons_zero, List.set_cons_succ, bind_name, bind_tup, binds_nil, binds_cons, pars, putR, h1, List.reverse_nil, List.map_nil, List.length_nil, List.nil_append]
        rw [if_neg (by decide)]
        exact ⟨by decide, hN _ _ ⟨ys, [y], _, rfl, rfl, sup_same, sub_old h2 hp, by simp at h3 ⊢; omega, h4⟩⟩
      | cons z r =>
        rw [List.reverse_cons, List.map_append] at h1
        have e0 : decide (0 < ((r.reverse.map D.int ++ [D.int z]).length : Int)) = true := decide_eq_true (by rw [List.length_append, List.length_singleton]; omega)
        simp only [mAt_some, mL_lst, mRT_lst, mKD_lst, ix_tupE, ix_rlE, ix_refE, gt_int, lt_int, le_int, ge_int, eq_int, ne_int, eq_bl, eq_str, is_non, is_bl', len_tup, len_rl, len_ref, tup_tup, tup_ref, int_int, abs_int, rcv_ref, rcv_tup, bm_app, bm_pop, bm_cnt, hm_app, hm_pop, hm_cnt, add_int, add_tup, add_ref, sub_int, mul_int, mul_tup, fdiv_int, mod_int, pow_int, slc_tup, slc_rl, slc_ref, rev_tup, rev_ref, tru_bl, tru_int, tru_tup, knd_int, knd_bl, knd_non, knd_str, knd_tup, knd_ref, wk_tup, wk_rl, wk_ref, at0, at1, atm, true_and, and_true, sup_same, if_true, if_false, Bool.false_eq_true, reduceIte, List.getElem?_cons_zero, List.getElem?_cons_succ, List.set_cons_zero, List.set_cons_succ, bind_name, bind_tup, binds_nil, binds_cons, pars, putR, h1, e0, List.map_cons, List.map_nil, List.getLast?_concat, List.dropLast_concat]
        rw [List.length_cons] at h3
        by_cases e : z = y
        · rw [if_pos (decide_eq_true e)]
          refine hN _ _ ⟨ys, r, _, rfl, rfl, sup_same, sub_old h2 hp, by omega, ?_⟩
          rw [← h4]
          simp only [step, e, if_true]
        · rw [if_neg (by simpa using e)]
          refine ⟨by simp [line]; omega, hN _ _ ⟨ys, y :: z :: r, _, rfl, rfl, by rw [sup_same]; simp, sub_old h2 hp, by simp; omega, ?_⟩⟩
          rw [← h4]
          simp only [step, e, if_false]
  · rintro ρ T ⟨ys, s, x2, e, rfl, h1, h2, h3, h4⟩
    refine ⟨trivial, ?_⟩
    simp only [mAt_some, mL_lst, mRT_lst, mKD_lst, ix_tupE, ix_rlE, ix_refE, gt_int, lt_int, le_int, ge_int, eq_int, ne_int, eq_bl, eq_str, is_non, is_bl', len_tup, len_rl, len_ref, tup_tup, tup_ref, int_int, abs_int, rcv_ref, rcv_tup, bm_app, bm_pop, bm_cnt, hm_app, hm_pop, hm_cnt, add_int, add_tup, add_ref, sub_int, mul_int, mul_tup, fdiv_int, mod_int, pow_int, slc_tup, slc_rl, slc_ref, rev_tup, rev_ref, tru_bl, tru_int, tru_tup, knd_int, knd_bl, knd_non, knd_str, knd_tup, knd_ref, wk_tup, wk_rl, wk_ref, at0, at1, atm, true_and, and_true, sup_same, if_true, if_false, Bool.false_eq_true, reduceIte, List.getElem?_cons_zero, List.getElem?_cons_succ, List.set_cons_zero, List.set_cons_succ, bind_name, bind_tup, binds_nil, binds_cons, pars, putR, h1]
    have : ys = [] := by simpa using e.symm
    subst this
    have e2 : s.reverse = fold xs := by unfold fold; rw [← h4]; rfl
    rw [e2]
    exact h T h2
theorem joined_run {c : Calls} {S : Sto} {xs ys : List Int} {K : Kt} (hf : ∀ xs S K, xs.length ≤ 1000000 → (∀ S', Sub S S' → K (I (fold xs)) S') → c.fn "folded" [I xs] S K) (hz : xs.length + ys.length ≤ 1000000) (h : ∀ S', Sub S S' → K (I (fold (xs ++ ys))) S') :
    wSs G c b_joined_steps { nx := fun _ S' => K .non S', rt := K } [some (I xs), some (I ys)] S := by
  unfold b_joined_steps
  simp only [wSs, wS, wE, wB, wEs, wO, wBO, wI, bind_name, bind_tup, binds_nil, binds_cons, pars, putR, List.getElem?_cons_zero, List.getElem?_cons_succ, List.set_cons_zero, List.set_cons_succ]
  simp only [mAt_some, mL_lst, mRT_lst, mKD_lst, ix_tupE, ix_rlE, ix_refE, gt_int, lt_int, le_int, ge_int, eq_int, ne_int, eq_bl, eq_str, is_non, is_bl', len_tup, len_rl, len_ref, tup_tup, tup_ref, int_int, abs_int, rcv_ref, rcv_tup, bm_app, bm_pop, bm_cnt, hm_app, hm_pop, hm_cnt, add_int, add_tup, add_ref, sub_int, mul_int, mul_tup, fdiv_int, mod_int, pow_int, slc_tup, slc_rl, slc_ref, rev_tup, rev_ref, tru_bl, tru_int, tru_tup, knd_int, knd_bl, knd_non, knd_str, knd_tup, knd_ref, wk_tup, wk_rl, wk_ref, at0, at1, atm, true_and, and_true, sup_same, if_true, if_false, Bool.false_eq_true, reduceIte, List.getElem?_cons_zero, List.getElem?_cons_succ, List.set_cons_zero, List.set_cons_succ, bind_name, bind_tup, binds_nil, binds_cons, pars, putR, List.length_map]
  refine ⟨by rw [line]; omega, ?_⟩
  rw [← List.map_append]
  exact hf _ _ _ (by rw [List.length_append]; exact hz) h
theorem back_run {c : Calls} {S : Sto} {xs : List Int} {K : Kt} (h : K (I xs.reverse) S) : wSs G c b_back { nx := fun _ S' => K .non S', rt := K } [some (I xs)] S := by
  unfold b_back
  simp only [wSs, wS, wE, wB, wEs, wO, wBO, wI, bind_name, bind_tup, binds_nil, binds_cons, pars, putR, List.getElem?_cons_zero, List.getElem?_cons_succ, List.set_cons_zero, List.set_cons_succ]
  simp only [mAt_some, mL_lst, mRT_lst, mKD_lst, ix_tupE, ix_rlE, ix_refE, gt_int, lt_int, le_int, ge_int, eq_int, ne_int, eq_bl, eq_str, is_non, is_bl', len_tup, len_rl, len_ref, tup_tup, tup_ref, int_int, abs_int, rcv_ref, rcv_tup, bm_app, bm_pop, bm_cnt, hm_app, hm_pop, hm_cnt, add_int, add_tup, add_ref, sub_int, mul_int, mul_tup, fdiv_int, mod_int, pow_int, slc_tup, slc_rl, slc_ref, rev_tup, rev_ref, tru_bl, tru_int, tru_tup, knd_int, knd_bl, knd_non, knd_str, knd_tup, knd_ref, wk_tup, wk_rl, wk_ref, at0, at1, atm, true_and, and_true, sup_same, if_true, if_false, Bool.false_eq_true, reduceIte, List.getElem?_cons_zero, List.getElem?_cons_succ, List.set_cons_zero, List.set_cons_succ, bind_name, bind_tup, binds_nil, binds_cons, pars, putR, ← List.map_reverse]
  exact h
theorem of_run {c : Calls} {S : Sto} {a p : Addr} {ds : List D} {K : Kt} (ha : ∀ a b S K, S a = some .deal → 0 < b ∧ b < 2 ^ 1000 → (∀ r, 0 ≤ r → r < b → K (.int r) S) → c.fn "_law_any" [.ref a, .int b] S K)
    (hd : S a = some .deal) (hp : S p = some (.lst ds)) (hl : 0 < ds.length ∧ ds.length ≤ 1000) (h : ∀ d ∈ ds, K d S) : wSs G c b__law_of { nx := fun _ S' => K .non S', rt := K } [some (.ref a), some (.ref p)] S := by
  unfold b__law_of
  simp only [wSs, wS, wE, wB, wEs, wO, wBO, wI, bind_name, bind_tup, binds_nil, binds_cons, pars, putR, List.getElem?_cons_zero, List.getElem?_cons_succ, List.set_cons_zero, List.set_cons_succ]
  simp only [mAt_some, mL_lst, mRT_lst, mKD_lst, ix_tupE, ix_rlE, ix_refE, gt_int, lt_int, le_int, ge_int, eq_int, ne_int, eq_bl, eq_str, is_non, is_bl', len_tup, len_rl, len_ref, tup_tup, tup_ref, int_int, abs_int, rcv_ref, rcv_tup, bm_app, bm_pop, bm_cnt, hm_app, hm_pop, hm_cnt, add_int, add_tup, add_ref, sub_int, mul_int, mul_tup, fdiv_int, mod_int, pow_int, slc_tup, slc_rl, slc_ref, rev_tup, rev_ref, tru_bl, tru_int, tru_tup, knd_int, knd_bl, knd_non, knd_str, knd_tup, knd_ref, wk_tup, wk_rl, wk_ref, at0, at1, atm, true_and, and_true, sup_same, if_true, if_false, Bool.false_eq_true, reduceIte, List.getElem?_cons_zero, List.getElem?_cons_succ, List.set_cons_zero, List.set_cons_succ, bind_name, bind_tup, binds_nil, binds_cons, pars, putR, hp]
  refine ha _ _ _ _ hd ⟨by omega, ?_⟩ fun r r0 r1 => ?_
  · have : (ds.length : Int) ≤ 1000 := by omega
    exact Int.lt_of_le_of_lt this (by decide +kernel)
  · simp only [mAt_some, mL_lst, mRT_lst, mKD_lst, ix_tupE, ix_rlE, ix_refE, gt_int, lt_int, le_int, ge_int, eq_int, ne_int, eq_bl, eq_str, is_non, is_bl', len_tup, len_rl, len_ref, tup_tup, tup_ref, int_int, abs_int, rcv_ref, rcv_tup, bm_app, bm_pop, bm_cnt, hm_app, hm_pop, hm_cnt, add_int, add_tup, add_ref, sub_int, mul_int, mul_tup, fdiv_int, mod_int, pow_int, slc_tup, slc_rl, slc_ref, rev_tup, rev_ref, tru_bl, tru_int, tru_tup, knd_int, knd_bl, knd_non, knd_str, knd_tup, knd_ref, wk_tup, wk_rl, wk_ref, at0, at1, atm, true_and, and_true, sup_same, if_true, if_false, Bool.false_eq_true, reduceIte, List.getElem?_cons_zero, List.getElem?_cons_succ, List.set_cons_zero, List.set_cons_succ, bind_name, bind_tup, binds_nil, binds_cons, pars, putR, hp]
    have e : L2.atI ds r = some ds[r.toNat] := by
      unfold L2.atI L2.ixN
      rw [if_pos r0, if_pos r1]
      exact List.getElem?_eq_getElem (by omega)
    rw [e]
    exact h _ (List.getElem_mem ..)
end K03

set_option Elab.async false
set_option linter.all false
set_option maxRecDepth 100000
set_option maxHeartbeats 4000000
namespace K03
open PySem Lt

def rng (i : Int) : Nat → List Int
  | 0 => []
  | n + 1 => i :: rng (i + 1) n
theorem rngD_eq : ∀ (n : Nat) (i : Int), rngD i n = (rng i n).map D.int
  | 0, _ => rfl
  | n + 1, i => by rw [rngD, rng, rngD_eq n, List.map_cons]
theorem ints_map : ∀ xs : List Int, ints? (xs.map D.int) = some xs
  | [] => rfl
  | x :: xs => by
    rw [List.map_cons, ints?, ints_map xs] <;> rfl
def oddP (xs : List Int) (t : Int) : Bool := decide (((xs.count t : Nat) : Int) % 2 = 1)
def odd (xs : List Int) : List Int := (rng 0 8).filter (oddP xs)
theorem odd_run {c : Calls} {S : Sto} {xs : List Int} {K : Kt} (h : ∀ S', Sub S S' → K (I (odd xs)) S') : wSs G c b__law_odd { nx := fun _ S' => K .non S', rt := K } [some (I xs), none] S := by
  unfold b__law_odd
  simp only [wSs, wS, wE, wB, wEs, wO, wBO, wI, bind_name, bind_tup, binds_nil, binds_cons, pars, putR, List.getElem?_cons_zero, List.getElem?_cons_succ, List.set_cons_zero, List.set_cons_succ]
  refine ⟨by decide, fun p hp => ?_⟩
  have e0 : rngD 0 (8 : Int).toNat = (rng 0 8).map D.int := rngD_eq 8 0
  rw [e0]
  refine comp_ind (fun ds T => ∃ ts acc : List Int, ds = ts.map D.int ∧ T p = some (.lst (acc.map D.int)) ∧ Sub S T ∧ acc ++ ts.filter (oddP xs) = odd xs ∧ acc.length + ts.length ≤ 8) ?_ ?_ _ _
    ⟨rng 0 8, [], rfl, sup_same, sub_new .refl hp, rfl, by decide⟩
  · rintro d ds T N ⟨ts, acc, e, h1, h2, h3, h4⟩ hN
    cases ts with
    | nil => cases e
    | cons t ts =>
      injection e with e1 e2
      subst e1 e2
      refine ⟨trivial, ?_⟩
      rw [List.length_cons] at h4
      simp only [mAt_some, mL_lst, mRT_lst, mKD_lst, ix_tupE, ix_rlE, ix_refE, gt_int, lt_int, le_int, ge_int, eq_int, ne_int, eq_bl, eq_str, is_non, is_bl', len_tup, len_rl, len_ref, tup_tup, tup_ref, int_int, abs_int, rcv_ref, rcv_tup, bm_app, bm_pop, bm_cnt, hm_app, hm_pop, hm_cnt, add_int, add_tup, add_ref, sub_int, mul_int, mul_tup, fdiv_int, mod_int, pow_int, slc_tup, slc_rl, slc_ref, rev_tup, rev_ref, tru_bl, tru_int, tru_tup, knd_int, knd_bl, knd_non, knd_str, knd_tup, knd_ref, wk_tup, wk_rl, wk_ref, at0, at1, atm, true_and, and_true, sup_same, if_true, if_false, Bool.false_eq_true, reduceIte, List.getElem?_cons_zero, List.getElem?_cons_succ, List.set_cons_zero, List.set_cons_succ, bind_name, bind_tup, binds_nil, binds_cons, pars, putR, h1, ints_map]
      refine ⟨by decide, ?_⟩
      by_cases hc : ((xs.count t : Nat) : Int) % 2 = 1
      · rw [if_pos (decide_eq_true hc)]
        refine ⟨by rw [List.length_map, line]; omega, hN _ ⟨ts, acc ++ [t], rfl, by rw [sup_same, List.map_append]; rfl, sub_old h2 hp, ?_, by rw [List.length_append, List.length_singleton]; omega⟩⟩
        rw [← h3, List.filter_cons_of_pos (by unfold oddP; exact decide_eq_true hc), List.append_assoc]
        rfl
      · rw [if_neg (by simpa using hc)]
        refine hN _ ⟨ts, acc, rfl, h1, h2, ?_, by omega⟩
        rw [← h3, List.filter_cons_of_neg (by unfold oddP; simpa using hc)]
  · rintro T ⟨ts, acc, e, h1, h2, h3, h4⟩
    refine ⟨trivial, ?_⟩
    simp only [mAt_some, mL_lst, mRT_lst, mKD_lst, ix_tupE, ix_rlE, ix_refE, gt_int, lt_int, le_int, ge_int, eq_int, ne_int, eq_bl, eq_str, is_non, is_bl', len_tup, len_rl, len_ref, tup_tup, tup_ref, int_int, abs_int, rcv_ref, rcv_tup, bm_app, bm_pop, bm_cnt, hm_app, hm_pop, hm_cnt, add_int, add_tup, add_ref, sub_int, mul_int, mul_tup, fdiv_int, mod_int, pow_int, slc_tup, slc_rl, slc_ref, rev_tup, rev_ref, tru_bl, tru_int, tru_tup, knd_int, knd_bl, knd_non, knd_str, knd_tup, knd_ref, wk_tup, wk_rl, wk_ref, at0, at1, atm, true_and, and_true, sup_same, if_true, if_false, Bool.false_eq_true, reduceIte, List.getElem?_cons_zero, List.getElem?_cons_succ, List.set_cons_zero, List.set_cons_succ, bind_name, bind_tup, binds_nil, binds_cons, pars, putR, h1]
    have : ts = [] := by simpa using e.symm
    subst this
    have e2 : acc = odd xs := by rw [← h3]; simp
    rw [e2]
    exact h T h2
theorem odd_fold (xs : List Int) : odd (fold xs) = odd xs := by
  unfold odd
  congr 1
  funext t
  unfold oddP
  have := fold_count t xs
  congr 1
  apply propext
  omega
end K03

set_option Elab.async false
set_option linter.all false
set_option maxRecDepth 100000
set_option maxHeartbeats 4000000
namespace K03
open PySem Lt

theorem cut_take {α : Type} {f : α → D} {xs : List α} {k : Int} (h : 0 ≤ k) : cutD (xs.map f) none (some k) = (xs.take k.toNat).map f := by
  obtain ⟨n, rfl⟩ := Int.eq_ofNat_of_zero_le h
  unfold cutD
  rw [HT.sIx_none, HT.sIx_nat, List.drop_zero, Nat.sub_zero, List.map_take, List.length_map, Int.toNat_natCast]
  rcases Nat.le_total n xs.length with q | q
  · rw [Nat.min_eq_left q]
  · rw [Nat.min_eq_right q, List.take_of_length_le (by rw [List.length_map]; exact Nat.le_refl _), List.take_of_length_le (by rw [List.length_map]; exact q)]
theorem cut_drop {α : Type} {f : α → D} {xs : List α} {k : Int} (h : 0 ≤ k) : cutD (xs.map f) (some k) none = (xs.drop k.toNat).map f := by
  obtain ⟨n, rfl⟩ := Int.eq_ofNat_of_zero_le h
  unfold cutD
  rw [HT.sIx_none, HT.sIx_nat, List.map_drop, List.length_map, Int.toNat_natCast]
  rcases Nat.le_total n xs.length with q | q
  · rw [Nat.min_eq_left q, List.take_of_length_le (by rw [List.length_drop, List.length_map]; exact Nat.le_refl _)]
  · rw [Nat.min_eq_right q, List.take_of_length_le (by rw [List.length_drop, List.length_map]; exact Nat.le_refl _), List.drop_of_length_le (by rw [List.length_map]; exact Nat.le_refl _), List.drop_of_length_le (by rw [List.length_map]; exact q)]
theorem rep_flat {α : Type} {x : α} : ∀ n, (List.replicate n [x]).flatten = List.replicate n x
  | 0 => rfl
  | n + 1 => by rw [List.replicate_succ, List.flatten_cons, rep_flat n, List.replicate_succ] <;> rfl
abbrev AnyS (c : Calls) : Prop := ∀ a b S K, S a = some .deal → 0 < b ∧ b < 2 ^ 1000 → (∀ r, 0 ≤ r → r < b → K (.int r) S) → c.fn "_law_any" [.ref a, .int b] S K
/-- draws in a comprehension -/
theorem draws {c : Calls} (ha : AnyS c) {S : Sto} {a q : Addr} {b : Int} {i : Nat} {ρ : Lt.Env} {K : Kt} {ds : List D} {elt : DE} (hb : 0 < b ∧ b < 2 ^ 1000) (hd : S a = some .deal) (hq : S q = none) (hl : ds.length ≤ 1000)
    (helt : ∀ d S K, c.fn "_law_any" [.ref a, .int b] S K → elt (putR ρ i d) S K)
    (h : ∀ (acc : List Int) T, acc.length ≤ ds.length → T q = some (.lst (acc.map D.int)) → Sub S T → K (.ref q) T) : compGo (LT.bind (.name i)) (fun _ S K => K true S) elt ρ (fun _ => True) q ds (sup S q (.lst [])) K := by
  refine comp_ind (fun ds' T => ∃ acc : List Int, T q = some (.lst (acc.map D.int)) ∧ Sub S T ∧ acc.length + ds'.length ≤ ds.length) ?_ ?_ _ _ ⟨[], sup_same, sub_new .refl hq, by simp⟩
  · rintro d ds' T N ⟨acc, h1, h2, h3⟩ hN
    refine ⟨trivial, ?_⟩
    rw [bind_name]
    simp only [if_true]
    refine helt _ _ _ (ha _ _ _ _ (h2 _ _ hd) hb fun r r0 r1 => ?_)
    rw [h1]
    rw [List.length_cons] at h3
    exact ⟨by rw [List.length_map, line]; omega, hN _ ⟨acc ++ [r], by rw [sup_same, List.map_append]; rfl, sub_old h2 hq, by rw [List.length_append, List.length_singleton]; omega⟩⟩
  · rintro T ⟨acc, h1, h2, h3⟩
    exact ⟨trivial, h acc T (by simpa using h3) h1 h2⟩
theorem rngD_len {n : Nat} {i : Int} : (rngD i n).length = n := by rw [rngD_eq, List.length_map]; induction n generalizing i with
  | zero => rfl
  | succ n ih => rw [rng, List.length_cons, ih]
theorem rows_run {c : Calls} {S : Sto} {a : Addr} {things : Int} {K : Kt} (ha : AnyS c) (hof : ∀ a p ds S K, S a = some .deal → S p = some (.lst ds) → 0 < ds.length ∧ ds.length ≤ 1000 → (∀ d ∈ ds, K d S) → c.fn "_law_of" [.ref a, .ref p] S K)
    (ht : 0 < things ∧ things < 2 ^ 1000) (hd : S a = some .deal) (h : ∀ xs S', List.length xs ≤ 1000 → Sub S S' → K (I xs) S') : wSs G c b__law_rows { nx := fun _ S' => K .non S', rt := K } [some (.ref a), some (.int things), none, none, none, none, none, none] S := by
  unfold b__law_rows
  simp only [wSs, wS, wE, wB, wEs, wO, wBO, wI, bind_name, bind_tup, binds_nil, binds_cons, pars, putR, List.getElem?_cons_zero, List.getElem?_cons_succ, List.set_cons_zero, List.set_cons_succ]
  refine ha _ _ _ _ hd ⟨by decide, by decide +kernel⟩ fun sort _ _ => ?_
  simp only [mAt_some, mL_lst, mRT_lst, mKD_lst, ix_tupE, ix_rlE, ix_refE, gt_int, lt_int, le_int, ge_int, eq_int, ne_int, eq_bl, eq_str, is_non, is_bl', len_tup, len_rl, len_ref, tup_tup, tup_ref, int_int, abs_int, rcv_ref, rcv_tup, bm_app, bm_pop, bm_cnt, hm_app, hm_pop, hm_cnt, add_int, add_tup, add_ref, sub_int, mul_int, mul_tup, fdiv_int, mod_int, pow_int, slc_tup, slc_rl, slc_ref, rev_tup, rev_ref, tru_bl, tru_int, tru_tup, knd_int, knd_bl, knd_non, knd_str, knd_tup, knd_ref, wk_tup, wk_rl, wk_ref, at0, at1, atm, true_and, and_true, sup_same, if_true, if_false, Bool.false_eq_true, reduceIte, List.getElem?_cons_zero, List.getElem?_cons_succ, List.set_cons_zero, List.set_cons_succ, bind_name, bind_tup, binds_nil, binds_cons, pars, putR, newL, List.length_cons, List.length_nil]
  refine ⟨by decide, fun p hp => ?_⟩
  have hd1 : sup S p (.lst [.int 0, .int 1, .int 2, .int 7, .int 40, .int 300]) a = some .deal := by
    rw [sup_ne (fun z => by rw [z, hp] at hd; cases hd)]; exact hd
  refine hof _ _ _ _ _ hd1 sup_same ⟨by decide, by decide⟩ fun d hdm => ?_
  obtain ⟨size, rfl, s0, s1⟩ : ∃ size : Int, d = .int size ∧ 0 ≤ size ∧ size ≤ 300 := by
    simp only [List.mem_cons, List.not_mem_nil, or_false] at hdm
    rcases hdm with e | e | e | e | e | e <;> exact ⟨_, e, by decide, by decide⟩
  have hs1 : Sub S (sup S p (.lst [.int 0, .int 1, .int 2, .int 7, .int 40, .int 300])) := sub_new .refl hp
  generalize sup S p (.lst [.int 0, .int 1, .int 2, .int 7, .int 40, .int 300]) = S1 at hd1 hs1 ⊢
  simp only [mAt_some, mL_lst, mRT_lst, mKD_lst, ix_tupE, ix_rlE, ix_refE, gt_int, lt_int, le_int, ge_int, eq_int, ne_int, eq_bl, eq_str, is_non, is_bl', len_tup, len_rl, len_ref, tup_tup, tup_ref, int_int, abs_int, rcv_ref, rcv_tup, bm_app, bm_pop, bm_cnt, hm_app, hm_pop, hm_cnt, add_int, add_tup, add_ref, sub_int, mul_int, mul_tup, fdiv_int, mod_int, pow_int, slc_tup, slc_rl, slc_ref, rev_tup, rev_ref, tru_bl, tru_int, tru_tup, knd_int, knd_bl, knd_non, knd_str, knd_tup, knd_ref, wk_tup, wk_rl, wk_ref, at0, at1, atm, true_and, and_true, sup_same, if_true, if_false, Bool.false_eq_true, reduceIte, List.getElem?_cons_zero, List.getElem?_cons_succ, List.set_cons_zero, List.set_cons_succ, bind_name, bind_tup, binds_nil, binds_cons, pars, putR]
  by_cases c0 : sort = 0
  · rw [if_pos (decide_eq_true c0)]
    refine ⟨⟨by omega, by omega⟩, fun q hq => ?_⟩
    refine draws ha ht hd1 hq (by rw [rngD_len]; omega) (fun d S K hh => ?_) fun acc T hl hT hsT => ?_
    · exact hh
    · simp only [mAt_some, mL_lst, mRT_lst, mKD_lst, ix_tupE, ix_rlE, ix_refE, gt_int, lt_int, le_int, ge_int, eq_int, ne_int, eq_bl, eq_str, is_non, is_bl', len_tup, len_rl, len_ref, tup_tup, tup_ref, int_int, abs_int, rcv_ref, rcv_tup, bm_app, bm_pop, bm_cnt, hm_app, hm_pop, hm_cnt, add_int, add_tup, add_ref, sub_int, mul_int, mul_tup, fdiv_int, mod_int, pow_int, slc_tup, slc_rl, slc_ref, rev_tup, rev_ref, tru_bl, tru_int, tru_tup, knd_int, knd_bl, knd_non, knd_str, knd_tup, knd_ref, wk_tup, wk_rl, wk_ref, at0, at1, atm, true_and, and_true, sup_same, if_true, if_false, Bool.false_eq_true, reduceIte, List.getElem?_cons_zero, List.getElem?_cons_succ, List.set_cons_zero, List.set_cons_succ, bind_name, bind_tup, binds_nil, binds_cons, pars, putR, hT]
      rw [rngD_len] at hl
      exact h acc T (by omega) (hs1.trans hsT)
  · rw [if_neg (by simpa using c0)]
    by_cases c1 : sort = 1
    · rw [if_pos (decide_eq_true c1)]
      refine ha _ _ _ _ hd1 ht fun r _ _ => ?_
      simp only [mAt_some, mL_lst, mRT_lst, mKD_lst, ix_tupE, ix_rlE, ix_refE, gt_int, lt_int, le_int, ge_int, eq_int, ne_int, eq_bl, eq_str, is_non, is_bl', len_tup, len_rl, len_ref, tup_tup, tup_ref, int_int, abs_int, rcv_ref, rcv_tup, bm_app, bm_pop, bm_cnt, hm_app, hm_pop, hm_cnt, add_int, add_tup, add_ref, sub_int, mul_int, mul_tup, fdiv_int, mod_int, pow_int, slc_tup, slc_rl, slc_ref, rev_tup, rev_ref, tru_bl, tru_int, tru_tup, knd_int, knd_bl, knd_non, knd_str, knd_tup, knd_ref, wk_tup, wk_rl, wk_ref, at0, at1, atm, true_and, and_true, sup_same, if_true, if_false, Bool.false_eq_true, reduceIte, List.getElem?_cons_zero, List.getElem?_cons_succ, List.set_cons_zero, List.set_cons_succ, bind_name, bind_tup, binds_nil, binds_cons, pars, putR, List.length_cons, List.length_nil]
      refine ⟨by decide, ⟨by omega, by omega, by omega⟩, ?_⟩
      rw [rep_flat]
      have e : List.replicate size.toNat (D.int r) = (List.replicate size.toNat r).map D.int := by rw [List.map_replicate]
      rw [e]
      exact h _ _ (by rw [List.length_replicate]; omega) hs1
    · rw [if_neg (by simpa using c1)]
      refine ⟨L2.wide_div (b := 3) (by decide) (by decide) (by decide) (by decide), ⟨by omega, by omega⟩, fun q hq => ?_⟩
      refine draws ha ht hd1 hq (by rw [rngD_len]; omega) (fun d S K hh => ?_) fun acc T hl hT hsT => ?_
      · exact hh
      · rw [rngD_len] at hl
        refine ⟨L2.wide_div (b := 2) (by decide) (by decide) (by decide) (by decide), ⟨by omega, by omega⟩, ?_⟩
        refine for_ind (fun ds ρ T' => ∃ (row : List Int) (p : Addr) (x4 x6 x7 : Option D), ρ = [some (.ref a), some (.int things), some (.int sort), some (.int size), x4, some (.ref p), x6, x7] ∧ T' p = some (.lst (row.map D.int)) ∧ Sub S T' ∧ row.length + 2 * ds.length ≤ 275) ?_ ?_ _ _ _
          ⟨acc, q, none, none, none, rfl, hT, hs1.trans hsT, by rw [rngD_len]; omega⟩
        · rintro d ds ρ T' N ⟨row, p', x4, x6, x7, rfl, g1, g2, g3⟩ hN
          refine ⟨trivial, ?_⟩
          rw [List.length_cons] at g3
          simp only [mAt_some, mL_lst, mRT_lst, mKD_lst, ix_tupE, ix_rlE, ix_refE, gt_int, lt_int, le_int, ge_int, eq_int, ne_int, eq_bl, eq_str, is_non, is_bl', len_tup, len_rl, len_ref, tup_tup, tup_ref, int_int, abs_int, rcv_ref, rcv_tup, bm_app, bm_pop, bm_cnt, hm_app, hm_pop, hm_cnt, add_int, add_tup, add_ref, sub_int, mul_int, mul_tup, fdiv_int, mod_int, pow_int, slc_tup, slc_rl, slc_ref, rev_tup, rev_ref, tru_bl, tru_int, tru_tup, knd_int, knd_bl, knd_non, knd_str, knd_tup, knd_ref, wk_tup, wk_rl, wk_ref, at0, at1, atm, true_and, and_true, sup_same, if_true, if_false, Bool.false_eq_true, reduceIte, List.getElem?_cons_zero, List.getElem?_cons_succ, List.set_cons_zero, List.set_cons_succ, bind_name, bind_tup, binds_nil, binds_cons, pars, putR, g1, List.length_map]
          refine ha _ _ _ _ (g2 _ _ hd) ⟨by omega, ?_⟩ fun at' a0 a1 => ?_
          · exact Int.lt_of_le_of_lt (show (row.length : Int) + 1 ≤ 1000 by omega) (by decide +kernel)
          · refine ha _ _ _ _ (g2 _ _ hd) ht fun thing _ _ => ?_
            simp only [mAt_some, mL_lst, mRT_lst, mKD_lst, ix_tupE, ix_rlE, ix_refE, gt_int, lt_int, le_int, ge_int, eq_int, ne_int, eq_bl, eq_str, is_non, is_bl', len_tup, len_rl, len_ref, tup_tup, tup_ref, int_int, abs_int, rcv_ref, rcv_tup, bm_app, bm_pop, bm_cnt, hm_app, hm_pop, hm_cnt, add_int, add_tup, add_ref, sub_int, mul_int, mul_tup, fdiv_int, mod_int, pow_int, slc_tup, slc_rl, slc_ref, rev_tup, rev_ref, tru_bl, tru_int, tru_tup, knd_int, knd_bl, knd_non, knd_str, knd_tup, knd_ref, wk_tup, wk_rl, wk_ref, at0, at1, atm, true_and, and_true, sup_same, if_true, if_false, Bool.false_eq_true, reduceIte, List.getElem?_cons_zero, List.getElem?_cons_succ, List.set_cons_zero, List.set_cons_succ, bind_name, bind_tup, binds_nil, binds_cons, pars, putR, g1, newL, cut_take a0, cut_drop a0, List.length_cons, List.length_nil]
            intro u hu
            refine ⟨by decide, fun v hv => ?_⟩
            obtain ⟨vu, hv0⟩ := new_ne hv
            have up : u ≠ p' := fun z => by rw [z, g1] at hu; cases hu
            have vp : v ≠ p' := fun z => by rw [z, g1] at hv0; cases hv0
            simp only [mAt_some, mL_lst, mRT_lst, mKD_lst, ix_tupE, ix_rlE, ix_refE, gt_int, lt_int, le_int, ge_int, eq_int, ne_int, eq_bl, eq_str, is_non, is_bl', len_tup, len_rl, len_ref, tup_tup, tup_ref, int_int, abs_int, rcv_ref, rcv_tup, bm_app, bm_pop, bm_cnt, hm_app, hm_pop, hm_cnt, add_int, add_tup, add_ref, sub_int, mul_int, mul_tup, fdiv_int, mod_int, pow_int, slc_tup, slc_rl, slc_ref, rev_tup, rev_ref, tru_bl, tru_int, tru_tup, knd_int, knd_bl, knd_non, knd_str, knd_tup, knd_ref, wk_tup, wk_rl, wk_ref, at0, at1, atm, true_and, and_true, sup_same, if_true, if_false, Bool.false_eq_true, reduceIte, List.getElem?_cons_zero, List.getElem?_cons_succ, List.set_cons_zero, List.set_cons_succ, bind_name, bind_tup, binds_nil, binds_cons, pars, putR, sup_ne (Ne.symm vu), List.length_map, List.length_cons, List.length_nil]
            refine ⟨by rw [List.length_take, line]; omega, fun w hw => ?_⟩
            obtain ⟨wv, hw1⟩ := new_ne hw
            obtain ⟨wu, hw0⟩ := new_ne hw1
            have wp : w ≠ p' := fun z => by rw [z, g1] at hw0; cases hw0
            simp only [mAt_some, mL_lst, mRT_lst, mKD_lst, ix_tupE, ix_rlE, ix_refE, gt_int, lt_int, le_int, ge_int, eq_int, ne_int, eq_bl, eq_str, is_non, is_bl', len_tup, len_rl, len_ref, tup_tup, tup_ref, int_int, abs_int, rcv_ref, rcv_tup, bm_app, bm_pop, bm_cnt, hm_app, hm_pop, hm_cnt, add_int, add_tup, add_ref, sub_int, mul_int, mul_tup, fdiv_int, mod_int, pow_int, slc_tup, slc_rl, slc_ref, rev_tup, rev_ref, tru_bl, tru_int, tru_tup, knd_int, knd_bl, knd_non, knd_str, knd_tup, knd_ref, wk_tup, wk_rl, wk_ref, at0, at1, atm, true_and, and_true, sup_same, if_true, if_false, Bool.false_eq_true, reduceIte, List.getElem?_cons_zero, List.getElem?_cons_succ, List.set_cons_zero, List.set_cons_succ, bind_name, bind_tup, binds_nil, binds_cons, pars, putR, sup_ne (Ne.symm wp), sup_ne (Ne.symm vp), sup_ne (Ne.symm up), g1, cut_drop a0, newL]
            intro z hz
            obtain ⟨zw, hz1⟩ := new_ne hz
            obtain ⟨zv, hz2⟩ := new_ne hz1
            obtain ⟨zu, hz0⟩ := new_ne hz2
            simp only [mAt_some, mL_lst, mRT_lst, mKD_lst, ix_tupE, ix_rlE, ix_refE, gt_int, lt_int, le_int, ge_int, eq_int, ne_int, eq_bl, eq_str, is_non, is_bl', len_tup, len_rl, len_ref, tup_tup, tup_ref, int_int, abs_int, rcv_ref, rcv_tup, bm_app, bm_pop, bm_cnt, hm_app, hm_pop, hm_cnt, add_int, add_tup, add_ref, sub_int, mul_int, mul_tup, fdiv_int, mod_int, pow_int, slc_tup, slc_rl, slc_ref, rev_tup, rev_ref, tru_bl, tru_int, tru_tup, knd_int, knd_bl, knd_non, knd_str, knd_tup, knd_ref, wk_tup, wk_rl, wk_ref, at0, at1, atm, true_and, and_true, sup_same, if_true, if_false, Bool.false_eq_true, reduceIte, List.getElem?_cons_zero, List.getElem?_cons_succ, List.set_cons_zero, List.set_cons_succ, bind_name, bind_tup, binds_nil, binds_cons, pars, putR, sup_ne (Ne.symm zw), List.length_append, List.length_map, List.length_cons, List.length_nil, newL]
            refine ⟨by rw [List.length_take, List.length_drop, line]; omega, fun y hy => ?_⟩
            obtain ⟨yz, hy1⟩ := new_ne hy
            refine hN _ _ ⟨row.take at'.toNat ++ [thing, thing] ++ row.drop at'.toNat, y, _, _, _, rfl, ?_, ?_, ?_⟩
            · rw [sup_same]
              simp
            · exact sub_new (sub_new (sub_new (sub_new (sub_new g2 hu) hv) hw) hz) hy
            · rw [List.length_append, List.length_append, List.length_take, List.length_drop, List.length_cons, List.length_cons, List.length_nil]
              omega
        · rintro ρ T' ⟨row, p', x4, x6, x7, rfl, g1, g2, g3⟩
          refine ⟨trivial, ?_⟩
          simp only [mAt_some, mL_lst, mRT_lst, mKD_lst, ix_tupE, ix_rlE, ix_refE, gt_int, lt_int, le_int, ge_int, eq_int, ne_int, eq_bl, eq_str, is_non, is_bl', len_tup, len_rl, len_ref, tup_tup, tup_ref, int_int, abs_int, rcv_ref, rcv_tup, bm_app, bm_pop, bm_cnt, hm_app, hm_pop, hm_cnt, add_int, add_tup, add_ref, sub_int, mul_int, mul_tup, fdiv_int, mod_int, pow_int, slc_tup, slc_rl, slc_ref, rev_tup, rev_ref, tru_bl, tru_int, tru_tup, knd_int, knd_bl, knd_non, knd_str, knd_tup, knd_ref, wk_tup, wk_rl, wk_ref, at0, at1, atm, true_and, and_true, sup_same, if_true, if_false, Bool.false_eq_true, reduceIte, List.getElem?_cons_zero, List.getElem?_cons_succ, List.set_cons_zero, List.set_cons_succ, bind_name, bind_tup, binds_nil, binds_cons, pars, putR, g1]
          by_cases c3 : sort = 3
          · rw [if_pos (decide_eq_true c3)]
            simp only [mAt_some, mL_lst, mRT_lst, mKD_lst, ix_tupE, ix_rlE, ix_refE, gt_int, lt_int, le_int, ge_int, eq_int, ne_int, eq_bl, eq_str, is_non, is_bl', len_tup, len_rl, len_ref, tup_tup, tup_ref, int_int, abs_int, rcv_ref, rcv_tup, bm_app, bm_pop, bm_cnt, hm_app, hm_pop, hm_cnt, add_int, add_tup, add_ref, sub_int, mul_int, mul_tup, fdiv_int, mod_int, pow_int, slc_tup, slc_rl, slc_ref, rev_tup, rev_ref, tru_bl, tru_int, tru_tup, knd_int, knd_bl, knd_non, knd_str, knd_tup, knd_ref, wk_tup, wk_rl, wk_ref, at0, at1, atm, true_and, and_true, sup_same, if_true, if_false, Bool.false_eq_true, reduceIte, List.getElem?_cons_zero, List.getElem?_cons_succ, List.set_cons_zero, List.set_cons_succ, bind_name, bind_tup, binds_nil, binds_cons, pars, putR, newL]
            intro u hu
            have up : u ≠ p' := fun z => by rw [z, g1] at hu; cases hu
            simp only [mAt_some, mL_lst, mRT_lst, mKD_lst, ix_tupE, ix_rlE, ix_refE, gt_int, lt_int, le_int, ge_int, eq_int, ne_int, eq_bl, eq_str, is_non, is_bl', len_tup, len_rl, len_ref, tup_tup, tup_ref, int_int, abs_int, rcv_ref, rcv_tup, bm_app, bm_pop, bm_cnt, hm_app, hm_pop, hm_cnt, add_int, add_tup, add_ref, sub_int, mul_int, mul_tup, fdiv_int, mod_int, pow_int, slc_tup, slc_rl, slc_ref, rev_tup, rev_ref, tru_bl, tru_int, tru_tup, knd_int, knd_bl, knd_non, knd_str, knd_tup, knd_ref, wk_tup, wk_rl, wk_ref, at0, at1, atm, true_and, and_true, sup_same, if_true, if_false, Bool.false_eq_true, reduceIte, List.getElem?_cons_zero, List.getElem?_cons_succ, List.set_cons_zero, List.set_cons_succ, bind_name, bind_tup, binds_nil, binds_cons, pars, putR, sup_ne (Ne.symm up), g1, newL, List.length_map, List.length_reverse]
            simp only [List.length_nil, Nat.mul_zero, Nat.add_zero] at g3
            refine ⟨by rw [line]; omega, fun v hv => ?_⟩
            rw [← List.map_reverse, ← List.map_append]
            exact h _ _ (by rw [List.length_append, List.length_reverse]; omega) (sub_new (sub_new g2 hu) (by rw [List.map_reverse]; exact hv))
          · rw [if_neg (by simpa using c3)]
            simp only [List.length_nil, Nat.mul_zero, Nat.add_zero] at g3
            exact h _ _ (by omega) g2
end K03

set_option Elab.async false
set_option linter.all false
set_option maxRecDepth 100000
set_option maxHeartbeats 4000000
namespace K03
open PySem Lt

abbrev pr (x : D) : D := .tup [x, x]
theorem kw_folded {x : D} : kwOrd (G.pars "folded") 0 ["steps"] [x] = [x] := rfl
theorem kw_back {x : D} : kwOrd (G.pars "back") 0 ["steps"] [x] = [x] := rfl
theorem kw_joined {x y : D} : kwOrd (G.pars "joined_steps") 0 ["one", "other"] [x, y] = [x, y] := rfl
theorem add_pairs {T : Sto} {p q : Addr} {xs ys es : List D} {K : Kt} (hp : T p = some (.lst (xs.map pr))) (hq : T q = none) (he : es = ys.map pr) (hl : xs.length + ys.length ≤ 10000) (h : ∀ u T', T' u = some (.lst ((xs ++ ys).map pr)) → Sub T T' → K (.ref u) T') :
    binD .add (.ref p) (.ref q) (sup T q (.lst es)) K := by
  have pq : p ≠ q := fun z => by rw [z, hq] at hp; cases hp
  simp only [mAt_some, mL_lst, mRT_lst, mKD_lst, ix_tupE, ix_rlE, ix_refE, gt_int, lt_int, le_int, ge_int, eq_int, ne_int, eq_bl, eq_str, is_non, is_bl', len_tup, len_rl, len_ref, tup_tup, tup_ref, int_int, abs_int, rcv_ref, rcv_tup, bm_app, bm_pop, bm_cnt, hm_app, hm_pop, hm_cnt, add_int, add_tup, add_ref, sub_int, mul_int, mul_tup, fdiv_int, mod_int, pow_int, slc_tup, slc_rl, slc_ref, rev_tup, rev_ref, tru_bl, tru_int, tru_tup, knd_int, knd_bl, knd_non, knd_str, knd_tup, knd_ref, wk_tup, wk_rl, wk_ref, at0, at1, atm, true_and, and_true, sup_same, if_true, if_false, Bool.false_eq_true, reduceIte, List.getElem?_cons_zero, List.getElem?_cons_succ, List.set_cons_zero, List.set_cons_succ, bind_name, bind_tup, binds_nil, binds_cons, pars, putR, sup_ne pq, hp, newL]
  refine ⟨by rw [he, List.length_map, List.length_map, line]; omega, fun u hu => ?_⟩
  exact h u _ (by rw [sup_same, he, List.map_append]) (sub_new (sub_new .refl hq) hu)
structure Hs (c : Calls) : Prop where
  dl : ∀ (ns : List Int) salt S K, ns.length ≤ 63 → 0 ≤ salt ∧ salt ≤ 300000 → (∀ p, S p = none → K (.ref p) (sup S p .deal)) → c.fn "_law_deal" [.rl (ns.map D.int), .int salt] S K
  an : AnyS c
  rw : ∀ a things S K, S a = some .deal → 0 < things ∧ things < 2 ^ 1000 → (∀ xs S', List.length xs ≤ 1000 → Sub S S' → K (I xs) S') → c.fn "_law_rows" [.ref a, .int things] S K
  fo : ∀ xs S K, List.length xs ≤ 1000000 → (∀ S', Sub S S' → K (I (fold xs)) S') → c.fn "folded" [I xs] S K
  lf : ∀ xs S K, List.length xs ≤ 1000000 → (∀ S', Sub S S' → K (I (fold xs)) S') → c.fn "_law_fold" [I xs] S K
  jo : ∀ xs ys S K, List.length xs + List.length ys ≤ 1000000 → (∀ S', Sub S S' → K (I (fold (xs ++ ys))) S') → c.fn "joined_steps" [I xs, I ys] S K
  ba : ∀ xs S K, K (I xs.reverse) S → c.fn "back" [I xs] S K
  od : ∀ xs S K, (∀ S', Sub S S' → K (I (odd xs)) S') → c.fn "_law_odd" [I xs] S K
  al : ∀ p xs S K, S p = some (.lst (List.map pr xs)) → (∀ x ∈ xs, plainD x = true ∧ sizD x ≤ 1000000) → (∀ S', Sub S S' → K (.bl true) S') → c.fn "_law_all" [.ref p] S K
theorem plain_ints : ∀ xs : List Int, plainDs (xs.map D.int) = true ∧ sizDs (xs.map D.int) = xs.length
  | [] => ⟨rfl, rfl⟩
  | x :: xs => by
    obtain ⟨h1, h2⟩ := plain_ints xs
    rw [List.map_cons, plainDs, sizDs, h1, h2, List.length_cons]
    exact ⟨rfl, by simp [sizD]; omega⟩
theorem goodI {xs : List Int} (h : xs.length ≤ 100000) : plainD (I xs) = true ∧ sizD (I xs) ≤ 1000000 := by
  obtain ⟨h1, h2⟩ := plain_ints xs
  rw [plainD, sizD, h1, h2]
  exact ⟨rfl, by omega⟩
theorem goodN {i : Int} : plainD (.int i) = true ∧ sizD (.int i) ≤ 1000000 := ⟨rfl, by simp [sizD]⟩
abbrev Good (xs : List D) : Prop := ∀ x ∈ xs, plainD x = true ∧ sizD x ≤ 1000000
theorem Good.app {xs ys : List D} (h : Good xs) (k : Good ys) : Good (xs ++ ys) := fun x hx => (List.mem_append.mp hx).elim (h x) (k x)
theorem Good.nil : Good [] := fun _ h => by cases h
theorem Good.cons {x : D} {xs : List D} (h : plainD x = true ∧ sizD x ≤ 1000000) (k : Good xs) : Good (x :: xs) := fun y hy => by
  rcases List.mem_cons.mp hy with e | e
  · rw [e]; exact h
  · exact k y e
theorem at_nat {xs : List Int} {i : Nat} {x : Int} (h : xs[i]? = some x) : L2.atI (xs.map D.int) (i : Int) = some (.int x) := by
  have hi := (List.getElem?_eq_some_iff.mp h).1
  unfold L2.atI L2.ixN
  rw [List.length_map, if_pos (by omega), if_pos (by omega)]
  show (xs.map D.int)[(i : Int).toNat]? = _
  rw [Int.toNat_natCast, List.getElem?_map, h] <;> rfl
/-- no two neighbours alike: the comprehension finds none -/
theorem none_alike {s : List Int} (hr : red s) {q : Addr} {S : Sto} {ρ : Lt.Env} {K : Kt} {tst : DT} {elt : DE} (hq : S q = none)
    (ht : ∀ (i : Nat) (x y : Int) S K, s[i]? = some x → s[i + 1]? = some y → K (decide (x = y)) S → tst (putR ρ 9 (.int i)) S K) (h : ∀ T, T q = some (.lst []) → Sub S T → K (.ref q) T) :
    compGo (LT.bind (.name 9)) tst elt ρ (fun _ => True) q (rngD 0 ((s.length : Int) - 1).toNat) (sup S q (.lst [])) K := by
  refine comp_ind (fun ds T => ∃ k m : Nat, ds = rngD k m ∧ (m = 0 ∨ k + m + 1 = s.length) ∧ T = sup S q (.lst [])) ?_ ?_ _ _ ⟨0, _, rfl, ?_, rfl⟩
  · rintro d ds T N ⟨k, m, e, hm, rfl⟩ hN
    cases m with
    | zero => cases e
    | succ m =>
      have hm : k + (m + 1) + 1 = s.length := by omega
      injection e with e1 e2
      subst e1 e2
      refine ⟨trivial, ?_⟩
      rw [bind_name]
      have hx : s[k]? = some s[k] := List.getElem?_eq_getElem (by omega)
      have hy : s[k + 1]? = some s[k + 1] := List.getElem?_eq_getElem (by omega)
      refine ht k _ _ _ _ hx hy ?_
      have n := red_next hr hx hy
      rw [decide_eq_false n]
      simp only [Bool.false_eq_true, if_false]
      exact hN _ ⟨k + 1, m, rfl, .inr (by omega), rfl⟩
  · rintro T ⟨k, m, e, hm, rfl⟩
    exact ⟨trivial, h _ sup_same (sub_new .refl hq)⟩
  · omega
theorem rep_map {n : Nat} {l : List Int} : (List.replicate n (l.map D.int)).flatten = ((List.replicate n l).flatten).map D.int := by
  induction n with
  | zero => rfl
  | succ n ih => rw [List.replicate_succ, List.replicate_succ, List.flatten_cons, List.flatten_cons, ih, List.map_append]
theorem rep_len {n : Nat} {l : List Int} : ((List.replicate n l).flatten).length = n * l.length := by
  induction n with
  | zero => simp
  | succ n ih => rw [List.replicate_succ, List.flatten_cons, List.length_append, ih, Nat.succ_mul]; omega
theorem red01 : ∀ n, red ((List.replicate n [(0 : Int), 1]).flatten)
  | 0 => trivial
  | 1 => ⟨by decide, trivial⟩
  | n + 2 => ⟨by decide, by decide, (red01 (n + 1))⟩
theorem act_even (x : Int) : ∀ n, act ((List.replicate (2 * n) [x]).flatten) [] = []
  | 0 => rfl
  | n + 1 => by
    have e : 2 * (n + 1) = (2 * n + 1) + 1 := by omega
    rw [e, List.replicate_succ, List.flatten_cons, List.replicate_succ, List.flatten_cons]
    show act ([x] ++ ([x] ++ (List.replicate (2 * n) [x]).flatten)) [] = []
    rw [act_app, act_app]
    have : act [x] (act [x] []) = [] := by simp [act, step]
    rw [this]
    exact act_even x n
theorem fold_even (x : Int) (n : Nat) : fold ((List.replicate (2 * n) [x]).flatten) = [] := by unfold fold; rw [act_even] <;> rfl
theorem fold_odd (x : Int) (n : Nat) : fold ((List.replicate (2 * n + 1) [x]).flatten) = [x] := by
  have e : (List.replicate (2 * n + 1) [x]).flatten = (List.replicate (2 * n) [x]).flatten ++ [x] := by
    rw [List.replicate_succ', List.flatten_append] <;> simp
  unfold fold
  rw [e, act_app, act_even] <;> rfl
theorem odd_len (xs : List Int) : (odd xs).length ≤ 8 := by
  unfold odd
  exact Nat.le_trans (List.length_filter_le ..) (by decide)
theorem e2 : [D.int 2] = List.map D.int [2] := rfl
theorem e0 : [D.int 0] = List.map D.int [0] := rfl
theorem e5 : [D.int 5] = List.map D.int [5] := rfl
theorem e01 : [D.int 0, D.int 1] = List.map D.int [0, 1] := rfl
theorem e010 : [D.int 0, D.int 1, D.int 0] = List.map D.int [0, 1, 0] := rfl
theorem e0110 : [D.int 0, D.int 1, D.int 1, D.int 0] = List.map D.int [0, 1, 1, 0] := rfl
theorem red010 : red [(0 : Int), 1, 0] := ⟨by decide, by decide, trivial⟩
theorem f0110 : fold ([(0 : Int), 1, 1, 0] ++ [2]) = [2] := by decide
theorem law_run {c : Calls} (hc : Hs c) {S : Sto} {ns : List Int} {K : Kt} (hn : ns.length ≤ 63) (h : ∀ S', K (.bl true) S') : wSs G c b_law { nx := fun _ S' => K .non S', rt := K } [some (.rl (ns.map D.int)), none, none, none, none, none, none, none, none, none, none] S := by
  unfold b_law
  simp only [wSs, wS, wE, wB, wEs, wO, wBO, wI, bind_name, bind_tup, binds_nil, binds_cons, pars, putR, List.getElem?_cons_zero, List.getElem?_cons_succ, List.set_cons_zero, List.set_cons_succ]
  refine hc.dl _ _ _ _ hn ⟨by decide, by decide⟩ fun a ha => ?_
  simp only [mAt_some, mL_lst, mRT_lst, mKD_lst, ix_tupE, ix_rlE, ix_refE, gt_int, lt_int, le_int, ge_int, eq_int, ne_int, eq_bl, eq_str, is_non, is_bl', len_tup, len_rl, len_ref, tup_tup, tup_ref, int_int, abs_int, rcv_ref, rcv_tup, bm_app, bm_pop, bm_cnt, hm_app, hm_pop, hm_cnt, add_int, add_tup, add_ref, sub_int, mul_int, mul_tup, fdiv_int, mod_int, pow_int, slc_tup, slc_rl, slc_ref, rev_tup, rev_ref, tru_bl, tru_int, tru_tup, knd_int, knd_bl, knd_non, knd_str, knd_tup, knd_ref, wk_tup, wk_rl, wk_ref, at0, at1, atm, true_and, and_true, sup_same, if_true, if_false, Bool.false_eq_true, reduceIte, List.getElem?_cons_zero, List.getElem?_cons_succ, List.set_cons_zero, List.set_cons_succ, bind_name, bind_tup, binds_nil, binds_cons, pars, putR, newL, List.length_nil, List.length_cons]
  refine ⟨by decide, fun p hp => ?_⟩
  refine ⟨by decide, by decide, ?_⟩
  obtain ⟨pa, hp0⟩ := new_ne hp
  refine for_ind (fun ds ρ T => ∃ (ts : List Int) (p : Addr) (xs : List D) (x3 x4 x5 x6 x7 x8 x9 x10 : Option D), ds = ts.map D.int ∧ ρ = [some (.rl (ns.map D.int)), some (.ref a), some (.ref p), x3, x4, x5, x6, x7, x8, x9, x10] ∧ T a = some .deal ∧ T p = some (.lst (xs.map pr)) ∧ (∀ x ∈ xs, plainD x = true ∧ sizD x ≤ 1000000) ∧ xs.length + 20 * ts.length ≤ 100) ?_ ?_ _ _ _
    ⟨rng 0 5, p, [], none, none, none, none, none, none, none, none, rngD_eq 5 0, rfl, by rw [sup_ne (Ne.symm pa), sup_same], sup_same, fun _ h => (by cases h), by decide⟩
  · rintro d ds ρ T N ⟨ts, p, xs, x3, x4, x5, x6, x7, x8, x9, x10, e, rfl, h1, h2, h3, h4⟩ hN
    cases ts with
    | nil => cases e
    | cons t ts =>
      injection e with e1 e2
      subst e1 e2
      refine ⟨trivial, ?_⟩
      rw [List.length_cons] at h4
      try simp only [mAt_some, mL_lst, mRT_lst, mKD_lst, ix_tupE, ix_rlE, ix_refE, gt_int, lt_int, le_int, ge_int, eq_int, ne_int, eq_bl, eq_str, is_non, is_bl', len_tup, len_rl, len_ref, tup_tup, tup_ref, int_int, abs_int, rcv_ref, rcv_tup, bm_app, bm_pop, bm_cnt, hm_app, hm_pop, hm_cnt, add_int, add_tup, sub_int, mul_int, mul_tup, fdiv_int, mod_int, pow_int, slc_tup, slc_rl, slc_ref, rev_tup, rev_ref, tru_bl, tru_int, tru_tup, knd_int, knd_bl, knd_non, knd_str, knd_tup, knd_ref, wk_tup, wk_rl, wk_ref, at0, at1, atm, true_and, and_true, sup_same, if_true, if_false, Bool.false_eq_true, reduceIte, List.getElem?_cons_zero, List.getElem?_cons_succ, List.set_cons_zero, List.set_cons_succ, bind_name, bind_tup, binds_nil, binds_cons, pars, putR, kw_folded, kw_back, kw_joined, LEs.len, List.length_cons, List.length_nil, List.nil_append, and_self, ite_self, ← List.map_append, ← List.map_reverse, List.length_map]
      refine hc.an _ _ _ _ h1 ⟨by decide, by decide +kernel⟩ fun r0 r1 r2 => ?_
      try simp only [mAt_some, mL_lst, mRT_lst, mKD_lst, ix_tupE, ix_rlE, ix_refE, gt_int, lt_int, le_int, ge_int, eq_int, ne_int, eq_bl, eq_str, is_non, is_bl', len_tup, len_rl, len_ref, tup_tup, tup_ref, int_int, abs_int, rcv_ref, rcv_tup, bm_app, bm_pop, bm_cnt, hm_app, hm_pop, hm_cnt, add_int, add_tup, sub_int, mul_int, mul_tup, fdiv_int, mod_int, pow_int, slc_tup, slc_rl, slc_ref, rev_tup, rev_ref, tru_bl, tru_int, tru_tup, knd_int, knd_bl, knd_non, knd_str, knd_tup, knd_ref, wk_tup, wk_rl, wk_ref, at0, at1, atm, true_and, and_true, sup_same, if_true, if_false, Bool.false_eq_true, reduceIte, List.getElem?_cons_zero, List.getElem?_cons_succ, List.set_cons_zero, List.set_cons_succ, bind_name, bind_tup, binds_nil, binds_cons, pars, putR, kw_folded, kw_back, kw_joined, LEs.len, List.length_cons, List.length_nil, List.nil_append, and_self, ite_self, ← List.map_append, ← List.map_reverse, List.length_map]
      have hth : 0 < 1 + r0 ∧ 1 + r0 < 2 ^ 1000 := ⟨by omega, Int.lt_of_le_of_lt (show 1 + r0 ≤ 8 by omega) (by decide +kernel)⟩
      refine hc.rw _ _ _ _ h1 hth fun one T1 l1 s1 => ?_
      refine hc.rw _ _ _ _ (s1 _ _ h1) hth fun other T2 l2 s2 => ?_
      refine hc.rw _ _ _ _ (s2 _ _ (s1 _ _ h1)) hth fun last T3 l3 s3 => ?_
      have f1 := (fold_len one).2
      have f2 := (fold_len (one ++ other)).2
      have f3 := (fold_len (other ++ last)).2
      have f4 := (fold_len (one ++ other ++ last)).2
      rw [List.length_append] at f2 f3
      rw [List.length_append, List.length_append] at f4
      refine hc.fo _ _ _ (by omega) fun T4 s4 => ?_
      refine hc.lf _ _ _ (by omega) fun T5 s5 => ?_
      refine ⟨by decide, hc.ba _ _ _ ?_⟩
      try simp only [mAt_some, mL_lst, mRT_lst, mKD_lst, ix_tupE, ix_rlE, ix_refE, gt_int, lt_int, le_int, ge_int, eq_int, ne_int, eq_bl, eq_str, is_non, is_bl', len_tup, len_rl, len_ref, tup_tup, tup_ref, int_int, abs_int, rcv_ref, rcv_tup, bm_app, bm_pop, bm_cnt, hm_app, hm_pop, hm_cnt, add_int, add_tup, sub_int, mul_int, mul_tup, fdiv_int, mod_int, pow_int, slc_tup, slc_rl, slc_ref, rev_tup, rev_ref, tru_bl, tru_int, tru_tup, knd_int, knd_bl, knd_non, knd_str, knd_tup, knd_ref, wk_tup, wk_rl, wk_ref, at0, at1, atm, true_and, and_true, sup_same, if_true, if_false, Bool.false_eq_true, reduceIte, List.getElem?_cons_zero, List.getElem?_cons_succ, List.set_cons_zero, List.set_cons_succ, bind_name, bind_tup, binds_nil, binds_cons, pars, putR, kw_folded, kw_back, kw_joined, LEs.len, List.length_cons, List.length_nil, List.nil_append, and_self, ite_self, ← List.map_append, ← List.map_reverse, List.length_map]
      have S5 := ((s1.trans s2).trans s3).trans (s4.trans s5)
      refine ⟨by decide, by decide, fun q hq => add_pairs (ys := [I (fold one), I one.reverse]) (S5 _ _ h2) hq rfl (by simp; omega) fun u1 T6 hu1 s6 => ?_⟩
      refine hc.jo _ _ _ _ (by omega) fun T7 s7 => ?_
      try simp only [mAt_some, mL_lst, mRT_lst, mKD_lst, ix_tupE, ix_rlE, ix_refE, gt_int, lt_int, le_int, ge_int, eq_int, ne_int, eq_bl, eq_str, is_non, is_bl', len_tup, len_rl, len_ref, tup_tup, tup_ref, int_int, abs_int, rcv_ref, rcv_tup, bm_app, bm_pop, bm_cnt, hm_app, hm_pop, hm_cnt, add_int, add_tup, sub_int, mul_int, mul_tup, fdiv_int, mod_int, pow_int, slc_tup, slc_rl, slc_ref, rev_tup, rev_ref, tru_bl, tru_int, tru_tup, knd_int, knd_bl, knd_non, knd_str, knd_tup, knd_ref, wk_tup, wk_rl, wk_ref, at0, at1, atm, true_and, and_true, sup_same, if_true, if_false, Bool.false_eq_true, reduceIte, List.getElem?_cons_zero, List.getElem?_cons_succ, List.set_cons_zero, List.set_cons_succ, bind_name, bind_tup, binds_nil, binds_cons, pars, putR, kw_folded, kw_back, kw_joined, LEs.len, List.length_cons, List.length_nil, List.nil_append, and_self, ite_self, ← List.map_append, ← List.map_reverse, List.length_map]
      refine ⟨by rw [line]; omega, hc.lf _ _ _ (by rw [List.length_append]; omega) fun T8 s8 => ?_⟩
      refine ⟨by decide, by decide, fun q hq => add_pairs (ys := [I (fold (one ++ other))]) (s8 _ _ (s7 _ _ hu1)) hq rfl (by simp; omega) fun u2 T9 hu2 s9 => ?_⟩
      refine hc.jo _ _ _ _ (by omega) fun T10 s10 => ?_
      refine hc.jo _ _ _ _ (by omega) fun T11 s11 => ?_
      try simp only [mAt_some, mL_lst, mRT_lst, mKD_lst, ix_tupE, ix_rlE, ix_refE, gt_int, lt_int, le_int, ge_int, eq_int, ne_int, eq_bl, eq_str, is_non, is_bl', len_tup, len_rl, len_ref, tup_tup, tup_ref, int_int, abs_int, rcv_ref, rcv_tup, bm_app, bm_pop, bm_cnt, hm_app, hm_pop, hm_cnt, add_int, add_tup, sub_int, mul_int, mul_tup, fdiv_int, mod_int, pow_int, slc_tup, slc_rl, slc_ref, rev_tup, rev_ref, tru_bl, tru_int, tru_tup, knd_int, knd_bl, knd_non, knd_str, knd_tup, knd_ref, wk_tup, wk_rl, wk_ref, at0, at1, atm, true_and, and_true, sup_same, if_true, if_false, Bool.false_eq_true, reduceIte, List.getElem?_cons_zero, List.getElem?_cons_succ, List.set_cons_zero, List.set_cons_succ, bind_name, bind_tup, binds_nil, binds_cons, pars, putR, kw_folded, kw_back, kw_joined, LEs.len, List.length_cons, List.length_nil, List.nil_append, and_self, ite_self, ← List.map_append, ← List.map_reverse, List.length_map]
      refine ⟨by rw [line]; omega, by rw [List.length_append, line]; omega, hc.lf _ _ _ (by rw [List.length_append, List.length_append]; omega) fun T12 s12 => ?_⟩
      refine ⟨by decide, hc.jo _ _ _ _ (by omega) fun T13 s13 => ?_⟩
      refine hc.jo _ _ _ _ (by omega) fun T14 s14 => ?_
      try simp only [mAt_some, mL_lst, mRT_lst, mKD_lst, ix_tupE, ix_rlE, ix_refE, gt_int, lt_int, le_int, ge_int, eq_int, ne_int, eq_bl, eq_str, is_non, is_bl', len_tup, len_rl, len_ref, tup_tup, tup_ref, int_int, abs_int, rcv_ref, rcv_tup, bm_app, bm_pop, bm_cnt, hm_app, hm_pop, hm_cnt, add_int, add_tup, sub_int, mul_int, mul_tup, fdiv_int, mod_int, pow_int, slc_tup, slc_rl, slc_ref, rev_tup, rev_ref, tru_bl, tru_int, tru_tup, knd_int, knd_bl, knd_non, knd_str, knd_tup, knd_ref, wk_tup, wk_rl, wk_ref, at0, at1, atm, true_and, and_true, sup_same, if_true, if_false, Bool.false_eq_true, reduceIte, List.getElem?_cons_zero, List.getElem?_cons_succ, List.set_cons_zero, List.set_cons_succ, bind_name, bind_tup, binds_nil, binds_cons, pars, putR, kw_folded, kw_back, kw_joined, LEs.len, List.length_cons, List.length_nil, List.nil_append, and_self, ite_self, ← List.map_append, ← List.map_reverse, List.length_map]
      refine ⟨by rw [line]; omega, by rw [List.length_append, line]; omega, hc.lf _ _ _ (by rw [List.length_append, List.length_append]; omega) fun T15 s15 => ?_⟩
      have S15 := ((s10.trans s11).trans s12).trans ((s13.trans s14).trans s15)
      refine ⟨by decide, by decide, fun q hq => add_pairs (ys := [I (fold (one ++ other ++ last)), I (fold (one ++ other ++ last))]) (S15 _ _ hu2) hq (by rw [fold_fold_l, fold_fold_r, ← List.append_assoc]; rfl) (by simp; omega) fun u3 T16 hu3 s16 => ?_⟩
      refine hc.ba _ _ _ ?_
      refine hc.jo _ _ _ _ (by rw [List.length_reverse]; omega) fun T17 s17 => ?_
      refine ⟨by decide, by decide, hc.ba _ _ _ ?_⟩
      refine hc.jo _ _ _ _ (by rw [List.length_reverse]; omega) fun T18 s18 => ?_
      refine ⟨by decide, by decide, by decide, ?_⟩
      refine hc.jo one [] _ _ (by simp; omega) fun T19 s19 => ?_
      refine hc.lf _ _ _ (by omega) fun T20 s20 => ?_
      refine ⟨by decide, by decide, ?_⟩
      refine hc.jo [] one _ _ (by simp; omega) fun T21 s21 => ?_
      refine hc.lf _ _ _ (by omega) fun T22 s22 => ?_
      have S22 := ((s17.trans s18).trans (s19.trans s20)).trans (s21.trans s22)
      refine ⟨by decide, by decide, fun q hq => add_pairs (ys := [I [], I [], I (fold one), I (fold one)]) (S22 _ _ hu3) hq (by rw [fold_inv, fold_inv2, List.append_nil, List.nil_append]; rfl) (by simp; omega) fun u4 T23 hu4 s23 => ?_⟩
      refine hc.ba _ _ _ ?_
      refine hc.fo _ _ _ (by rw [List.length_reverse]; omega) fun T24 s24 => ?_
      refine hc.lf _ _ _ (by omega) fun T25 s25 => ?_
      try simp only [mAt_some, mL_lst, mRT_lst, mKD_lst, ix_tupE, ix_rlE, ix_refE, gt_int, lt_int, le_int, ge_int, eq_int, ne_int, eq_bl, eq_str, is_non, is_bl', len_tup, len_rl, len_ref, tup_tup, tup_ref, int_int, abs_int, rcv_ref, rcv_tup, bm_app, bm_pop, bm_cnt, hm_app, hm_pop, hm_cnt, add_int, add_tup, sub_int, mul_int, mul_tup, fdiv_int, mod_int, pow_int, slc_tup, slc_rl, slc_ref, rev_tup, rev_ref, tru_bl, tru_int, tru_tup, knd_int, knd_bl, knd_non, knd_str, knd_tup, knd_ref, wk_tup, wk_rl, wk_ref, at0, at1, atm, true_and, and_true, sup_same, if_true, if_false, Bool.false_eq_true, reduceIte, List.getElem?_cons_zero, List.getElem?_cons_succ, List.set_cons_zero, List.set_cons_succ, bind_name, bind_tup, binds_nil, binds_cons, pars, putR, kw_folded, kw_back, kw_joined, LEs.len, List.length_cons, List.length_nil, List.nil_append, and_self, ite_self, ← List.map_append, ← List.map_reverse, List.length_map]
      refine ⟨by decide, hc.fo _ _ _ (by omega) fun T26 s26 => ?_⟩
      refine hc.ba _ _ _ ?_
      refine hc.lf _ _ _ (by omega) fun T27 s27 => ?_
      try simp only [mAt_some, mL_lst, mRT_lst, mKD_lst, ix_tupE, ix_rlE, ix_refE, gt_int, lt_int, le_int, ge_int, eq_int, ne_int, eq_bl, eq_str, is_non, is_bl', len_tup, len_rl, len_ref, tup_tup, tup_ref, int_int, abs_int, rcv_ref, rcv_tup, bm_app, bm_pop, bm_cnt, hm_app, hm_pop, hm_cnt, add_int, add_tup, sub_int, mul_int, mul_tup, fdiv_int, mod_int, pow_int, slc_tup, slc_rl, slc_ref, rev_tup, rev_ref, tru_bl, tru_int, tru_tup, knd_int, knd_bl, knd_non, knd_str, knd_tup, knd_ref, wk_tup, wk_rl, wk_ref, at0, at1, atm, true_and, and_true, sup_same, if_true, if_false, Bool.false_eq_true, reduceIte, List.getElem?_cons_zero, List.getElem?_cons_succ, List.set_cons_zero, List.set_cons_succ, bind_name, bind_tup, binds_nil, binds_cons, pars, putR, kw_folded, kw_back, kw_joined, LEs.len, List.length_cons, List.length_nil, List.nil_append, and_self, ite_self, ← List.map_append, ← List.map_reverse, List.length_map]
      refine ⟨by decide, hc.fo _ _ _ (by omega) fun T28 s28 => ?_⟩
      refine hc.fo _ _ _ (by omega) fun T29 s29 => ?_
      refine hc.lf _ _ _ (by omega) fun T30 s30 => ?_
      have S30 := (((s24.trans s25).trans s26).trans (s27.trans s28)).trans (s29.trans s30)
      refine ⟨by decide, by decide, fun q hq => add_pairs (ys := [I (fold one).reverse, I (fold one).reverse, I (fold one)]) (S30 _ _ hu4) hq (by rw [fold_rev, fold_fold]; rfl) (by simp; omega) fun u5 T31 hu5 s31 => ?_⟩
      refine hc.ba _ _ _ ?_
      refine hc.ba _ _ _ ?_
      refine hc.jo _ _ _ _ (by rw [List.length_reverse, List.length_reverse]; omega) fun T32 s32 => ?_
      try simp only [mAt_some, mL_lst, mRT_lst, mKD_lst, ix_tupE, ix_rlE, ix_refE, gt_int, lt_int, le_int, ge_int, eq_int, ne_int, eq_bl, eq_str, is_non, is_bl', len_tup, len_rl, len_ref, tup_tup, tup_ref, int_int, abs_int, rcv_ref, rcv_tup, bm_app, bm_pop, bm_cnt, hm_app, hm_pop, hm_cnt, add_int, add_tup, sub_int, mul_int, mul_tup, fdiv_int, mod_int, pow_int, slc_tup, slc_rl, slc_ref, rev_tup, rev_ref, tru_bl, tru_int, tru_tup, knd_int, knd_bl, knd_non, knd_str, knd_tup, knd_ref, wk_tup, wk_rl, wk_ref, at0, at1, atm, true_and, and_true, sup_same, if_true, if_false, Bool.false_eq_true, reduceIte, List.getElem?_cons_zero, List.getElem?_cons_succ, List.set_cons_zero, List.set_cons_succ, bind_name, bind_tup, binds_nil, binds_cons, pars, putR, kw_folded, kw_back, kw_joined, LEs.len, List.length_cons, List.length_nil, List.nil_append, and_self, ite_self, ← List.map_append, ← List.map_reverse, List.length_map]
      refine ⟨by rw [line]; omega, hc.lf _ _ _ (by rw [List.length_append]; omega) fun T33 s33 => ?_⟩
      try simp only [mAt_some, mL_lst, mRT_lst, mKD_lst, ix_tupE, ix_rlE, ix_refE, gt_int, lt_int, le_int, ge_int, eq_int, ne_int, eq_bl, eq_str, is_non, is_bl', len_tup, len_rl, len_ref, tup_tup, tup_ref, int_int, abs_int, rcv_ref, rcv_tup, bm_app, bm_pop, bm_cnt, hm_app, hm_pop, hm_cnt, add_int, add_tup, sub_int, mul_int, mul_tup, fdiv_int, mod_int, pow_int, slc_tup, slc_rl, slc_ref, rev_tup, rev_ref, tru_bl, tru_int, tru_tup, knd_int, knd_bl, knd_non, knd_str, knd_tup, knd_ref, wk_tup, wk_rl, wk_ref, at0, at1, atm, true_and, and_true, sup_same, if_true, if_false, Bool.false_eq_true, reduceIte, List.getElem?_cons_zero, List.getElem?_cons_succ, List.set_cons_zero, List.set_cons_succ, bind_name, bind_tup, binds_nil, binds_cons, pars, putR, kw_folded, kw_back, kw_joined, LEs.len, List.length_cons, List.length_nil, List.nil_append, and_self, ite_self, ← List.map_append, ← List.map_reverse, List.length_map]
      refine ⟨by decide, by decide, fun q hq => add_pairs (ys := [I (fold (one ++ other)).reverse]) (s33 _ _ (s32 _ _ hu5)) hq (by rw [← List.reverse_append, fold_rev]; rfl) (by simp; omega) fun u6 T34 hu6 s34 => ?_⟩
      simp only [mAt_some, mL_lst, mRT_lst, mKD_lst, ix_tupE, ix_rlE, ix_refE, gt_int, lt_int, le_int, ge_int, eq_int, ne_int, eq_bl, eq_str, is_non, is_bl', len_tup, len_rl, len_ref, tup_tup, tup_ref, int_int, abs_int, rcv_ref, rcv_tup, bm_app, bm_pop, bm_cnt, hm_app, hm_pop, hm_cnt, add_int, add_tup, sub_int, mul_int, mul_tup, fdiv_int, mod_int, pow_int, slc_tup, slc_rl, slc_ref, rev_tup, rev_ref, tru_bl, tru_int, tru_tup, knd_int, knd_bl, knd_non, knd_str, knd_tup, knd_ref, wk_tup, wk_rl, wk_ref, at0, at1, atm, true_and, and_true, sup_same, if_true, if_false, Bool.false_eq_true, reduceIte, List.getElem?_cons_zero, List.getElem?_cons_succ, List.set_cons_zero, List.set_cons_succ, bind_name, bind_tup, binds_nil, binds_cons, pars, putR, kOk, isK, List.all_cons, List.all_nil, List.any_cons, List.any_nil, Bool.and_self, Bool.or_false]
      refine hc.od _ _ _ fun T35 s35 => ?_
      refine hc.od _ _ _ fun T36 s36 => ?_
      try simp only [mAt_some, mL_lst, mRT_lst, mKD_lst, ix_tupE, ix_rlE, ix_refE, gt_int, lt_int, le_int, ge_int, eq_int, ne_int, eq_bl, eq_str, is_non, is_bl', len_tup, len_rl, len_ref, tup_tup, tup_ref, int_int, abs_int, rcv_ref, rcv_tup, bm_app, bm_pop, bm_cnt, hm_app, hm_pop, hm_cnt, add_int, add_tup, sub_int, mul_int, mul_tup, fdiv_int, mod_int, pow_int, slc_tup, slc_rl, slc_ref, rev_tup, rev_ref, tru_bl, tru_int, tru_tup, knd_int, knd_bl, knd_non, knd_str, knd_tup, knd_ref, wk_tup, wk_rl, wk_ref, at0, at1, atm, true_and, and_true, sup_same, if_true, if_false, Bool.false_eq_true, reduceIte, List.getElem?_cons_zero, List.getElem?_cons_succ, List.set_cons_zero, List.set_cons_succ, bind_name, bind_tup, binds_nil, binds_cons, pars, putR, kw_folded, kw_back, kw_joined, LEs.len, List.length_cons, List.length_nil, List.nil_append, and_self, ite_self, ← List.map_append, ← List.map_reverse, List.length_map]
      refine ⟨by decide, by decide, by decide, ⟨by omega, by omega⟩, fun q hq => ?_⟩
      refine none_alike (s := fold one) (red_of_fold one) hq (fun i x y S K hx hy hk => ?_) fun T37 hT37 s37 => ?_
      · have e1 := at_nat hx
        have e2 : L2.atI ((fold one).map D.int) ((i : Int) + 1) = some (.int y) := by
          have := at_nat hy
          rw [Int.natCast_add] at this
          exact this
        simp only [mAt_some, mL_lst, mRT_lst, mKD_lst, ix_tupE, ix_rlE, ix_refE, gt_int, lt_int, le_int, ge_int, eq_int, ne_int, eq_bl, eq_str, is_non, is_bl', len_tup, len_rl, len_ref, tup_tup, tup_ref, int_int, abs_int, rcv_ref, rcv_tup, bm_app, bm_pop, bm_cnt, hm_app, hm_pop, hm_cnt, add_int, add_tup, sub_int, mul_int, mul_tup, fdiv_int, mod_int, pow_int, slc_tup, slc_rl, slc_ref, rev_tup, rev_ref, tru_bl, tru_int, tru_tup, knd_int, knd_bl, knd_non, knd_str, knd_tup, knd_ref, wk_tup, wk_rl, wk_ref, at0, at1, atm, true_and, and_true, sup_same, if_true, if_false, Bool.false_eq_true, reduceIte, List.getElem?_cons_zero, List.getElem?_cons_succ, List.set_cons_zero, List.set_cons_succ, bind_name, bind_tup, binds_nil, binds_cons, pars, putR, e1, e2]
        exact hk
      · simp only [mAt_some, mL_lst, mRT_lst, mKD_lst, ix_tupE, ix_rlE, ix_refE, gt_int, lt_int, le_int, ge_int, eq_int, ne_int, eq_bl, eq_str, is_non, is_bl', len_tup, len_rl, len_ref, tup_tup, tup_ref, int_int, abs_int, rcv_ref, rcv_tup, bm_app, bm_pop, bm_cnt, hm_app, hm_pop, hm_cnt, add_int, add_tup, sub_int, mul_int, mul_tup, fdiv_int, mod_int, pow_int, slc_tup, slc_rl, slc_ref, rev_tup, rev_ref, tru_bl, tru_int, tru_tup, knd_int, knd_bl, knd_non, knd_str, knd_tup, knd_ref, wk_tup, wk_rl, wk_ref, at0, at1, atm, true_and, and_true, sup_same, if_true, if_false, Bool.false_eq_true, reduceIte, List.getElem?_cons_zero, List.getElem?_cons_succ, List.set_cons_zero, List.set_cons_succ, bind_name, bind_tup, binds_nil, binds_cons, pars, putR, hT37, List.length_nil]
        have par : ((one.length : Int) - ((fold one).length : Int)) % 2 = 0 := by
          have := fold_len one
          omega
        have S37 := s35.trans (s36.trans s37)
        refine ⟨by decide, by decide, fun q hq => add_pairs (ys := [I (odd one), .int 0, .int 0]) (S37 _ _ hu6) hq (by rw [odd_fold, par]; rfl) (by simp; omega) fun u7 T38 hu7 s38 => ?_⟩
        have SA := ((((S5.trans s6).trans (s7.trans s8)).trans s9).trans S15).trans s16
        have SB := (((SA.trans S22).trans s23).trans S30).trans s31
        have SC := (((SB.trans (s32.trans s33)).trans s34).trans S37).trans s38
        have o1 := odd_len one
        refine hN _ _ ⟨ts, u7, _, _, _, _, _, _, _, _, _, rfl, rfl, SC _ _ h1, hu7, ?_, by simp; omega⟩
        have r1 : one.reverse.length = one.length := List.length_reverse ..
        have r2 : (fold one).reverse.length = (fold one).length := List.length_reverse ..
        have r3 : (fold (one ++ other)).reverse.length = (fold (one ++ other)).length := List.length_reverse ..
        exact ((((((Good.app h3 (.cons (goodI (by omega)) (.cons (goodI (by omega)) .nil))).app (.cons (goodI (by omega)) .nil)).app (.cons (goodI (by omega)) (.cons (goodI (by omega)) .nil))).app (.cons (goodI (by simp)) (.cons (goodI (by simp)) (.cons (goodI (by omega)) (.cons (goodI (by omega)) .nil))))).app
          (.cons (goodI (by omega)) (.cons (goodI (by omega)) (.cons (goodI (by omega)) .nil)))).app (.cons (goodI (by omega)) .nil)).app (.cons (goodI (by omega)) (.cons goodN (.cons goodN .nil)))
  · rintro ρ T ⟨ts, p, xs, x3, x4, x5, x6, x7, x8, x9, x10, e, rfl, h1, h2, h3, h4⟩
    have hts : ts = [] := by simpa using e.symm
    subst hts
    refine ⟨trivial, ?_⟩
    try simp only [mAt_some, mL_lst, mRT_lst, mKD_lst, ix_tupE, ix_rlE, ix_refE, gt_int, lt_int, le_int, ge_int, eq_int, ne_int, eq_bl, eq_str, is_non, is_bl', len_tup, len_rl, len_ref, tup_tup, tup_ref, int_int, abs_int, rcv_ref, rcv_tup, bm_app, bm_pop, bm_cnt, hm_app, hm_pop, hm_cnt, add_int, add_tup, sub_int, mul_int, mul_tup, fdiv_int, mod_int, pow_int, slc_tup, slc_rl, slc_ref, rev_tup, rev_ref, tru_bl, tru_int, tru_tup, knd_int, knd_bl, knd_non, knd_str, knd_tup, knd_ref, wk_tup, wk_rl, wk_ref, at0, at1, atm, true_and, and_true, sup_same, if_true, if_false, Bool.false_eq_true, reduceIte, List.getElem?_cons_zero, List.getElem?_cons_succ, List.set_cons_zero, List.set_cons_succ, bind_name, bind_tup, binds_nil, binds_cons, pars, putR, kw_folded, kw_back, kw_joined, LEs.len, List.length_cons, List.length_nil, List.nil_append, and_self, ite_self, ← List.map_append, ← List.map_reverse, List.length_map]
    refine ⟨by decide, fun q hq => ?_⟩
    refine draws hc.an (b := 3) ⟨by decide, by decide +kernel⟩ h1 hq (by rw [rngD_len]; decide) (fun d S K hh => hh) fun wide T1 hl hT1 s1 => ?_
    rw [rngD_len] at hl
    have hl : wide.length ≤ 700 := hl
    simp only [mAt_some, mL_lst, mRT_lst, mKD_lst, ix_tupE, ix_rlE, ix_refE, gt_int, lt_int, le_int, ge_int, eq_int, ne_int, eq_bl, eq_str, is_non, is_bl', len_tup, len_rl, len_ref, tup_tup, tup_ref, int_int, abs_int, rcv_ref, rcv_tup, bm_app, bm_pop, bm_cnt, hm_app, hm_pop, hm_cnt, add_int, add_tup, sub_int, mul_int, mul_tup, fdiv_int, mod_int, pow_int, slc_tup, slc_rl, slc_ref, rev_tup, rev_ref, tru_bl, tru_int, tru_tup, knd_int, knd_bl, knd_non, knd_str, knd_tup, knd_ref, wk_tup, wk_rl, wk_ref, at0, at1, atm, true_and, and_true, sup_same, if_true, if_false, Bool.false_eq_true, reduceIte, List.getElem?_cons_zero, List.getElem?_cons_succ, List.set_cons_zero, List.set_cons_succ, bind_name, bind_tup, binds_nil, binds_cons, pars, putR, hT1, ↓e0110, ↓e010, ↓e01, e2, e0, e5, rep_map, ← List.map_append, ← List.map_reverse, List.length_map, List.length_cons, List.length_nil]
    rw [List.length_nil] at h4
    refine ⟨by rw [List.length_reverse, line]; omega, by decide, by rw [List.length_append, List.length_reverse, line]; omega, hc.fo _ _ _ (by simp; omega) fun T2 s2 => ?_⟩
    refine ⟨by decide, by decide, by decide, by rw [List.length_reverse, line]; omega, hc.jo _ _ _ _ (by simp; omega) fun T3 s3 => ?_⟩
    refine ⟨by decide, by decide, by decide, ⟨by decide, by decide, by decide⟩, hc.fo _ _ _ (by rw [rep_len]; decide) fun T4 s4 => ?_⟩
    have S4 := (s1.trans s2).trans (s3.trans s4)
    refine ⟨by decide, ⟨by decide, by decide, by decide⟩, by decide, by decide, fun q hq => add_pairs (ys := [I [2], I [0, 1, 0], I ((List.replicate (Int.toNat 1000) [0, 1]).flatten)]) (S4 _ _ h2) hq (by rw [fold_wide, fold_wide3 _ _ red010, fold_of_red (red01 _)]; rfl) (by simp; omega) fun u1 T5 hu1 s5 => ?_⟩
    refine ⟨by decide, ⟨by decide, by decide, by decide⟩, hc.fo _ _ _ (by rw [rep_len]; decide) fun T6 s6 => ?_⟩
    refine ⟨by decide, by decide, by decide, ⟨by decide, by decide, by decide⟩, hc.fo _ _ _ (by rw [rep_len]; decide) fun T7 s7 => ?_⟩
    refine ⟨by decide, by decide, by decide, by decide, hc.jo _ _ _ _ (by decide) fun T8 s8 => ?_⟩
    refine ⟨by decide, by decide, by decide, hc.ba [] _ _ ?_⟩
    refine ⟨by decide, by decide, by decide, fun q hq => add_pairs (ys := [I [], I [5], I [2], I []]) (((s6.trans s7).trans s8) _ _ hu1) hq (by rw [show Int.toNat 2000 = 2 * 1000 from rfl, show Int.toNat 1999 = 2 * 999 + 1 from rfl, fold_even, fold_odd, f0110]; rfl) (by simp; omega) fun u2 T9 hu2 s9 => ?_⟩
    refine hc.al _ _ _ _ hu2 ?_ fun S' _ => h S'
    exact ((Good.app h3 (.cons (goodI (by decide)) (.cons (goodI (by decide)) (.cons (goodI (by rw [rep_len]; decide)) .nil)))).app (.cons (goodI (by decide)) (.cons (goodI (by decide)) (.cons (goodI (by decide)) (.cons (goodI (by decide)) .nil)))))
end K03

set_option Elab.async false
set_option linter.all false
set_option maxRecDepth 100000
set_option maxHeartbeats 0
namespace K03
open PySem PySem.Spec PyProof.Rows L2 Lt
/-! ## the levels -/
def nat : Nat' := fun f => if f == "_law_any" then some gAny else if f == "_law_deal" then some gDeal else none
section
variable {n : Nat}
abbrev C (n : Nat) : Calls := lvl G T nat n
theorem s_any : AnyS (C (n + 1)) := fun a b S K h1 h2 h3 => by
  rw [nat_eq (f := "_law_any") (g := gAny) rfl]
  exact ⟨a, b, rfl, h1, h2, h3⟩
theorem s_deal (ns : List Int) (salt : Int) (S : Sto) (K : Kt) (h1 : ns.length ≤ 63) (h2 : 0 ≤ salt ∧ salt ≤ 300000) (h3 : ∀ p, S p = none → K (.ref p) (sup S p .deal)) : (C (n + 1)).fn "_law_deal" [.rl (ns.map D.int), .int salt] S K := by
  rw [nat_eq (f := "_law_deal") (g := gDeal) rfl]
  exact ⟨ns, salt, rfl, h1, h2, h3⟩
theorem s_folded (xs : List Int) (S : Sto) (K : Kt) (h1 : xs.length ≤ 1000000) (h2 : ∀ S', Lt.Sub S S' → K (I (fold xs)) S') : (C (n + 1)).fn "folded" [I xs] S K := by
  rw [fn_eq (f := "folded") (r := r_folded) rfl rfl]
  exact ⟨rfl, folded_run h1 h2⟩
theorem s_lfold (xs : List Int) (S : Sto) (K : Kt) (h1 : xs.length ≤ 1000000) (h2 : ∀ S', Lt.Sub S S' → K (I (fold xs)) S') : (C (n + 1)).fn "_law_fold" [I xs] S K := by
  rw [fn_eq (f := "_law_fold") (r := r__law_fold) rfl rfl]
  exact ⟨rfl, lfold_run h1 h2⟩
theorem s_joined (xs ys : List Int) (S : Sto) (K : Kt) (h1 : xs.length + ys.length ≤ 1000000) (h2 : ∀ S', Lt.Sub S S' → K (I (fold (xs ++ ys))) S') : (C (n + 2)).fn "joined_steps" [I xs, I ys] S K := by
  rw [fn_eq (f := "joined_steps") (r := r_joined_steps) rfl rfl]
  exact ⟨rfl, joined_run s_folded h1 h2⟩
theorem s_back (xs : List Int) (S : Sto) (K : Kt) (h : K (I xs.reverse) S) : (C (n + 1)).fn "back" [I xs] S K := by
  rw [fn_eq (f := "back") (r := r_back) rfl rfl]
  exact ⟨rfl, back_run h⟩
theorem s_of (a p : Addr) (ds : List D) (S : Sto) (K : Kt) (h1 : S a = some .deal) (h2 : S p = some (.lst ds)) (h3 : 0 < ds.length ∧ ds.length ≤ 1000) (h4 : ∀ d ∈ ds, K d S) : (C (n + 2)).fn "_law_of" [.ref a, .ref p] S K := by
  rw [fn_eq (f := "_law_of") (r := r__law_of) rfl rfl]
  exact ⟨rfl, of_run s_any h1 h2 h3 h4⟩
theorem s_rows (a : Addr) (things : Int) (S : Sto) (K : Kt) (h1 : S a = some .deal) (h2 : 0 < things ∧ things < 2 ^ 1000) (h3 : ∀ xs S', List.length xs ≤ 1000 → Lt.Sub S S' → K (I xs) S') : (C (n + 3)).fn "_law_rows" [.ref a, .int things] S K := by
  rw [fn_eq (f := "_law_rows") (r := r__law_rows) rfl rfl]
  exact ⟨rfl, rows_run s_any s_of h2 h1 h3⟩
theorem s_odd (xs : List Int) (S : Sto) (K : Kt) (h : ∀ S', Lt.Sub S S' → K (I (odd xs)) S') : (C (n + 1)).fn "_law_odd" [I xs] S K := by
  rw [fn_eq (f := "_law_odd") (r := r__law_odd) rfl rfl]
  exact ⟨rfl, odd_run h⟩
theorem s_kind (x : D) (S : Sto) (K : Kt) (h1 : leafD x = true) (h2 : K (.bl true) S) : (C (n + 1)).fn "_law_is_kind" [x, x] S K := by
  rw [fn_eq (f := "_law_is_kind") (r := r__law_is_kind) rfl rfl]
  exact ⟨rfl, kind_run h1 h2⟩
theorem s_same (x : D) (S : Sto) (K : Kt) (h1 : plainD x = true) (h2 : sizD x ≤ 1000000) (h3 : ∀ S', Lt.Sub S S' → K (.bl true) S') : (C (n + 2)).fn "_law_same" [x, x] S K := by
  rw [fn_eq (f := "_law_same") (r := r__law_same) rfl rfl]
  exact ⟨rfl, same_run s_kind h1 h2 h3⟩
theorem s_all (p : Addr) (xs : List D) (S : Sto) (K : Kt) (h1 : S p = some (.lst (List.map pr xs))) (h2 : ∀ x ∈ xs, plainD x = true ∧ sizD x ≤ 1000000) (h3 : ∀ S', Lt.Sub S S' → K (.bl true) S') : (C (n + 3)).fn "_law_all" [.ref p] S K := by
  rw [fn_eq (f := "_law_all") (r := r__law_all) rfl rfl]
  exact ⟨rfl, all_run s_same h1 h2 h3⟩
theorem law_ok {ns : List Int} (h : ns.length ≤ 63) : (C 4).fn "law" [.rl (ns.map D.int)] (fun _ => none) (fun d _ => d = .bl true) := by
  rw [fn_eq (f := "law") (r := r_law) rfl rfl]
  exact ⟨rfl, law_run ⟨s_deal, s_any, s_rows, s_folded, s_lfold, s_joined, s_back, s_odd, s_all⟩ h fun _ => rfl⟩
end
def d_folded : He.DefD := ⟨("folded", none), "folded", "folded", defArgs (top 1), defBody (top 1), defScope (top 1), [], []⟩
def d_joined_steps : He.DefD := ⟨("joined_steps", none), "joined_steps", "joined_steps", defArgs (top 2), defBody (top 2), defScope (top 2), [], []⟩
def d_back : He.DefD := ⟨("back", none), "back", "back", defArgs (top 4), defBody (top 4), defScope (top 4), [], []⟩
def d__law_deal : He.DefD := ⟨("_law_deal", none), "_law_deal", "_law_deal", defArgs (top 6), defBody (top 6), defScope (top 6), [], []⟩
def d__law_any : He.DefD := ⟨("_law_any", none), "_law_any", "_law_any", defArgs (top 7), defBody (top 7), defScope (top 7), [], []⟩
def d__law_of : He.DefD := ⟨("_law_of", none), "_law_of", "_law_of", defArgs (top 8), defBody (top 8), defScope (top 8), [], []⟩
def d__law_is_kind : He.DefD := ⟨("_law_is_kind", none), "_law_is_kind", "_law_is_kind", defArgs (top 9), defBody (top 9), defScope (top 9), [], []⟩
def d__law_same : He.DefD := ⟨("_law_same", none), "_law_same", "_law_same", defArgs (top 10), defBody (top 10), defScope (top 10), [], []⟩
def d__law_all : He.DefD := ⟨("_law_all", none), "_law_all", "_law_all", defArgs (top 11), defBody (top 11), defScope (top 11), [], []⟩
def d__law_fold : He.DefD := ⟨("_law_fold", none), "_law_fold", "_law_fold", defArgs (top 12), defBody (top 12), defScope (top 12), [], []⟩
def d__law_rows : He.DefD := ⟨("_law_rows", none), "_law_rows", "_law_rows", defArgs (top 13), defBody (top 13), defScope (top 13), [], []⟩
def d__law_odd : He.DefD := ⟨("_law_odd", none), "_law_odd", "_law_odd", defArgs (top 14), defBody (top 14), defScope (top 14), [], []⟩
def d_law : He.DefD := ⟨("law", none), "law", "law", defArgs (top 15), defBody (top 15), defScope (top 15), [], []⟩
def fn : List He.DefD := [d_folded, d_joined_steps, d_back, d__law_deal, d__law_any, d__law_of, d__law_is_kind, d__law_same, d__law_all, d__law_fold, d__law_rows, d__law_odd, d_law]
def fa : List He.Fa := [.glo "folded", .glo "joined_steps", .glo "back", .glo "_law_deal", .glo "_law_any", .glo "_law_of", .glo "_law_is_kind", .glo "_law_same", .glo "_law_all", .glo "_law_fold", .glo "_law_rows", .glo "_law_odd", .glo "law", .free "abs", .free "bool", .free "dict", .free "int", .free "isinstance", .free "len", .free "list", .free "range", .free "str", .free "tuple", .free "zip"]
abbrev R : PySem.W.OpenRow := PySem.W.OpenLaw.row PySem.Challenge.rw_maystand_k03_whole_reduced_rows_form_a_g
abbrev hk : PySem.W.Hook := He.hookD 4 fa fn
def ob (s : PySem.W.SharedT) : He.AlD := He.obsDG 4 fa fn (HandSHeadRun.getT s)
theorem ob_eq (s : PySem.W.SharedT) : ob s = hk.obs s.abs := He.obsDG_eq (HandSHeadRun.getT_eq s)
theorem run (w : World) : HandSHeadRun.RunEq R (PySem.W.view R.prog [15]) hk ob 2000 ["folded", "joined_steps", "back", "_law_deal", "_law_any", "_law_of", "_law_is_kind", "_law_same", "_law_all", "_law_fold", "_law_rows", "_law_odd"] w := by
  intro os
  kernel_rfl
section
variable {P : Program} {w : World} {K : PySem.W.Frag} {mg : Str → Option Value} {base h : Heap}
theorem fd_folded (c : He.SaysD fa fn K) : ∃ fd, FunD K r_folded.name r_folded.name r_folded.args r_folded.stmts r_folded.scope [] [] (He.ga K r_folded.name) fd := c.def_ 0 (d := d_folded) rfl
theorem ok_folded (X : K.In h) (Gm : h.Ns mainGlobals mg) (c : He.SaysD fa fn K) : FOk G K mg r_folded := by
  obtain ⟨fd, F⟩ := fd_folded c
  refine ⟨He.glo_ok X Gm (c.fact 0 (f := .glo "folded") rfl), fd, F, F.bindsN fun _ _ _ _ _ _ us hl => match us, hl with | [_], _ => rfl, ?_⟩
  intro m ks hm
  simp only [G, List.mem_cons, List.not_mem_nil, or_false, Prod.mk.injEq] at hm
  rcases hm with ⟨e, rfl, rfl⟩ | ⟨e, rfl, rfl⟩ | ⟨e, rfl, rfl⟩
  · exact absurd e (by decide)
  · exact kw_bn F fun _ _ _ _ _ _ us ws l1 l2 => match us, ws, l1, l2 with | [], [_], _, _ => rfl
  · exact absurd e (by decide)
theorem fd_joined_steps (c : He.SaysD fa fn K) : ∃ fd, FunD K r_joined_steps.name r_joined_steps.name r_joined_steps.args r_joined_steps.stmts r_joined_steps.scope [] [] (He.ga K r_joined_steps.name) fd := c.def_ 1 (d := d_joined_steps) rfl
theorem ok_joined_steps (X : K.In h) (Gm : h.Ns mainGlobals mg) (c : He.SaysD fa fn K) : FOk G K mg r_joined_steps := by
  obtain ⟨fd, F⟩ := fd_joined_steps c
  refine ⟨He.glo_ok X Gm (c.fact 1 (f := .glo "joined_steps") rfl), fd, F, F.bindsN fun _ _ _ _ _ _ us hl => match us, hl with | [_, _], _ => rfl, ?_⟩
  intro m ks hm
  simp only [G, List.mem_cons, List.not_mem_nil, or_false, Prod.mk.injEq] at hm
  rcases hm with ⟨e, rfl, rfl⟩ | ⟨e, rfl, rfl⟩ | ⟨e, rfl, rfl⟩
  · exact absurd e (by decide)
  · exact absurd e (by decide)
  · exact kw_bn F fun _ _ _ _ _ _ us ws l1 l2 => match us, ws, l1, l2 with | [], [_, _], _, _ => rfl
theorem fd_back (c : He.SaysD fa fn K) : ∃ fd, FunD K r_back.name r_back.name r_back.args r_back.stmts r_back.scope [] [] (He.ga K r_back.name) fd := c.def_ 2 (d := d_back) rfl
theorem ok_back (X : K.In h) (Gm : h.Ns mainGlobals mg) (c : He.SaysD fa fn K) : FOk G K mg r_back := by
  obtain ⟨fd, F⟩ := fd_back c
  refine ⟨He.glo_ok X Gm (c.fact 2 (f := .glo "back") rfl), fd, F, F.bindsN fun _ _ _ _ _ _ us hl => match us, hl with | [_], _ => rfl, ?_⟩
  intro m ks hm
  simp only [G, List.mem_cons, List.not_mem_nil, or_false, Prod.mk.injEq] at hm
  rcases hm with ⟨e, rfl, rfl⟩ | ⟨e, rfl, rfl⟩ | ⟨e, rfl, rfl⟩
  · exact kw_bn F fun _ _ _ _ _ _ us ws l1 l2 => match us, ws, l1, l2 with | [], [_], _, _ => rfl
  · exact absurd e (by decide)
  · exact absurd e (by decide)
theorem fd__law_deal (c : He.SaysD fa fn K) : ∃ fd, FunD K r__law_deal.name r__law_deal.name r__law_deal.args r__law_deal.stmts r__law_deal.scope [] [] (He.ga K r__law_deal.name) fd := c.def_ 3 (d := d__law_deal) rfl
theorem ok__law_deal (X : K.In h) (Gm : h.Ns mainGlobals mg) (c : He.SaysD fa fn K) : FOk G K mg r__law_deal := by
  obtain ⟨fd, F⟩ := fd__law_deal c
  refine ⟨He.glo_ok X Gm (c.fact 3 (f := .glo "_law_deal") rfl), fd, F, F.bindsN fun _ _ _ _ _ _ us hl => match us, hl with | [_, _], _ => rfl, ?_⟩
  exact fun m ks hm => absurd hm (no_kw (G := G) (by decide))
theorem fd__law_any (c : He.SaysD fa fn K) : ∃ fd, FunD K r__law_any.name r__law_any.name r__law_any.args r__law_any.stmts r__law_any.scope [] [] (He.ga K r__law_any.name) fd := c.def_ 4 (d := d__law_any) rfl
theorem ok__law_any (X : K.In h) (Gm : h.Ns mainGlobals mg) (c : He.SaysD fa fn K) : FOk G K mg r__law_any := by
  obtain ⟨fd, F⟩ := fd__law_any c
  refine ⟨He.glo_ok X Gm (c.fact 4 (f := .glo "_law_any") rfl), fd, F, F.bindsN fun _ _ _ _ _ _ us hl => match us, hl with | [_, _], _ => rfl, ?_⟩
  exact fun m ks hm => absurd hm (no_kw (G := G) (by decide))
theorem fd__law_of (c : He.SaysD fa fn K) : ∃ fd, FunD K r__law_of.name r__law_of.name r__law_of.args r__law_of.stmts r__law_of.scope [] [] (He.ga K r__law_of.name) fd := c.def_ 5 (d := d__law_of) rfl
theorem ok__law_of (X : K.In h) (Gm : h.Ns mainGlobals mg) (c : He.SaysD fa fn K) : FOk G K mg r__law_of := by
  obtain ⟨fd, F⟩ := fd__law_of c
  refine ⟨He.glo_ok X Gm (c.fact 5 (f := .glo "_law_of") rfl), fd, F, F.bindsN fun _ _ _ _ _ _ us hl => match us, hl with | [_, _], _ => rfl, ?_⟩
  exact fun m ks hm => absurd hm (no_kw (G := G) (by decide))
theorem fd__law_is_kind (c : He.SaysD fa fn K) : ∃ fd, FunD K r__law_is_kind.name r__law_is_kind.name r__law_is_kind.args r__law_is_kind.stmts r__law_is_kind.scope [] [] (He.ga K r__law_is_kind.name) fd := c.def_ 6 (d := d__law_is_kind) rfl
theorem ok__law_is_kind (X : K.In h) (Gm : h.Ns mainGlobals mg) (c : He.SaysD fa fn K) : FOk G K mg r__law_is_kind := by
  obtain ⟨fd, F⟩ := fd__law_is_kind c
  refine ⟨He.glo_ok X Gm (c.fact 6 (f := .glo "_law_is_kind") rfl), fd, F, F.bindsN fun _ _ _ _ _ _ us hl => match us, hl with | [_, _], _ => rfl, ?_⟩
  exact fun m ks hm => absurd hm (no_kw (G := G) (by decide))
theorem fd__law_same (c : He.SaysD fa fn K) : ∃ fd, FunD K r__law_same.name r__law_same.name r__law_same.args r__law_same.stmts r__law_same.scope [] [] (He.ga K r__law_same.name) fd := c.def_ 7 (d := d__law_same) rfl
theorem ok__law_same (X : K.In h) (Gm : h.Ns mainGlobals mg) (c : He.SaysD fa fn K) : FOk G K mg r__law_same := by
  obtain ⟨fd, F⟩ := fd__law_same c
  refine ⟨He.glo_ok X Gm (c.fact 7 (f := .glo "_law_same") rfl), fd, F, F.bindsN fun _ _ _ _ _ _ us hl => match us, hl with | [_, _], _ => rfl, ?_⟩
  exact fun m ks hm => absurd hm (no_kw (G := G) (by decide))
theorem fd__law_all (c : He.SaysD fa fn K) : ∃ fd, FunD K r__law_all.name r__law_all.name r__law_all.args r__law_all.stmts r__law_all.scope [] [] (He.ga K r__law_all.name) fd := c.def_ 8 (d := d__law_all) rfl
theorem ok__law_all (X : K.In h) (Gm : h.Ns mainGlobals mg) (c : He.SaysD fa fn K) : FOk G K mg r__law_all := by
  obtain ⟨fd, F⟩ := fd__law_all c
  refine ⟨He.glo_ok X Gm (c.fact 8 (f := .glo "_law_all") rfl), fd, F, F.bindsN fun _ _ _ _ _ _ us hl => match us, hl with | [_], _ => rfl, ?_⟩
  exact fun m ks hm => absurd hm (no_kw (G := G) (by decide))
theorem fd__law_fold (c : He.SaysD fa fn K) : ∃ fd, FunD K r__law_fold.name r__law_fold.name r__law_fold.args r__law_fold.stmts r__law_fold.scope [] [] (He.ga K r__law_fold.name) fd := c.def_ 9 (d := d__law_fold) rfl
theorem ok__law_fold (X : K.In h) (Gm : h.Ns mainGlobals mg) (c : He.SaysD fa fn K) : FOk G K mg r__law_fold := by
  obtain ⟨fd, F⟩ := fd__law_fold c
  refine ⟨He.glo_ok X Gm (c.fact 9 (f := .glo "_law_fold") rfl), fd, F, F.bindsN fun _ _ _ _ _ _ us hl => match us, hl with | [_], _ => rfl, ?_⟩
  exact fun m ks hm => absurd hm (no_kw (G := G) (by decide))
theorem fd__law_rows (c : He.SaysD fa fn K) : ∃ fd, FunD K r__law_rows.name r__law_rows.name r__law_rows.args r__law_rows.stmts r__law_rows.scope [] [] (He.ga K r__law_rows.name) fd := c.def_ 10 (d := d__law_rows) rfl
theorem ok__law_rows (X : K.In h) (Gm : h.Ns mainGlobals mg) (c : He.SaysD fa fn K) : FOk G K mg r__law_rows := by
  obtain ⟨fd, F⟩ := fd__law_rows c
  refine ⟨He.glo_ok X Gm (c.fact 10 (f := .glo "_law_rows") rfl), fd, F, F.bindsN fun _ _ _ _ _ _ us hl => match us, hl with | [_, _], _ => rfl, ?_⟩
  exact fun m ks hm => absurd hm (no_kw (G := G) (by decide))
theorem fd__law_odd (c : He.SaysD fa fn K) : ∃ fd, FunD K r__law_odd.name r__law_odd.name r__law_odd.args r__law_odd.stmts r__law_odd.scope [] [] (He.ga K r__law_odd.name) fd := c.def_ 11 (d := d__law_odd) rfl
theorem ok__law_odd (X : K.In h) (Gm : h.Ns mainGlobals mg) (c : He.SaysD fa fn K) : FOk G K mg r__law_odd := by
  obtain ⟨fd, F⟩ := fd__law_odd c
  refine ⟨He.glo_ok X Gm (c.fact 11 (f := .glo "_law_odd") rfl), fd, F, F.bindsN fun _ _ _ _ _ _ us hl => match us, hl with | [_], _ => rfl, ?_⟩
  exact fun m ks hm => absurd hm (no_kw (G := G) (by decide))
theorem fd_law (c : He.SaysD fa fn K) : ∃ fd, FunD K r_law.name r_law.name r_law.args r_law.stmts r_law.scope [] [] (He.ga K r_law.name) fd := c.def_ 12 (d := d_law) rfl
theorem ok_law (X : K.In h) (Gm : h.Ns mainGlobals mg) (c : He.SaysD fa fn K) : FOk G K mg r_law := by
  obtain ⟨fd, F⟩ := fd_law c
  refine ⟨He.glo_ok X Gm (c.fact 12 (f := .glo "law") rfl), fd, F, F.bindsN fun _ _ _ _ _ _ us hl => match us, hl with | [_], _ => rfl, ?_⟩
  exact fun m ks hm => absurd hm (no_kw (G := G) (by decide))
def G0 : Glob := { G with fns := [] }
theorem c0_any : rowC G0 r__law_any = true := by kernel_rfl
theorem c0_deal : rowC G0 r__law_deal = true := by kernel_rfl
theorem env0 {c : Calls} {r : Lt.Row} (hr : rowC G0 r = true) (X : K.In h) (Gm : h.Ns mainGlobals mg) (hf : ∀ x ∈ G.free, mg x = none) {k : Nat} {f : Addr} (cdv : Value) (A : Around) (outer : List PySem.Env) (s : Shared) (H : Hp) (E : XK) (hR : Room k (A.deeper (envOfC r.name r.scope s.heap.objs.size f cdv))) :
    Env1 G0 c k (cxOf CX0 P w K mg base r.N r.name r.scope f cdv A outer s H E).nox := by
  unfold rowC at hr
  rw [Bool.and_eq_true] at hr
  exact ⟨rfl, (C8.fnScope_by hr.1).nd, hR, hf, fun x d h => (nomatch (show (none : Option D) = some d from h)), fun f hf => absurd (show f ∈ ([] : List Str) from hf) List.not_mem_nil, fun cn h => absurd (show cn ∈ ([] : List Str) from h) List.not_mem_nil, fun cn m h => absurd (show (cn, m) ∈ ([] : List (Str × Str)) from h) List.not_mem_nil, fun cn h => absurd (show cn ∈ ([] : List Str) from h) List.not_mem_nil⟩
theorem free_ok (X : K.In h) (Gm : h.Ns mainGlobals mg) (c : He.SaysD fa fn K) : ∀ x ∈ G.free, mg x = none := by
  intro x hx
  simp only [G, List.mem_cons, List.not_mem_nil, or_false] at hx
  rcases hx with rfl | rfl | rfl | rfl | rfl | rfl | rfl | rfl | rfl | rfl | rfl
  · exact He.free_ok X Gm (c.fact 13 (f := .free "abs") rfl)
  · exact He.free_ok X Gm (c.fact 14 (f := .free "bool") rfl)
  · exact He.free_ok X Gm (c.fact 15 (f := .free "dict") rfl)
  · exact He.free_ok X Gm (c.fact 16 (f := .free "int") rfl)
  · exact He.free_ok X Gm (c.fact 17 (f := .free "isinstance") rfl)
  · exact He.free_ok X Gm (c.fact 18 (f := .free "len") rfl)
  · exact He.free_ok X Gm (c.fact 19 (f := .free "list") rfl)
  · exact He.free_ok X Gm (c.fact 20 (f := .free "range") rfl)
  · exact He.free_ok X Gm (c.fact 21 (f := .free "str") rfl)
  · exact He.free_ok X Gm (c.fact 22 (f := .free "tuple") rfl)
  · exact He.free_ok X Gm (c.fact 23 (f := .free "zip") rfl)
theorem pok (X : K.In h) (Gm : h.Ns mainGlobals mg) (c : He.SaysD fa fn K) : POk G T nat P w K mg base where
  rows := by
    intro r hr
    simp only [T, List.mem_cons, List.not_mem_nil, or_false] at hr
    rcases hr with rfl | rfl | rfl | rfl | rfl | rfl | rfl | rfl | rfl | rfl | rfl | rfl | rfl
    · exact ok_folded X Gm c
    · exact ok_joined_steps X Gm c
    · exact ok_back X Gm c
    · exact ok__law_deal X Gm c
    · exact ok__law_any X Gm c
    · exact ok__law_of X Gm c
    · exact ok__law_is_kind X Gm c
    · exact ok__law_same X Gm c
    · exact ok__law_all X Gm c
    · exact ok__law_fold X Gm c
    · exact ok__law_rows X Gm c
    · exact ok__law_odd X Gm c
    · exact ok_law X Gm c
  chk := by
    intro r hr _
    simp only [T, List.mem_cons, List.not_mem_nil, or_false] at hr
    rcases hr with rfl | rfl | rfl | rfl | rfl | rfl | rfl | rfl | rfl | rfl | rfl | rfl | rfl
    · exact c_folded
    · exact c_joined_steps
    · exact c_back
    · exact c__law_deal
    · exact c__law_any
    · exact c__law_of
    · exact c__law_is_kind
    · exact c__law_same
    · exact c__law_all
    · exact c__law_fold
    · exact c__law_rows
    · exact c__law_odd
    · exact c_law
  fns := by
    intro f hf
    simp only [G, List.mem_cons, List.not_mem_nil, or_false] at hf
    rcases hf with rfl | rfl | rfl | rfl | rfl | rfl | rfl | rfl | rfl | rfl | rfl | rfl
    · exact ⟨r_folded, rfl, rfl⟩
    · exact ⟨r_joined_steps, rfl, rfl⟩
    · exact ⟨r_back, rfl, rfl⟩
    · exact ⟨r__law_deal, rfl, rfl⟩
    · exact ⟨r__law_any, rfl, rfl⟩
    · exact ⟨r__law_of, rfl, rfl⟩
    · exact ⟨r__law_is_kind, rfl, rfl⟩
    · exact ⟨r__law_same, rfl, rfl⟩
    · exact ⟨r__law_all, rfl, rfl⟩
    · exact ⟨r__law_fold, rfl, rfl⟩
    · exact ⟨r__law_rows, rfl, rfl⟩
    · exact ⟨r__law_odd, rfl, rfl⟩
  free := free_ok X Gm c
  con := fun _ => rfl
  cls := rfl
  meth := rfl
  mks := rfl
  nat := by
    intro r hr g hg fd F n
    simp only [T, List.mem_cons, List.not_mem_nil, or_false] at hr
    rcases hr with rfl | rfl | rfl | rfl | rfl | rfl | rfl | rfl | rfl | rfl | rfl | rfl | rfl
    · cases hg
    · cases hg
    · cases hg
    · cases hg
      exact ((row_ok (c := lvl G0 [] nat 0) F c0_deal fun cdv A outer s H E hR => env0 c0_deal X Gm (free_ok X Gm c) cdv A outer s H E hR).imp fun vs H Q E q => deal_nat rfl rfl rfl q).mono (Nat.le_refl _)
    · cases hg
      exact ((row_ok (c := lvl G0 [] nat 0) F c0_any fun cdv A outer s H E hR => env0 c0_any X Gm (free_ok X Gm c) cdv A outer s H E hR).imp fun vs H Q E q => any_nat rfl rfl rfl q).mono (Nat.le_refl _)
    · cases hg
    · cases hg
    · cases hg
    · cases hg
    · cases hg
    · cases hg
    · cases hg
    · cases hg
end
theorem facts {P : Program} {w : World} {K : PySem.W.Frag} {h : Heap} {mg : Str → Option Value} {f : Addr} (X : K.In h) (Gm : h.Ns mainGlobals mg) (hfa : mg ("law" : Str) = some (.ref f)) (c : He.SaysD fa fn K) :
    ∃ fd : FuncData, (∀ (s : Shared) (v : Value), BindsTo s fd ⟨[v], []⟩ [("script", v)]) ∧ ∀ base : Heap, K.In base → base.Ns mainGlobals mg → FnOk P w K mg base CX0 4 f fd ["script"] (liftSp K ((lvl G T nat 4).fn "law")) := by
  obtain ⟨fd, F⟩ := fd_law c
  have e := hfa.symm.trans (He.glo_ok X Gm (c.fact 12 (f := .glo "law") rfl))
  cases e
  have b := FunD.bindsA (ps := ["script"]) F fun _ _ _ _ _ _ us hl => match us, hl with | [_], _ => rfl
  refine ⟨fd, fun s v => b s [v] rfl, fun base _ _ => ?_⟩
  have O : POk G T nat P w K mg base := pok X Gm c
  have e1 : (lvl G T nat 4).fn "law" = rowD G (lvl G T nat 3) r_law := fn_eq rfl rfl
  rw [e1]
  refine row_ok F c_law fun cdv A outer s H E hr' => ⟨rfl, ?_, hr', O.free, fun x d h => (by rw [O.con] at h; cases h), fun f hf => ?_, fun cn h => (by rw [O.cls] at h; cases h), fun cn m h => (by rw [O.meth] at h; cases h), fun cn h => (by rw [O.mks] at h; cases h)⟩
  · have q := c_law
    unfold rowC at q
    rw [Bool.and_eq_true] at q
    exact (C8.fnScope_by q.1).nd
  · obtain ⟨r', h1, h2⟩ := O.fns f hf
    obtain ⟨m1, m2, fd', m3, m4, m5⟩ := lvl_ok O 3 f r' h1
    rw [h2]
    exact ⟨m1, m2, fd', m3, m4, m5⟩
end K03
open PySem PySem.W PySem.Calls PyProof.Rows
theorem PySem.Challenge.cw_maystand_k03_whole_reduced_rows_form_a_g_holds : PySem.Challenge.rw_maystand_k03_whole_reduced_rows_form_a_g.Holds := by
  w_on; o_law
  refine HandSHeadRun.head_any (r := OpenLaw.row PySem.Challenge.rw_maystand_k03_whole_reduced_rows_form_a_g) (q := view (OpenLaw.row PySem.Challenge.rw_maystand_k03_whole_reduced_rows_form_a_g).prog [15]) (H := K03.hk) (ob := K03.ob) (M := 2000) (loose := ["folded", "joined_steps", "back", "_law_deal", "_law_any", "_law_of", "_law_is_kind", "_law_same", "_law_all", "_law_fold", "_law_rows", "_law_odd"]) (d := HandSHeadRun.topDef (OpenLaw.row PySem.Challenge.rw_maystand_k03_whole_reduced_rows_form_a_g).prog 15) (kwd := []) K03.ob_eq
    (by kernel_rfl) (fun s => by kernel_rfl) K03.run (by kernel_rfl) (by kernel_rfl) (by kernel_rfl) (by rfl) (by first | assumption | decide +kernel) (by decide +kernel) ⟨rfl, rfl, rfl, rfl, rfl, by decide +kernel⟩ ?hw ?hc
  case hw => w_witness2
  case hc =>
    refine L2.walk_ofE (l := PySem.Challenge.rw_maystand_k03_whole_reduced_rows_form_a_g) (n := 63) (k := 4) (x := "script") (CX := L2.CX0) rfl (by decide) (by kernel_rfl) ⟨rfl, by decide, by decide⟩ ?F (fun _ _ _ _ z => z)
    intro w mg fa h Y G hmg0
    obtain ⟨K, KX, c⟩ := Y
    have hmg : mg ("law" : PySem.Str) = some (.ref fa) := by
      have e : (HandSHeadRun.topDef (OpenLaw.row PySem.Challenge.rw_maystand_k03_whole_reduced_rows_form_a_g).prog 15).name = ("law" : PySem.Str) := by kernel_rfl
      rw [← e]
      exact hmg0
    obtain ⟨fd, hb, hF⟩ := K03.facts (P := (PySem.Challenge.rw_maystand_k03_whole_reduced_rows_form_a_g).prog) (w := w) KX G hmg c
    exact ⟨K, fd, Lt.liftSp K ((Lt.lvl K03.G K03.T K03.nat 4).fn "law"), KX, hb, fun H a ns hl hO hS => Lt.script_sp hl (by decide) hO hS (K03.law_ok hl), hF⟩

