import PyProof.Rows.All
import Wide.All
import OpenK.AllK
import Wide.FinOn
import HandS.ForMost
import HandS.Exc
import HandS.ExcOwn
import HandS.TryOnly
import HandS.WordsExc
import HandS.Wide
import HandS.IsInst
import HandS.Defaults
import HandS.HeadHook1
import HandS.HeadHook2
import HandS.Head0
import HandS.Head1
import HandS.Head2
import HandS.HeadEnd
import HandS.HeadWalk
import KE.DataEq
import HandS.Style
import PySem.Challenge.RW_floorrun_k20_whole_lifts
set_option Elab.async false
set_option linter.all false
set_option maxRecDepth 100000
set_option maxHeartbeats 8000000

/-! A layer over the hand layer: values as data without addresses (D), objects that change in a store by numbers (Mem), one judgement a construct whose reading speaks of these alone. -/
namespace J
open PySem PySem.Spec PyProof.Rows L2
/-! ### data, the store -/
inductive D where
  | non | bl (b : Bool) | int (i : Int) | str (x : Str) | tup (xs : List D) | lst (xs : List D) | ref (i : Nat) | scr (ns : List Int)
inductive MO where
  | dead
  | lst (xs : List D)
  | dic (kvs : List (Int × D))
  | rcd (ks : List Str) (ds : List D)
  | ins (C : Addr) (ks : List Str) (ds : List (Option D))
abbrev Mem := List MO
abbrev Rho := List (Option D)
theorem same_trans {H H1 H2 : Hp} (a : Same H H1) (b : Same H1 H2) : Same H H2 := fun x o h => b x o (a x o h)
theorem same_new {H : Hp} {p : Addr} {o : HO} (h : H p = none) : Same H (upd H p o) := fun a u e => by
  rw [upd_ne (ne_of_none e h)]
  exact e
theorem same_t {K : PySem.W.Frag} {H H' : Hp} {a : Addr} {xs : List V} (e : Same H H') (h : SqT K H a xs) : SqT K H' a xs := by
  rcases h with (h | ⟨o, h⟩) | h
  · exact .inl (.inl (e _ _ h))
  · exact .inl (.inr ⟨o, e _ _ h⟩)
  · exact .inr h
mutual
inductive Den (K : PySem.W.Frag) (B : Hp) (loc : List Addr) : D → V → Prop
  | non : Den K B loc .non .non
  | bl {b : Bool} : Den K B loc (.bl b) (.bl b)
  | int {i : Int} : Den K B loc (.int i) (.int i)
  | str {x : Str} : Den K B loc (.str x) (.str x)
  | tup {ds : List D} {vs : List V} {a : Addr} : SqT K B a vs → DenL K B loc ds vs → Den K B loc (.tup ds) (.ref a)
  | lst {ds : List D} {vs : List V} {a : Addr} : B a = some (.lst vs) → DenL K B loc ds vs → Den K B loc (.lst ds) (.ref a)
  | scr {ns : List Int} {a : Addr} : SqL K B a (ns.map V.int) → Den K B loc (.scr ns) (.ref a)
  | ref {i : Nat} {a : Addr} : loc[i]? = some a → Den K B loc (.ref i) (.ref a)
inductive DenL (K : PySem.W.Frag) (B : Hp) (loc : List Addr) : List D → List V → Prop
  | nil : DenL K B loc [] []
  | cons {d : D} {v : V} {ds : List D} {vs : List V} : Den K B loc d v → DenL K B loc ds vs → DenL K B loc (d :: ds) (v :: vs)
end
theorem pre_get {α : Type} {l l' : List α} (h : l <+: l') {i : Nat} {a : α} (e : l[i]? = some a) : l'[i]? = some a := by
  obtain ⟨t, rfl⟩ := h
  rw [List.getElem?_append_left (List.getElem?_eq_some_iff.mp e).1]
  exact e
section
variable {K : PySem.W.Frag} {B B' : Hp} {loc loc' : List Addr}
mutual
theorem Den.mono (s : Same B B') (p : loc <+: loc') : ∀ {d : D} {v : V}, Den K B loc d v → Den K B' loc' d v
  | _, _, .non => .non
  | _, _, .bl => .bl
  | _, _, .int => .int
  | _, _, .str => .str
  | _, _, .tup h r => .tup (same_t s h) (DenL.mono s p r)
  | _, _, .lst h r => .lst (s _ _ h) (DenL.mono s p r)
  | _, _, .scr h => .scr (s.seq h)
  | _, _, .ref h => .ref (pre_get p h)
theorem DenL.mono (s : Same B B') (p : loc <+: loc') : ∀ {ds : List D} {vs : List V}, DenL K B loc ds vs → DenL K B' loc' ds vs
  | _, _, .nil => .nil
  | _, _, .cons h r => .cons (Den.mono s p h) (DenL.mono s p r)
end
theorem DenL.length : ∀ {ds : List D} {vs : List V}, DenL K B loc ds vs → ds.length = vs.length
  | _, _, .nil => rfl
  | _, _, .cons _ r => congrArg Nat.succ (DenL.length r)
theorem DenL.get : ∀ {ds : List D} {vs : List V} {i : Nat} {d : D}, DenL K B loc ds vs → ds[i]? = some d → ∃ v, vs[i]? = some v ∧ Den K B loc d v
  | _, _, _, _, .nil, e => by simp at e
  | _, _, 0, _, .cons h _, e => by simp at e; subst e; exact ⟨_, rfl, h⟩
  | _, _, i + 1, d, .cons _ r, e => by
    obtain ⟨v, h1, h2⟩ := DenL.get (i := i) (d := d) r (by simpa using e)
    exact ⟨v, by simpa using h1, h2⟩
theorem DenL.getV : ∀ {ds : List D} {vs : List V} {i : Nat} {v : V}, DenL K B loc ds vs → vs[i]? = some v → ∃ d, ds[i]? = some d ∧ Den K B loc d v
  | _, _, _, _, .nil, e => by simp at e
  | _, _, 0, _, .cons h _, e => by simp at e; subst e; exact ⟨_, rfl, h⟩
  | _, _, i + 1, v, .cons _ r, e => by
    obtain ⟨d, h1, h2⟩ := DenL.getV (i := i) (v := v) r (by simpa using e)
    exact ⟨d, by simpa using h1, h2⟩
theorem DenL.append : ∀ {xs ys : List D} {us ws : List V}, DenL K B loc xs us → DenL K B loc ys ws → DenL K B loc (xs ++ ys) (us ++ ws)
  | _, _, _, _, .nil, s => s
  | _, _, _, _, .cons h r, s => .cons h (DenL.append r s)
theorem DenL.set {d : D} {v : V} (h : Den K B loc d v) : ∀ {ds : List D} {vs : List V} (i : Nat), DenL K B loc ds vs → DenL K B loc (ds.set i d) (vs.set i v)
  | _, _, _, .nil => .nil
  | _, _, 0, .cons _ r => .cons h r
  | _, _, i + 1, .cons q r => .cons q (DenL.set h i r)
theorem DenL.drop : ∀ {ds : List D} {vs : List V} (n : Nat), DenL K B loc ds vs → DenL K B loc (ds.drop n) (vs.drop n)
  | _, _, 0, r => r
  | _, _, _ + 1, .nil => .nil
  | _, _, n + 1, .cons _ r => DenL.drop n r
theorem DenL.take : ∀ {ds : List D} {vs : List V} (n : Nat), DenL K B loc ds vs → DenL K B loc (ds.take n) (vs.take n)
  | _, _, 0, _ => .nil
  | _, _, _ + 1, .nil => .nil
  | _, _, n + 1, .cons h r => .cons h (DenL.take n r)
theorem DenL.ints : ∀ {ns : List Int} {vs : List V}, DenL K B loc (ns.map D.int) vs → vs = ns.map V.int
  | [], _, .nil => rfl
  | n :: ns, _, .cons h r => by cases h; rw [DenL.ints r]; rfl
theorem denL_ints : ∀ ns : List Int, DenL K B loc (ns.map D.int) (ns.map V.int)
  | [] => .nil
  | n :: ns => .cons .int (denL_ints ns)
theorem DenL.strs : ∀ {ns : List Str} {vs : List V}, DenL K B loc (ns.map D.str) vs → vs = ns.map V.str
  | [], _, .nil => rfl
  | n :: ns, _, .cons h r => by cases h; rw [DenL.strs r]; rfl
theorem denL_strs : ∀ ns : List Str, DenL K B loc (ns.map D.str) (ns.map V.str)
  | [] => .nil
  | n :: ns => .cons .str (denL_strs ns)
theorem DenL.bls : ∀ {ns : List Bool} {vs : List V}, DenL K B loc (ns.map D.bl) vs → vs = ns.map V.bl
  | [], _, .nil => rfl
  | n :: ns, _, .cons h r => by cases h; rw [DenL.bls r]; rfl
end

/-- the fields of an instance (or the entries of a record) by their names -/
def cnt : List (Option D) → Nat
  | [] => 0
  | none :: r => cnt r
  | some _ :: r => cnt r + 1
theorem cnt_le : ∀ ds : List (Option D), cnt ds ≤ ds.length
  | [] => Nat.le_refl _
  | none :: r => Nat.le_succ_of_le (cnt_le r)
  | some _ :: r => Nat.succ_le_succ (cnt_le r)
theorem cnt_set (d : D) : ∀ (ds : List (Option D)) (i : Nat) (o : Option D), ds[i]? = some o → cnt (ds.set i (some d)) = cnt ds + (if o.isSome then 0 else 1)
  | [], _, _, h => by simp at h
  | x :: r, 0, o, h => by
    simp at h
    subst h
    cases x <;> rfl
  | x :: r, i + 1, o, h => by
    have ih := cnt_set d r i o (by simpa using h)
    cases x with
    | none => exact ih
    | some y =>
      show cnt (r.set i (some d)) + 1 = cnt r + 1 + _
      rw [ih]; omega
def DenF (K : PySem.W.Frag) (B : Hp) (loc : List Addr) (ks : List Str) (ds : List (Option D)) (ws : List (Str × V)) : Prop :=
  ds.length = ks.length ∧ ws.length ≤ cnt ds ∧ (∀ (i : Nat) (k : Str) (d : D), ks[i]? = some k → ds[i]? = some (some d) → ∃ v, ws.lookup k = some v ∧ Den K B loc d v) ∧ ∀ k : Str, k ∉ ks → ws.lookup k = none
inductive DenKV (K : PySem.W.Frag) (B : Hp) (loc : List Addr) : List (Int × D) → List (Key × V) → Prop
  | nil : DenKV K B loc [] []
  | cons {k : Int} {d : D} {v : V} {ds : List (Int × D)} {vs : List (Key × V)} : Den K B loc d v → DenKV K B loc ds vs → DenKV K B loc ((k, d) :: ds) ((Sum.inl k, v) :: vs)
inductive DenSV (K : PySem.W.Frag) (B : Hp) (loc : List Addr) : List Str → List D → List (Key × V) → Prop
  | nil : DenSV K B loc [] [] []
  | cons {k : Str} {d : D} {v : V} {ks : List Str} {ds : List D} {vs : List (Key × V)} : Den K B loc d v → DenSV K B loc ks ds vs → DenSV K B loc (k :: ks) (d :: ds) ((Sum.inr k, v) :: vs)
/-- what a store's object is in the heap -/
def DenO (K : PySem.W.Frag) (B : Hp) (loc : List Addr) (a : Addr) (H : Hp) : MO → Prop
  | .dead => True
  | .lst ds => ∃ vs, H a = some (.lst vs) ∧ DenL K B loc ds vs
  | .dic kvs => ∃ ws, H a = some (.dK ws) ∧ DenKV K B loc kvs ws ∧ (kvs.map (·.1)).Nodup
  | .rcd ks ds => ks.Nodup ∧ ∃ ws, H a = some (.dK ws) ∧ DenSV K B loc ks ds ws
  | .ins C ks ds => (ks.length ≤ 900 ∧ ks.Nodup) ∧ ∃ dx ws, H a = some (.ins C dx ws) ∧ DenF K B loc ks ds ws
def MO.live : MO → Prop
  | .dead => False
  | _ => True
structure Rel (K : PySem.W.Frag) (B : Hp) (loc : List Addr) (M : Mem) (H : Hp) : Prop where
  ext : Same B H
  len : loc.length = M.length
  obj : ∀ (i : Nat) (a : Addr) (o : MO), loc[i]? = some a → M[i]? = some o → o.live → B a = none ∧ DenO K B loc a H o
  inj : ∀ (i j : Nat) (a : Addr) (o u : MO), loc[i]? = some a → loc[j]? = some a → M[i]? = some o → M[j]? = some u → o.live → u.live → i = j
  all : ∀ a ∈ loc, ∃ o, H a = some o
/-- from one state on to another: what is known stays, the store grows at its end, all else is kept -/
structure Go (B : Hp) (loc : List Addr) (H : Hp) (B' : Hp) (loc' : List Addr) (H' : Hp) : Prop where
  b : Same B B'
  l : loc <+: loc'
  fr : ∀ a o, H a = some o → a ∉ loc → H' a = some o
  nw : ∀ a ∈ loc', a ∈ loc ∨ H a = none
  nb : ∀ a o, B' a = some o → B a = some o ∨ H a = none ∨ a ∈ loc
theorem Go.refl {B : Hp} {loc : List Addr} {H : Hp} : Go B loc H B loc H := ⟨fun _ _ h => h, List.prefix_rfl, fun _ _ h _ => h, fun _ h => .inl h, fun _ _ h => .inl h⟩
theorem Go.trans {B B1 B2 : Hp} {l l1 l2 : List Addr} {H H1 H2 : Hp} (x : Go B l H B1 l1 H1) (y : Go B1 l1 H1 B2 l2 H2) : Go B l H B2 l2 H2 where
  b := same_trans x.b y.b
  l := List.IsPrefix.trans x.l y.l
  fr := fun a o h n => by
    refine y.fr a o (x.fr a o h n) fun hm => ?_
    rcases x.nw a hm with z | z
    · exact n z
    · rw [h] at z; cases z
  nw := fun a hm => by
    rcases y.nw a hm with z | z
    · exact x.nw a z
    · by_cases q : a ∈ l
      · exact .inl q
      · refine .inr ?_
        cases e : H a with
        | none => rfl
        | some o => rw [x.fr a o e q] at z; cases z
  nb := fun a o h => by
    rcases y.nb a o h with z | z | z
    · exact x.nb a o z
    · by_cases q : a ∈ l
      · exact .inr (.inr q)
      · refine .inr (.inl ?_)
        cases e : H a with
        | none => rfl
        | some o => rw [x.fr a o e q] at z; cases z
    · rcases x.nw a z with z | z
      · exact .inr (.inr z)
      · exact .inr (.inl z)
section
variable {K : PySem.W.Frag} {B B' : Hp} {loc loc' : List Addr} {M : Mem} {H H' : Hp}
theorem Den.go {B' : Hp} {loc' : List Addr} {H' : Hp} {d : D} {v : V} (h : Den K B loc d v) (g : Go B loc H B' loc' H') : Den K B' loc' d v := h.mono g.b g.l
theorem DenL.go {B' : Hp} {loc' : List Addr} {H' : Hp} {d : List D} {v : List V} (h : DenL K B loc d v) (g : Go B loc H B' loc' H') : DenL K B' loc' d v := h.mono g.b g.l
theorem DenKV.mono (s : Same B B') (p : loc <+: loc') : ∀ {ds : List (Int × D)} {vs : List (Key × V)}, DenKV K B loc ds vs → DenKV K B' loc' ds vs
  | _, _, .nil => .nil
  | _, _, .cons h r => .cons (h.mono s p) (DenKV.mono s p r)
theorem DenSV.mono (s : Same B B') (p : loc <+: loc') : ∀ {ks : List Str} {ds : List D} {vs : List (Key × V)}, DenSV K B loc ks ds vs → DenSV K B' loc' ks ds vs
  | _, _, _, .nil => .nil
  | _, _, _, .cons h r => .cons (h.mono s p) (DenSV.mono s p r)
theorem DenF.mono (s : Same B B') (p : loc <+: loc') {ks : List Str} {ds : List (Option D)} {ws : List (Str × V)} (h : DenF K B loc ks ds ws) : DenF K B' loc' ks ds ws :=
  ⟨h.1, h.2.1, fun i k d e1 e2 => let ⟨v, e3, e4⟩ := h.2.2.1 i k d e1 e2; ⟨v, e3, e4.mono s p⟩, h.2.2.2⟩
theorem DenO.mono (s : Same B B') (p : loc <+: loc') {a : Addr} (e : ∀ o, H a = some o → H' a = some o) : ∀ {o : MO}, DenO K B loc a H o → DenO K B' loc' a H' o
  | .dead, _ => trivial
  | .lst _, ⟨vs, h, r⟩ => ⟨vs, e _ h, r.mono s p⟩
  | .dic _, ⟨ws, h, r, n⟩ => ⟨ws, e _ h, r.mono s p, n⟩
  | .rcd _ _, ⟨n, ws, h, r⟩ => ⟨n, ws, e _ h, r.mono s p⟩
  | .ins _ _ _, ⟨z, dx, ws, h, r⟩ => ⟨z, dx, ws, e _ h, r.mono s p⟩
theorem DenO.there {a : Addr} : ∀ {o : MO}, o.live → DenO K B loc a H o → ∃ u, H a = some u
  | .dead, l, _ => l.elim
  | .lst _, _, ⟨vs, h, _⟩ => ⟨_, h⟩
  | .dic _, _, ⟨vs, h, _⟩ => ⟨_, h⟩
  | .rcd _ _, _, ⟨_, ws, h, r⟩ => ⟨_, h⟩
  | .ins _ _ _, _, ⟨_, dx, ws, h, r⟩ => ⟨_, h⟩
/-- a new object that never changes -/
theorem Rel.new {p : Addr} {o : HO} (r : Rel K B loc M H) (h : H p = none) : Rel K (upd B p o) loc M (upd H p o) ∧ Go B loc H (upd B p o) loc (upd H p o) := by
  have bp : B p = none := by
    cases e : B p with
    | none => rfl
    | some u => rw [r.ext p u e] at h; cases h
  have sB : Same B (upd B p o) := same_new bp
  have sH : Same H (upd H p o) := same_new h
  refine ⟨⟨fun a u e => ?_, r.len, fun i a m e1 e2 l => ?_, r.inj, fun a q => let ⟨o, e⟩ := r.all a q; ⟨o, sH a o e⟩⟩, ⟨sB, List.prefix_rfl, fun a u e _ => sH a u e, fun a q => .inl q, fun a u e => ?_⟩⟩
  rotate_left 2
  · by_cases q : a = p
    · subst q; exact .inr (.inl h)
    · rw [upd_ne q] at e; exact .inl e
  · by_cases q : a = p
    · subst q; rw [upd_same] at e ⊢; exact e
    · rw [upd_ne q] at e ⊢; exact r.ext a u e
  · obtain ⟨h1, h2⟩ := r.obj i a m e1 e2 l
    obtain ⟨u, hu⟩ := h2.there l
    have q : a ≠ p := fun z => by rw [z, h] at hu; cases hu
    exact ⟨by rw [upd_ne q]; exact h1, h2.mono sB List.prefix_rfl fun o e => sH a o e⟩
/-- a new object of the store -/
theorem Rel.alloc {p : Addr} {ho : HO} {o : MO} (r : Rel K B loc M H) (h : H p = none) (d : ∀ H' : Hp, H' p = some ho → DenO K B (loc ++ [p]) p H' o) : Rel K B (loc ++ [p]) (M ++ [o]) (upd H p ho) ∧ Go B loc H B (loc ++ [p]) (upd H p ho) := by
  have sH : Same H (upd H p ho) := same_new h
  have bp : B p = none := by
    cases e : B p with
    | none => rfl
    | some u => rw [r.ext p u e] at h; cases h
  have pl : loc <+: loc ++ [p] := ⟨[p], rfl⟩
  have hl : ∀ (i : Nat) (a : Addr) (m : MO), loc[i]? = some a → M[i]? = some m → m.live → a ≠ p := fun i a m e1 e2 l z => by
    obtain ⟨_, h2⟩ := r.obj i a m e1 e2 l
    obtain ⟨u, hu⟩ := h2.there l
    rw [z, h] at hu; cases hu
  have at_ : ∀ (i : Nat) (a : Addr) (m : MO), (loc ++ [p])[i]? = some a → (M ++ [o])[i]? = some m → (loc[i]? = some a ∧ M[i]? = some m) ∨ (i = loc.length ∧ a = p ∧ m = o) := fun i a m e1 e2 => by
    by_cases hi : i < loc.length
    · rw [List.getElem?_append_left hi] at e1
      rw [List.getElem?_append_left (by rw [← r.len]; exact hi)] at e2
      exact .inl ⟨e1, e2⟩
    · have hi2 : i = loc.length := by
        have := (List.getElem?_eq_some_iff.mp e1).1
        rw [List.length_append, List.length_singleton] at this
        omega
      subst hi2
      rw [List.getElem?_append_right (Nat.le_refl _), Nat.sub_self] at e1
      rw [List.getElem?_append_right (by rw [r.len]; exact Nat.le_refl _), r.len, Nat.sub_self] at e2
      exact .inr ⟨rfl, (Option.some.inj e1).symm, (Option.some.inj e2).symm⟩
  refine ⟨⟨fun a u e => sH a u (r.ext a u e), by rw [List.length_append, List.length_append, r.len]; rfl, fun i a m e1 e2 l => ?_, fun i j a m u e1 e2 e3 e4 l1 l2 => ?_, fun a q => ?_⟩, ⟨fun _ _ e => e, pl, fun a u e _ => sH a u e, fun a q => ?_, fun _ _ e => .inl e⟩⟩
  · rcases at_ i a m e1 e2 with ⟨f1, f2⟩ | ⟨_, rfl, rfl⟩
    · obtain ⟨h1, h2⟩ := r.obj i a m f1 f2 l
      exact ⟨h1, h2.mono (fun _ _ e => e) pl fun o e => sH a o e⟩
    · exact ⟨bp, d _ upd_same⟩
  · rcases at_ i a m e1 e3 with ⟨f1, f2⟩ | ⟨f0, f1, f2⟩ <;> rcases at_ j a u e2 e4 with ⟨g1, g2⟩ | ⟨g0, g1, g2⟩
    · exact r.inj i j a m u f1 g1 f2 g2 l1 l2
    · exact absurd g1 (hl i a m f1 f2 l1)
    · exact absurd f1 (hl j a u g1 g2 l2)
    · omega
  · rcases List.mem_append.mp q with q | q
    · obtain ⟨o, e⟩ := r.all a q
      exact ⟨o, sH a o e⟩
    · rw [List.mem_singleton.mp q]; exact ⟨_, upd_same⟩
  · rcases List.mem_append.mp q with q | q
    · exact .inl q
    · rw [List.mem_singleton.mp q]; exact .inr h
/-- an object of the store is changed -/
theorem Rel.put {i : Nat} {a : Addr} {m o : MO} {ho : HO} (r : Rel K B loc M H) (e1 : loc[i]? = some a) (e2 : M[i]? = some m) (l : m.live) (d : ∀ H' : Hp, H' a = some ho → DenO K B loc a H' o) :
    Rel K B loc (M.set i o) (upd H a ho) ∧ Go B loc H B loc (upd H a ho) := by
  obtain ⟨b0, d0⟩ := r.obj i a m e1 e2 l
  have hi : i < M.length := (List.getElem?_eq_some_iff.mp e2).1
  have at_ : ∀ (j : Nat) (x : MO), (M.set i o)[j]? = some x → (j = i ∧ x = o) ∨ (j ≠ i ∧ M[j]? = some x) := fun j x e => by
    by_cases hj : j = i
    · subst hj
      rw [List.getElem?_set_self hi] at e
      exact .inl ⟨rfl, (Option.some.inj e).symm⟩
    · rw [List.getElem?_set_ne (Ne.symm hj)] at e
      exact .inr ⟨hj, e⟩
  refine ⟨⟨fun b u e => ?_, by rw [List.length_set]; exact r.len, fun j b x f1 f2 lx => ?_, fun j k b x y f1 f2 f3 f4 l1 l2 => ?_, fun b q => ?_⟩, ⟨fun _ _ e => e, List.prefix_rfl, fun b u e n => ?_, fun b q => .inl q, fun _ _ e => .inl e⟩⟩
  · have q : b ≠ a := fun z => by rw [z, b0] at e; cases e
    rw [upd_ne q]; exact r.ext b u e
  · rcases at_ j x f2 with ⟨rfl, rfl⟩ | ⟨hj, f3⟩
    · have q : b = a := by rw [e1] at f1; exact (Option.some.inj f1).symm
      subst q
      exact ⟨b0, d _ upd_same⟩
    · obtain ⟨h1, h2⟩ := r.obj j b x f1 f3 lx
      have q : b ≠ a := fun z => hj (r.inj j i a x m (by rw [← z]; exact f1) e1 f3 e2 lx l)
      exact ⟨h1, h2.mono (fun _ _ e => e) List.prefix_rfl fun o e => by rw [upd_ne q]; exact e⟩
  · rcases at_ j x f3 with ⟨rfl, rfl⟩ | ⟨hj, g3⟩ <;> rcases at_ k y f4 with ⟨rfl, rfl⟩ | ⟨hk, g4⟩
    · rfl
    · exact r.inj _ _ b m y (by rw [← f1]) f2 e2 g4 l l2
    · exact r.inj _ _ b x m f1 f2 g3 e2 l1 l
    · exact r.inj _ _ b x y f1 f2 g3 g4 l1 l2
  · by_cases z : b = a
    · rw [z]; exact ⟨_, upd_same⟩
    · rw [upd_ne z]; exact r.all b q
  · have q : b ≠ a := fun z => n (by rw [z]; exact List.mem_of_getElem? e1)
    rw [upd_ne q]; exact e
/-- a list of the store is closed: from now on it never changes -/
theorem Rel.freeze {i : Nat} {a : Addr} {ds : List D} (r : Rel K B loc M H) (e1 : loc[i]? = some a) (e2 : M[i]? = some (.lst ds)) :
    ∃ B', Rel K B' loc (M.set i .dead) H ∧ Go B loc H B' loc H ∧ Den K B' loc (.lst ds) (.ref a) := by
  obtain ⟨b0, vs, hv, dv⟩ := r.obj i a _ e1 e2 trivial
  have sB : Same B (upd B a (.lst vs)) := same_new b0
  have hi : i < M.length := (List.getElem?_eq_some_iff.mp e2).1
  have at_ : ∀ (j : Nat) (x : MO), x.live → (M.set i .dead)[j]? = some x → j ≠ i ∧ M[j]? = some x := fun j x l e => by
    by_cases hj : j = i
    · subst hj
      rw [List.getElem?_set_self hi] at e
      cases e
      exact l.elim
    · rw [List.getElem?_set_ne (Ne.symm hj)] at e
      exact ⟨hj, e⟩
  refine ⟨upd B a (.lst vs), ⟨fun b u e => ?_, by rw [List.length_set]; exact r.len, fun j b x f1 f2 lx => ?_, fun j k b x y f1 f2 f3 f4 l1 l2 => ?_, r.all⟩, ⟨sB, List.prefix_rfl, fun _ _ e _ => e, fun _ q => .inl q, fun b u e => ?_⟩, .lst upd_same (dv.mono sB List.prefix_rfl)⟩
  · by_cases q : b = a
    · subst q; rw [upd_same] at e; cases e; exact hv
    · rw [upd_ne q] at e; exact r.ext b u e
  · obtain ⟨hj, f3⟩ := at_ j x lx f2
    obtain ⟨h1, h2⟩ := r.obj j b x f1 f3 lx
    have q : b ≠ a := fun z => hj (r.inj j i a x _ (by rw [← z]; exact f1) e1 f3 e2 lx trivial)
    exact ⟨by rw [upd_ne q]; exact h1, h2.mono sB List.prefix_rfl fun _ e => e⟩
  · exact r.inj j k b x y f1 f2 (at_ j x l1 f3).2 (at_ k y l2 f4).2 l1 l2
  · by_cases q : b = a
    · subst q; exact .inr (.inr (List.mem_of_getElem? e1))
    · rw [upd_ne q] at e; exact .inl e
end
end J

namespace J
open PySem PySem.Spec PyProof.Rows L2
/-! ### slots -/
structure EnvOk (K : PySem.W.Frag) (B : Hp) (loc : List Addr) (σ : L2.St) (ρ : Rho) : Prop where
  len : σ.length = ρ.length
  get : ∀ (i : Nat) (d : D), ρ[i]? = some (some d) → ∃ v, σ[i]? = some (some v) ∧ Den K B loc d v
section
variable {K : PySem.W.Frag} {B B' : Hp} {loc loc' : List Addr} {H H' : Hp} {σ : L2.St} {ρ : Rho}
theorem EnvOk.go (e : EnvOk K B loc σ ρ) (g : Go B loc H B' loc' H') : EnvOk K B' loc' σ ρ := ⟨e.len, fun i d h => let ⟨v, h1, h2⟩ := e.get i d h; ⟨v, h1, h2.go g⟩⟩
theorem EnvOk.set (e : EnvOk K B loc σ ρ) {d : D} {v : V} (h : Den K B loc d v) (i : Nat) : EnvOk K B loc (σ.set i (some v)) (ρ.set i (some d)) := by
  refine ⟨by rw [List.length_set, List.length_set]; exact e.len, fun j x q => ?_⟩
  by_cases hj : i = j
  · subst hj
    by_cases hi : i < ρ.length
    · rw [List.getElem?_set_self hi] at q
      cases q
      exact ⟨v, by rw [List.getElem?_set_self (by rw [e.len]; exact hi)], h⟩
    · rw [List.getElem?_eq_none (by rw [List.length_set]; omega)] at q
      cases q
  · rw [List.getElem?_set_ne hj] at q
    obtain ⟨w, h1, h2⟩ := e.get j x q
    exact ⟨w, by rw [List.getElem?_set_ne hj]; exact h1, h2⟩
def wipeR (ρ : Rho) : List Nat → Rho
  | [] => ρ
  | v :: vs => (wipeR ρ vs).set v none
theorem wipeR_length (ρ : Rho) : ∀ vs : List Nat, (wipeR ρ vs).length = ρ.length
  | [] => rfl
  | v :: vs => by unfold wipeR; rw [List.length_set, wipeR_length ρ vs]
theorem EnvOk.wipe (e : EnvOk K B loc σ ρ) : ∀ vs : List Nat, EnvOk K B loc (L2.wipe σ vs) (wipeR ρ vs)
  | [] => e
  | v :: vs => by
    have z := EnvOk.wipe e vs
    refine ⟨by rw [L2.wipe_length, wipeR_length]; exact e.len, fun i d q => ?_⟩
    unfold wipeR at q
    by_cases hv : v = i
    · subst hv
      by_cases hi : v < (wipeR ρ vs).length
      · rw [List.getElem?_set_self hi] at q; cases q
      · rw [List.getElem?_eq_none (by rw [List.length_set]; omega)] at q; cases q
    · rw [List.getElem?_set_ne hv] at q
      obtain ⟨w, h1, h2⟩ := z.get i d q
      exact ⟨w, by unfold L2.wipe; rw [List.getElem?_set_ne hv]; exact h1, h2⟩
end
/-! ### readings over data -/
abbrev SQ := D → Mem → Prop
abbrev SE := Rho → Mem → SQ → Prop
abbrev ST := Rho → Mem → (Bool → Mem → Prop) → Prop
abbrev SA := Rho → Mem → (List D → Mem → Prop) → Prop
structure SK where
  nx : Rho → Mem → Prop
  rt : SQ
  bk : Rho → Mem → Prop := fun _ _ => False
  ct : Rho → Mem → Prop := fun _ _ => False
abbrev SS := SK → Rho → Mem → Prop
abbrev SG := D → Rho → Mem → (Rho → Mem → Prop) → Prop
/-- what an iterable gives: its items, what must hold of the store meanwhile -/
abbrev SI := Rho → Mem → (List D → (Mem → Prop) → Mem → Prop) → Prop
abbrev S2 := D → D → Mem → SQ → Prop
abbrev S1 := D → Mem → SQ → Prop
abbrev SN := List D → Mem → SQ → Prop
/-- where one stands: the entry's state; E, Ed: what is wished of an exception -/
structure JC where
  B : Hp
  loc : List Addr
  H : Hp
  E : XK
  Ed : Addr → Mem → Prop
structure JX (c : JC) (X : Cx) : Prop where
  ok : ∀ cl M' B' loc' H', Go c.B c.loc c.H B' loc' H' → Rel X.K B' loc' M' H' → c.Ed cl M' → c.E (.ref cl) none H'
  pass : Passes (L2.CX X.prog X.w) X c.E
/-- within a comprehension nothing is raised -/
def JC.in (c : JC) : JC := { c with E := E0, Ed := fun _ _ => False }
theorem JX.in (c : JC) (X : Cx) : JX c.in X := ⟨fun _ _ _ _ _ _ _ h => h.elim, passL⟩
structure At (c : JC) (K : PySem.W.Frag) (B : Hp) (loc : List Addr) (M : Mem) (H : Hp) (σ : L2.St) (ρ : Rho) : Prop where
  go : Go c.B c.loc c.H B loc H
  rel : Rel K B loc M H
  env : EnvOk K B loc σ ρ
theorem At.on {c : JC} {K : PySem.W.Frag} {B : Hp} {loc : List Addr} {M : Mem} {H : Hp} {σ : L2.St} {ρ : Rho} (a : At c K B loc M H σ ρ) {B' : Hp} {loc' : List Addr} {M' : Mem} {H' : Hp} (g : Go B loc H B' loc' H') (r : Rel K B' loc' M' H') : At c K B' loc' M' H' σ ρ :=
  ⟨a.go.trans g, r, a.env.go g⟩
/-- what follows a value: Qd of the data is Q of the value -/
abbrev To (K : PySem.W.Frag) (B : Hp) (loc : List Addr) (H : Hp) (Qd : SQ) (Q : VK) : Prop := ∀ d M' v B' loc' H', Go B loc H B' loc' H' → Rel K B' loc' M' H' → Den K B' loc' d v → Qd d M' → Q v H'
def JE (c : JC) (X : Cx) (e : Expr) (se : SE) : Prop :=
  ∃ te, PE X e te ∧ ∀ B loc M H σ ρ Q Qd, At c X.K B loc M H σ ρ → se ρ M Qd → To X.K B loc H Qd Q → te σ H Q
def JT (c : JC) (X : Cx) (e : Expr) (st : ST) : Prop :=
  ∃ tt, PT X e tt ∧ ∀ B loc M H σ ρ (Q : Bool → Hp → Prop) (Qd : Bool → Mem → Prop), At c X.K B loc M H σ ρ → st ρ M Qd →
    (∀ b M' B' loc' H', Go B loc H B' loc' H' → Rel X.K B' loc' M' H' → Qd b M' → Q b H') → tt σ H Q
def JA (c : JC) (X : Cx) (es : List Expr) (sa : SA) : Prop :=
  ∃ ta, PA X es ta ∧ ∀ B loc M H σ ρ (Q : List V → Hp → Prop) (Qd : List D → Mem → Prop), At c X.K B loc M H σ ρ → sa ρ M Qd →
    (∀ ds M' vs B' loc' H', Go B loc H B' loc' H' → Rel X.K B' loc' M' H' → DenL X.K B' loc' ds vs → Qd ds M' → Q vs H') → ta σ H Q
/-- a rule by values, told by data -/
def Sim2 (K : PySem.W.Frag) (r : R2) (s : S2) : Prop := ∀ B loc M H x y v w Q Qd, Rel K B loc M H → Den K B loc x v → Den K B loc y w → s x y M Qd → To K B loc H Qd Q → r v w H Q
def Sim1 (K : PySem.W.Frag) (r : V → Hp → VK → Prop) (s : S1) : Prop := ∀ B loc M H x v Q Qd, Rel K B loc M H → Den K B loc x v → s x M Qd → To K B loc H Qd Q → r v H Q
def SimN (K : PySem.W.Frag) (r : List V → Hp → VK → Prop) (s : SN) : Prop := ∀ B loc M H xs vs Q Qd, Rel K B loc M H → DenL K B loc xs vs → s xs M Qd → To K B loc H Qd Q → r vs H Q
/-- the same two, told to be one rule -/
def JOp (X : Cx) (f : Value → Value → Sem Value) (s : S2) : Prop := ∃ r, OpR X f r ∧ Sim2 X.K r s
def JCall (X : Cx) (f : Value) (s : SN) : Prop := ∃ r, CallR X f r ∧ SimN X.K r s
theorem JOp.or {X : Cx} {f : Value → Value → Sem Value} {s s' : S2} (h : JOp X f s) (h' : JOp X f s') : JOp X f fun x y M Q => s x y M Q ∨ s' x y M Q := by
  obtain ⟨r, o, z⟩ := h
  obtain ⟨r', o', z'⟩ := h'
  exact ⟨_, o.or o', fun B loc M H x y v w Q Qd R d1 d2 hs t => hs.elim (fun q => .inl (z B loc M H x y v w Q Qd R d1 d2 q t)) fun q => .inr (z' B loc M H x y v w Q Qd R d1 d2 q t)⟩
theorem JOp.imp {X : Cx} {f : Value → Value → Sem Value} {s s' : S2} (h : JOp X f s) (i : ∀ x y M Q, s' x y M Q → s x y M Q) : JOp X f s' := by
  obtain ⟨r, o, z⟩ := h
  exact ⟨r, o, fun B loc M H x y v w Q Qd R d1 d2 hs t => z B loc M H x y v w Q Qd R d1 d2 (i _ _ _ _ hs) t⟩
theorem JCall.or {X : Cx} {f : Value} {s s' : SN} (h : JCall X f s) (h' : JCall X f s') : JCall X f fun x M Q => s x M Q ∨ s' x M Q := by
  obtain ⟨r, o, z⟩ := h
  obtain ⟨r', o', z'⟩ := h'
  exact ⟨_, o.or o', fun B loc M H xs vs Q Qd R d hs t => hs.elim (fun q => .inl (z B loc M H xs vs Q Qd R d q t)) fun q => .inr (z' B loc M H xs vs Q Qd R d q t)⟩
theorem JCall.imp {X : Cx} {f : Value} {s s' : SN} (h : JCall X f s) (i : ∀ xs M Q, s' xs M Q → s xs M Q) : JCall X f s' := by
  obtain ⟨r, o, z⟩ := h
  exact ⟨r, o, fun B loc M H xs vs Q Qd R d hs t => z B loc M H xs vs Q Qd R d (i _ _ _ hs) t⟩
/-! ### expressions -/
section
variable {c : JC} {X : Cx} {a b e : Expr} {es : List Expr} {pos p : Pos} {sa sb se : SE}
def sVar (i : Nat) : SE := fun ρ M Q => match ρ[i]? with
  | some (some d) => Q d M
  | _ => False
def sC (d : D) : SE := fun _ M Q => Q d M
theorem je_var (i : Nat) {x : Str} (h : PE X (.Name x p) (tVar i)) : JE c X (.Name x p) (sVar i) := by
  refine ⟨_, h, fun B loc M H σ ρ Q Qd A hs t => ?_⟩
  unfold sVar at hs
  split at hs
  · rename_i d hd
    obtain ⟨v, h1, h2⟩ := A.env.get i d hd
    exact ⟨v, h1, t d M v B loc H .refl A.rel h2 hs⟩
  · exact hs.elim
theorem je_c {v : V} {d : D} (h : PE X e (tC v)) (hd : ∀ K B loc, Den K B loc d v) : JE c X e (sC d) :=
  ⟨_, h, fun B loc M H σ ρ Q Qd A hs t => t d M v B loc H .refl A.rel (hd _ _ _) hs⟩
theorem je_int {i : Int} {j : Nat} : JE c X (.Constant (.int i) j p) (sC (.int i)) := je_c pe_int fun _ _ _ => .int
theorem je_bl {i : Bool} {j : Nat} : JE c X (.Constant (.bool i) j p) (sC (.bl i)) := je_c pe_bl fun _ _ _ => .bl
theorem je_str {i : Str} {j : Nat} : JE c X (.Constant (.str i) j p) (sC (.str i)) := je_c pe_str fun _ _ _ => .str
theorem je_non {j : Nat} : JE c X (.Constant .none j p) (sC .non) := je_c pe_non fun _ _ _ => .non
theorem je_gint {x : Str} {i : Int} (hg : Gl X x) (hm : ∃ t, X.mg x = some (.int i t)) (hd : (x == ("__debug__" : Str)) = false := by decide) : JE c X (.Name x p) (sC (.int i)) := by
  obtain ⟨t, hm⟩ := hm
  exact je_c (pe_glob (v := .int i) hg hm ⟨t, rfl⟩ hd) fun _ _ _ => .int
theorem je_gstr {x : Str} {i : Str} (hg : Gl X x) (hm : ∃ t, X.mg x = some (.str i t)) (hd : (x == ("__debug__" : Str)) = false := by decide) : JE c X (.Name x p) (sC (.str i)) := by
  obtain ⟨t, hm⟩ := hm
  exact je_c (pe_glob (v := .str i) hg hm ⟨t, rfl⟩ hd) fun _ _ _ => .str
def sOp (s : S2) (sa sb : SE) : SE := fun ρ M Q => sa ρ M fun x M1 => sb ρ M1 fun y M2 => s x y M2 Q
theorem two {c : JC} {K : PySem.W.Frag} {ta tb : TE} {r : R2} {s : S2} (ha : ∀ B loc M H σ ρ Q Qd, At c K B loc M H σ ρ → sa ρ M Qd → To K B loc H Qd Q → ta σ H Q)
    (hb : ∀ B loc M H σ ρ Q Qd, At c K B loc M H σ ρ → sb ρ M Qd → To K B loc H Qd Q → tb σ H Q) (z : Sim2 K r s) {B : Hp} {loc : List Addr} {M : Mem} {H : Hp} {σ : L2.St} {ρ : Rho} {Q : VK} {Qd : SQ} (A : At c K B loc M H σ ρ) (hs : sOp s sa sb ρ M Qd) (t : To K B loc H Qd Q) : tOp r ta tb σ H Q :=
  ha B loc M H σ ρ _ _ A hs fun d1 M1 v1 B1 l1 H1 g1 r1 e1 h1 => hb B1 l1 M1 H1 σ ρ _ _ (A.on g1 r1) h1 fun d2 M2 v2 B2 l2 H2 g2 r2 e2 h2 =>
    z B2 l2 M2 H2 d1 d2 v1 v2 Q Qd r2 (e1.go g2) e2 h2 fun d3 M3 v3 B3 l3 H3 g3 r3 e3 h3 => t d3 M3 v3 B3 l3 H3 ((g1.trans g2).trans g3) r3 e3 h3
theorem je_op {op : Operator} {s : S2} (ho : JOp X (binaryOp op) s) (ha : JE c X a sa) (hb : JE c X b sb) : JE c X (.BinOp a op b pos) (sOp s sa sb) := by
  obtain ⟨ta, pa, za⟩ := ha
  obtain ⟨tb, pb, zb⟩ := hb
  obtain ⟨r, o, z⟩ := ho
  exact ⟨_, pe_op o pa pb, fun B loc M H σ ρ Q Qd A hs t => two za zb z A hs t⟩
theorem je_cmp {op : CmpOp} {s : S2} (ho : JOp X (compareOp op) s) (ha : JE c X a sa) (hb : JE c X b sb) (hm : behindInMarks op b = false := by first | exact nomark _ | rfl) : JE c X (.Compare a [op] [b] pos) (sOp s sa sb) := by
  obtain ⟨ta, pa, za⟩ := ha
  obtain ⟨tb, pb, zb⟩ := hb
  obtain ⟨r, o, z⟩ := ho
  exact ⟨_, pe_cmpR o pa pb hm, fun B loc M H σ ρ Q Qd A hs t => two za zb z A hs t⟩
/-- a < b < c -/
def sChain (s s' : S2) (sa sb sd : SE) : SE := fun ρ M Q => sa ρ M fun x M1 => sb ρ M1 fun y M2 => s x y M2 fun z M3 => match z with
  | .bl k => (k = true → sd ρ M3 fun w M4 => s' y w M4 Q) ∧ (k = false → Q (.bl false) M3)
  | _ => False
theorem chain_ok {K : PySem.W.Frag} {ta tb td : TE} {sd : SE} {r r' : R2} {s s' : S2} (ha : ∀ B loc M H σ ρ Q Qd, At c K B loc M H σ ρ → sa ρ M Qd → To K B loc H Qd Q → ta σ H Q)
    (hb : ∀ B loc M H σ ρ Q Qd, At c K B loc M H σ ρ → sb ρ M Qd → To K B loc H Qd Q → tb σ H Q) (hd : ∀ B loc M H σ ρ Q Qd, At c K B loc M H σ ρ → sd ρ M Qd → To K B loc H Qd Q → td σ H Q)
    (z : Sim2 K r s) (z' : Sim2 K r' s') {B : Hp} {loc : List Addr} {M : Mem} {H : Hp} {σ : L2.St} {ρ : Rho} {Q : VK} {Qd : SQ} (A : At c K B loc M H σ ρ) (hs : sChain s s' sa sb sd ρ M Qd) (t : To K B loc H Qd Q) : tChain r r' ta tb td σ H Q := by
  refine ha B loc M H σ ρ _ _ A hs fun d1 M1 v1 B1 l1 H1 g1 r1 e1 h1 => hb B1 l1 M1 H1 σ ρ _ _ (A.on g1 r1) h1 fun d2 M2 v2 B2 l2 H2 g2 r2 e2 h2 => ?_
  refine z B2 l2 M2 H2 d1 d2 v1 v2 _ _ r2 (e1.go g2) e2 h2 fun d3 M3 v3 B3 l3 H3 g3 r3 e3 h3 => ?_
  cases e3 with
  | bl =>
    rename_i k
    refine ⟨k, rfl, ?_⟩
    cases k with
    | true =>
      refine iteT (hd B3 l3 M3 H3 σ ρ _ _ (A.on ((g1.trans g2).trans g3) r3) (h3.1 rfl) fun d4 M4 v4 B4 l4 H4 g4 r4 e4 h4 => ?_)
      refine z' B4 l4 M4 H4 d2 d4 v2 v4 Q Qd r4 (e2.go (g3.trans g4)) e4 h4 fun d5 M5 v5 B5 l5 H5 g5 r5 e5 h5 => t d5 M5 v5 B5 l5 H5 ((((g1.trans g2).trans g3).trans g4).trans g5) r5 e5 h5
    | false => exact iteF (t _ _ _ _ _ _ ((g1.trans g2).trans g3) r3 .bl (h3.2 rfl))
  | _ => exact h3.elim
theorem je_chain {op op' : CmpOp} {s s' : S2} {d : Expr} {sd : SE} (ho : JOp X (compareOp op) s) (ho' : JOp X (compareOp op') s') (ha : JE c X a sa) (hb : JE c X b sb) (hd : JE c X d sd) (hm : lastMarks [op, op'] [b, d] = false := by with_unfolding_all rfl) :
    JE c X (.Compare a [op, op'] [b, d] pos) (sChain s s' sa sb sd) := by
  obtain ⟨ta, pa, za⟩ := ha
  obtain ⟨tb, pb, zb⟩ := hb
  obtain ⟨td, pd, zd⟩ := hd
  obtain ⟨r, o, z⟩ := ho
  obtain ⟨r', o', z'⟩ := ho'
  exact ⟨_, pe_chain o o' pa pb pd hm, fun B loc M H σ ρ Q Qd A hs t => chain_ok za zb zd z z' A hs t⟩
/-! ### tests -/
abbrev Tt (K : PySem.W.Frag) (B : Hp) (loc : List Addr) (H : Hp) (Qd : Bool → Mem → Prop) (Q : Bool → Hp → Prop) : Prop := ∀ b M' B' loc' H', Go B loc H B' loc' H' → Rel K B' loc' M' H' → Qd b M' → Q b H'
def JW (c : JC) (X : Cx) (e : Expr) (st : ST) : Prop :=
  ∃ tt, PW X e tt ∧ ∀ B loc M H σ ρ (Q : Bool → Hp → Prop) (Qd : Bool → Mem → Prop), At c X.K B loc M H σ ρ → st ρ M Qd → Tt X.K B loc H Qd Q → tt σ H Q
/-- the value is a truth -/
def sTst (se : SE) : ST := fun ρ M Q => se ρ M fun d M' => match d with
  | .bl b => Q b M'
  | _ => False
theorem tst_to {K : PySem.W.Frag} {B : Hp} {loc : List Addr} {H : Hp} {Qd : Bool → Mem → Prop} {Q : Bool → Hp → Prop} (t : Tt K B loc H Qd Q) : To K B loc H (fun d M' => match d with
  | .bl b => Qd b M'
  | _ => False) (fun x H' => ∃ k, x = .bl k ∧ Q k H') := fun d M' v B' loc' H' g r e h => by
  cases e with
  | bl => exact ⟨_, rfl, t _ _ _ _ _ g r h⟩
  | _ => exact h.elim
theorem jt_cmp {op : CmpOp} {s : S2} (ho : JOp X (compareOp op) s) (ha : JE c X a sa) (hb : JE c X b sb) (hm : behindInMarks op b = false := by first | exact nomark _ | rfl) : JT c X (.Compare a [op] [b] pos) (sTst (sOp s sa sb)) := by
  obtain ⟨ta, pa, za⟩ := ha
  obtain ⟨tb, pb, zb⟩ := hb
  obtain ⟨r, o, z⟩ := ho
  exact ⟨_, pt_cmpR o pa pb hm, fun B loc M H σ ρ Q Qd A hs t => two za zb z A hs (tst_to t)⟩
theorem jt_chain {op op' : CmpOp} {s s' : S2} {d : Expr} {sd : SE} (ho : JOp X (compareOp op) s) (ho' : JOp X (compareOp op') s') (ha : JE c X a sa) (hb : JE c X b sb) (hd : JE c X d sd) (hm : lastMarks [op, op'] [b, d] = false := by with_unfolding_all rfl) :
    JT c X (.Compare a [op, op'] [b, d] pos) (sTst (sChain s s' sa sb sd)) := by
  obtain ⟨ta, pa, za⟩ := ha
  obtain ⟨tb, pb, zb⟩ := hb
  obtain ⟨td, pd, zd⟩ := hd
  obtain ⟨r, o, z⟩ := ho
  obtain ⟨r', o', z'⟩ := ho'
  exact ⟨_, pt_chain o o' pa pb pd hm, fun B loc M H σ ρ Q Qd A hs t => chain_ok za zb zd z z' A hs (tst_to t)⟩
/-- any other expression whose value is a truth: a name, a call, a subscript -/
theorem jt_val (he : JE c X e se) (hw : ∀ whole, isTrue e X.env whole = (do let v ← whole; standAt e.pos; holding [v] (truthy v)) := by intro _; rfl) : JT c X e (sTst se) := by
  obtain ⟨te, pe, ze⟩ := he
  exact ⟨_, pt_val pe hw, fun B loc M H σ ρ Q Qd A hs t => ze B loc M H σ ρ _ _ A hs (tst_to t)⟩
variable {ta tb : ST} {rest : List Expr}
def sNot (t : ST) : ST := fun ρ M Q => t ρ M fun b M' => Q (!b) M'
/-- two ways: by the test's answer -/
def sAndT (t u : ST) : ST := fun ρ M Q => t ρ M fun b M1 => (b = true → u ρ M1 Q) ∧ (b = false → Q false M1)
def sOrT (t u : ST) : ST := fun ρ M Q => t ρ M fun b M1 => (b = true → Q true M1) ∧ (b = false → u ρ M1 Q)
theorem jt_not (ha : JT c X a ta) : JT c X (.UnaryOp .Not a pos) (sNot ta) := by
  obtain ⟨t, pa, za⟩ := ha
  exact ⟨_, pt_not pa, fun B loc M H σ ρ Q Qd A hs t => za B loc M H σ ρ _ _ A hs fun b M' B' l' H' g r h => t _ _ _ _ _ g r h⟩
theorem JW.pt (h : JW c X e ta) : JT c X e ta := by
  obtain ⟨t, p, z⟩ := h
  exact ⟨t, p.pt, z⟩
theorem jw_and1 (ha : JT c X a ta) : JW c X (.BoolOp .And [a] pos) ta := by
  obtain ⟨t, p, z⟩ := ha
  exact ⟨t, pw_and1 p, z⟩
theorem jw_or1 (ha : JT c X a ta) : JW c X (.BoolOp .Or [a] pos) ta := by
  obtain ⟨t, p, z⟩ := ha
  exact ⟨t, pw_or1 p, z⟩
theorem jw_and (ha : JT c X a ta) (hb : JW c X (.BoolOp .And (b :: rest) pos) tb) : JW c X (.BoolOp .And (a :: b :: rest) pos) (sAndT ta tb) := by
  obtain ⟨t, p, z⟩ := ha
  obtain ⟨u, p', z'⟩ := hb
  refine ⟨_, pw_and p p', fun B loc M H σ ρ Q Qd A hs t => z B loc M H σ ρ _ _ A hs fun b M' B' l' H' g r h => ?_⟩
  cases b with
  | true => exact iteT (z' B' l' M' H' σ ρ Q Qd (A.on g r) (h.1 rfl) fun b2 M2 B2 l2 H2 g2 r2 h2 => t _ _ _ _ _ (g.trans g2) r2 h2)
  | false => exact iteF (t _ _ _ _ _ g r (h.2 rfl))
theorem jw_or (ha : JT c X a ta) (hb : JW c X (.BoolOp .Or (b :: rest) pos) tb) : JW c X (.BoolOp .Or (a :: b :: rest) pos) (sOrT ta tb) := by
  obtain ⟨t, p, z⟩ := ha
  obtain ⟨u, p', z'⟩ := hb
  refine ⟨_, pw_or p p', fun B loc M H σ ρ Q Qd A hs t => z B loc M H σ ρ _ _ A hs fun b M' B' l' H' g r h => ?_⟩
  cases b with
  | true => exact iteT (t _ _ _ _ _ g r (h.1 rfl))
  | false => exact iteF (z' B' l' M' H' σ ρ Q Qd (A.on g r) (h.2 rfl) fun b2 M2 B2 l2 H2 g2 r2 h2 => t _ _ _ _ _ (g.trans g2) r2 h2)
/-! ### and, or, not as values -/
def sAndV (sa sb : SE) : SE := fun ρ M Q => sa ρ M fun d M1 => match d with
  | .bl k => (k = true → sb ρ M1 Q) ∧ (k = false → Q (.bl false) M1)
  | _ => False
def sOrV (sa sb : SE) : SE := fun ρ M Q => sa ρ M fun d M1 => match d with
  | .bl k => (k = true → Q (.bl true) M1) ∧ (k = false → sb ρ M1 Q)
  | _ => False
def sNotV (sa : SE) : SE := fun ρ M Q => sa ρ M fun d M1 => match d with
  | .bl k => Q (.bl (!k)) M1
  | _ => False
theorem je_one {op : BoolOp} (h : JE c X a sa) : JE c X (.BoolOp op [a] pos) sa := by
  obtain ⟨t, p, z⟩ := h
  exact ⟨t, pe_one p, z⟩
theorem je_and (ha : JE c X a sa) (hb : JE c X (.BoolOp .And (b :: rest) pos) sb) : JE c X (.BoolOp .And (a :: b :: rest) pos) (sAndV sa sb) := by
  obtain ⟨t, p, z⟩ := ha
  obtain ⟨u, p', z'⟩ := hb
  refine ⟨_, pe_and p p', fun B loc M H σ ρ Q Qd A hs t => z B loc M H σ ρ _ _ A hs fun d M' v B' l' H' g r e h => ?_⟩
  cases e with
  | bl =>
    rename_i k
    refine ⟨k, rfl, ?_⟩
    cases k with
    | true => exact iteT (z' B' l' M' H' σ ρ Q Qd (A.on g r) (h.1 rfl) fun d2 M2 v2 B2 l2 H2 g2 r2 e2 h2 => t _ _ _ _ _ _ (g.trans g2) r2 e2 h2)
    | false => exact iteF (t _ _ _ _ _ _ g r .bl (h.2 rfl))
  | _ => exact h.elim
theorem je_or (ha : JE c X a sa) (hb : JE c X (.BoolOp .Or (b :: rest) pos) sb) : JE c X (.BoolOp .Or (a :: b :: rest) pos) (sOrV sa sb) := by
  obtain ⟨t, p, z⟩ := ha
  obtain ⟨u, p', z'⟩ := hb
  refine ⟨_, pe_or p p', fun B loc M H σ ρ Q Qd A hs t => z B loc M H σ ρ _ _ A hs fun d M' v B' l' H' g r e h => ?_⟩
  cases e with
  | bl =>
    rename_i k
    refine ⟨k, rfl, ?_⟩
    cases k with
    | true => exact iteT (t _ _ _ _ _ _ g r .bl (h.1 rfl))
    | false => exact iteF (z' B' l' M' H' σ ρ Q Qd (A.on g r) (h.2 rfl) fun d2 M2 v2 B2 l2 H2 g2 r2 e2 h2 => t _ _ _ _ _ _ (g.trans g2) r2 e2 h2)
  | _ => exact h.elim
theorem je_not (ha : JE c X a sa) : JE c X (.UnaryOp .Not a pos) (sNotV sa) := by
  obtain ⟨t, p, z⟩ := ha
  refine ⟨_, pe_not p, fun B loc M H σ ρ Q Qd A hs t => z B loc M H σ ρ _ _ A hs fun d M' v B' l' H' g r e h => ?_⟩
  cases e with
  | bl => exact ⟨_, rfl, t _ _ _ _ _ _ g r .bl h⟩
  | _ => exact h.elim
/-- a if t else b -/
def sIf (t : ST) (sa sb : SE) : SE := fun ρ M Q => t ρ M fun k M1 => (k = true → sa ρ M1 Q) ∧ (k = false → sb ρ M1 Q)
theorem je_if {d : Expr} (hd : JT c X d ta) (ha : JE c X a sa) (hb : JE c X b sb) : JE c X (.IfExp d a b pos) (sIf ta sa sb) := by
  obtain ⟨t, p, z⟩ := hd
  obtain ⟨u, p', z'⟩ := ha
  obtain ⟨w, p2, z2⟩ := hb
  refine ⟨_, pe_ifExp p p' p2, fun B loc M H σ ρ Q Qd A hs t => z B loc M H σ ρ _ _ A hs fun k M' B' l' H' g r h => ?_⟩
  cases k with
  | true => exact iteT (z' B' l' M' H' σ ρ Q Qd (A.on g r) (h.1 rfl) fun d2 M2 v2 B2 l2 H2 g2 r2 e2 h2 => t _ _ _ _ _ _ (g.trans g2) r2 e2 h2)
  | false => exact iteF (z2 B' l' M' H' σ ρ Q Qd (A.on g r) (h.2 rfl) fun d2 M2 v2 B2 l2 H2 g2 r2 e2 h2 => t _ _ _ _ _ _ (g.trans g2) r2 e2 h2)
/-! ### arguments, displays -/
abbrev Ta (K : PySem.W.Frag) (B : Hp) (loc : List Addr) (H : Hp) (Qd : List D → Mem → Prop) (Q : List V → Hp → Prop) : Prop := ∀ ds M' vs B' loc' H', Go B loc H B' loc' H' → Rel K B' loc' M' H' → DenL K B' loc' ds vs → Qd ds M' → Q vs H'
def sNil : SA := fun _ M Q => Q [] M
def sCons (se : SE) (sr : SA) : SA := fun ρ M Q => se ρ M fun d M1 => sr ρ M1 fun ds M2 => Q (d :: ds) M2
theorem ja_nil : JA c X [] sNil := ⟨_, pa_nil, fun B loc M H σ ρ Q Qd A hs t => t [] M [] B loc H .refl A.rel .nil hs⟩
theorem ja_cons {sr : SA} (he : JE c X e se) (hr : JA c X es sr) (hst : starEach (e :: es) X.env = (false, eval e X.env) :: starEach es X.env := by rfl) : JA c X (e :: es) (sCons se sr) := by
  obtain ⟨t, p, z⟩ := he
  obtain ⟨u, p', z'⟩ := hr
  refine ⟨_, pa_cons p p' hst, fun B loc M H σ ρ Q Qd A hs t => z B loc M H σ ρ _ _ A hs fun d M' v B' l' H' g r e h => ?_⟩
  exact z' B' l' M' H' σ ρ _ _ (A.on g r) h fun ds M2 vs B2 l2 H2 g2 r2 e2 h2 => t _ _ _ _ _ _ (g.trans g2) r2 (.cons (e.go g2) e2) h2
def sTup (sr : SA) : SE := fun ρ M Q => sr ρ M fun ds M1 => ds.length ≤ sizeLine ∧ Q (.tup ds) M1
def sLst (sr : SA) : SE := fun ρ M Q => sr ρ M fun ds M1 => ds.length ≤ sizeLine ∧ Q (.lst ds) M1
/-- a list that will be changed -/
def sLstM (sr : SA) : SE := fun ρ M Q => sr ρ M fun ds M1 => ds.length ≤ sizeLine ∧ Q (.ref M1.length) (M1 ++ [.lst ds])
theorem get_snoc {α : Type} (l : List α) (x : α) : (l ++ [x])[l.length]? = some x := by
  rw [List.getElem?_append_right (Nat.le_refl _), Nat.sub_self]; rfl
theorem je_tup {sr : SA} {n : Nat} (h : JA c X es sr) : JE c X (.Tuple es n pos) (sTup sr) := by
  obtain ⟨t, p, z⟩ := h
  refine ⟨_, pe_tup p, fun B loc M H σ ρ Q Qd A hs t => z B loc M H σ ρ _ _ A hs fun ds M' vs B' l' H' g r e h => ⟨by rw [← e.length]; exact h.1, fun q hq => ?_⟩⟩
  obtain ⟨r1, g1⟩ := r.new (o := .tup vs) hq
  exact t _ _ _ _ _ _ (g.trans g1) r1 (.tup (SqT.of upd_same) (e.go g1)) h.2
theorem je_lst {sr : SA} (h : JA c X es sr) : JE c X (.List es pos) (sLst sr) := by
  obtain ⟨t, p, z⟩ := h
  refine ⟨_, pe_lst p, fun B loc M H σ ρ Q Qd A hs t => z B loc M H σ ρ _ _ A hs fun ds M' vs B' l' H' g r e h => ⟨by rw [← e.length]; exact h.1, fun q hq => ?_⟩⟩
  obtain ⟨r1, g1⟩ := r.new (o := .lst vs) hq
  exact t _ _ _ _ _ _ (g.trans g1) r1 (.lst upd_same (e.go g1)) h.2
/-- a new list of the store -/
theorem newM {K : PySem.W.Frag} {B : Hp} {loc : List Addr} {M : Mem} {H : Hp} {q : Addr} {ds : List D} {vs : List V} (r : Rel K B loc M H) (hq : H q = none) (e : DenL K B loc ds vs) :
    Rel K B (loc ++ [q]) (M ++ [.lst ds]) (upd H q (.lst vs)) ∧ Go B loc H B (loc ++ [q]) (upd H q (.lst vs)) ∧ Den K B (loc ++ [q]) (.ref M.length) (.ref q) := by
  obtain ⟨r1, g1⟩ := r.alloc (o := .lst ds) (ho := .lst vs) hq fun H' h' => ⟨vs, h', e.mono (fun _ _ z => z) ⟨[q], rfl⟩⟩
  exact ⟨r1, g1, .ref (by rw [← r.len]; exact get_snoc loc q)⟩
theorem je_lstM {sr : SA} (h : JA c X es sr) : JE c X (.List es pos) (sLstM sr) := by
  obtain ⟨t, p, z⟩ := h
  refine ⟨_, pe_lst p, fun B loc M H σ ρ Q Qd A hs t => z B loc M H σ ρ _ _ A hs fun ds M' vs B' l' H' g r e h => ⟨by rw [← e.length]; exact h.1, fun q hq => ?_⟩⟩
  obtain ⟨r1, g1, d1⟩ := newM r hq e
  exact t _ _ _ _ _ _ (g.trans g1) r1 d1 h.2
/-- a list of the store is closed for good -/
def sFrz (se : SE) : SE := fun ρ M Q => se ρ M fun d M1 => match d with
  | .ref i => ∃ ds, M1[i]? = some (.lst ds) ∧ Q (.lst ds) (M1.set i .dead)
  | _ => False
theorem je_frz (h : JE c X e se) : JE c X e (sFrz se) := by
  obtain ⟨t, p, z⟩ := h
  refine ⟨_, p, fun B loc M H σ ρ Q Qd A hs t => z B loc M H σ ρ _ _ A hs fun d M' v B' l' H' g r e h => ?_⟩
  cases e with
  | ref hl =>
    obtain ⟨ds, h1, h2⟩ := h
    obtain ⟨B2, r2, g2, d2⟩ := r.freeze hl h1
    exact t _ _ _ _ _ _ (g.trans g2) r2 d2 h2
  | _ => exact h.elim
end
end J

namespace J
open PySem PySem.Spec PyProof.Rows L2
/-! ### what a value is, by the store -/
def asL (M : Mem) : D → Option (List D)
  | .scr ns => some (ns.map D.int)
  | .lst xs => some xs
  | .ref i => match M[i]? with
    | some (.lst xs) => some xs
    | _ => none
  | _ => none
/-- .. but the script -/
def asR (M : Mem) : D → Option (List D)
  | .lst xs => some xs
  | .ref i => match M[i]? with
    | some (.lst xs) => some xs
    | _ => none
  | _ => none
def asT : D → Option (List D)
  | .tup xs => some xs
  | _ => none
section
variable {K : PySem.W.Frag} {B : Hp} {loc : List Addr} {M : Mem} {H : Hp} {d : D} {v : V} {xs : List D}
theorem asL_ok (r : Rel K B loc M H) (e : Den K B loc d v) (h : asL M d = some xs) : ∃ a vs, v = .ref a ∧ SqL K H a vs ∧ DenL K B loc xs vs := by
  cases e with
  | lst hs hl =>
    cases h
    exact ⟨_, _, rfl, SqL.of (r.ext _ _ hs), hl⟩
  | scr hs =>
    cases h
    exact ⟨_, _, rfl, r.ext.seq hs, denL_ints _⟩
  | @ref i a hi =>
    unfold asL at h
    cases q : M[i]? with
    | none => simp only [q] at h; cases h
    | some o =>
      simp only [q] at h
      cases o with
      | lst ys =>
        cases h
        obtain ⟨_, vs, h1, h2⟩ := r.obj i a _ hi q trivial
        exact ⟨a, vs, rfl, SqL.of h1, h2⟩
      | _ => cases h
  | _ => cases h
theorem asR_ok (r : Rel K B loc M H) (e : Den K B loc d v) (h : asR M d = some xs) : ∃ a vs, v = .ref a ∧ H a = some (.lst vs) ∧ DenL K B loc xs vs := by
  cases e with
  | lst hs hl =>
    cases h
    exact ⟨_, _, rfl, r.ext _ _ hs, hl⟩
  | @ref i a hi =>
    unfold asR at h
    cases q : M[i]? with
    | none => simp only [q] at h; cases h
    | some o =>
      simp only [q] at h
      cases o with
      | lst ys =>
        cases h
        obtain ⟨_, vs, h1, h2⟩ := r.obj i a _ hi q trivial
        exact ⟨a, vs, rfl, h1, h2⟩
      | _ => cases h
  | _ => cases h
theorem asT_ok (r : Rel K B loc M H) (e : Den K B loc d v) (h : asT d = some xs) : ∃ a vs, v = .ref a ∧ SqT K H a vs ∧ DenL K B loc xs vs := by
  cases e with
  | tup hs hl =>
    cases h
    exact ⟨_, _, rfl, same_t r.ext hs, hl⟩
  | _ => cases h
/-- a list that may be changed -/
theorem memL_ok {i : Nat} (r : Rel K B loc M H) (e : Den K B loc (.ref i) v) (h : M[i]? = some (.lst xs)) : ∃ a vs, v = .ref a ∧ loc[i]? = some a ∧ H a = some (.lst vs) ∧ DenL K B loc xs vs := by
  cases e with
  | ref hi =>
    obtain ⟨_, vs, h1, h2⟩ := r.obj i _ _ hi h trivial
    exact ⟨_, vs, rfl, hi, h1, h2⟩
end
/-! ### data compared -/
mutual
def pyD : D → Option PyData
  | .non => some .none
  | .bl b => some (.bool b)
  | .int i => some (.int i)
  | .str x => some (.str x)
  | .tup xs => (pyL xs).map .tuple
  | .lst xs => (pyL xs).map .list
  | .scr ns => some (.list (ns.map PyData.int))
  | .ref _ => none
def pyL : List D → Option (List PyData)
  | [] => some []
  | x :: xs => match pyD x, pyL xs with
    | some d, some ds => some (d :: ds)
    | _, _ => none
end
/-- .. a changing list, too -/
def pyM (M : Mem) : D → Option PyData
  | .ref i => match M[i]? with
    | some (.lst xs) => (pyL xs).map .list
    | _ => none
  | d => pyD d
section
variable {K : PySem.W.Frag} {B : Hp} {loc : List Addr} {H : Hp}
theorem dpAll_ints : ∀ ns : List Int, DpAll K H (ns.map V.int) (ns.map PyData.int)
  | [] => .nil
  | n :: ns => .cons (.int n) (dpAll_ints ns)
mutual
theorem pyD_ok (s : Same B H) : ∀ {d : D} {v : V} {p : PyData}, Den K B loc d v → pyD d = some p → Dp K H v p
  | .non, _, _, .non, h => by cases h; exact .non
  | .bl _, _, _, .bl, h => by cases h; exact .bl _
  | .int _, _, _, .int, h => by cases h; exact .int _
  | .str _, _, _, .str, h => by cases h; exact .str _
  | .tup xs, _, _, .tup hs hl, h => by
    unfold pyD at h
    obtain ⟨ps, h1, h2⟩ := Option.map_eq_some_iff.mp h
    subst h2
    exact .tup (same_t s hs) (pyL_ok s hl h1)
  | .lst xs, _, _, .lst hs hl, h => by
    unfold pyD at h
    obtain ⟨ps, h1, h2⟩ := Option.map_eq_some_iff.mp h
    subst h2
    exact .lst (SqL.of (s _ _ hs)) (pyL_ok s hl h1)
  | .scr ns, _, _, .scr hs, h => by
    cases h
    exact .lst (s.seq hs) (dpAll_ints ns)
  | .ref _, _, _, .ref _, h => by cases h
theorem pyL_ok (s : Same B H) : ∀ {ds : List D} {vs : List V} {ps : List PyData}, DenL K B loc ds vs → pyL ds = some ps → DpAll K H vs ps
  | [], _, _, .nil, h => by cases h; exact .nil
  | d :: ds, _, _, .cons e r, h => by
    unfold pyL at h
    split at h
    · rename_i p q h1 h2
      cases h
      exact .cons (pyD_ok s e h1) (pyL_ok s r h2)
    · cases h
end
theorem pyM_ok {M : Mem} {d : D} {v : V} {p : PyData} (r : Rel K B loc M H) (e : Den K B loc d v) (h : pyM M d = some p) : Dp K H v p := by
  cases e with
  | @ref i a hi =>
    unfold pyM at h
    cases q : M[i]? with
    | none => simp only [q] at h; cases h
    | some o =>
      simp only [q] at h
      cases o with
      | lst ys =>
        obtain ⟨ps, h1, h2⟩ := Option.map_eq_some_iff.mp h
        subst h2
        obtain ⟨_, vs, h3, h4⟩ := r.obj i a _ hi q trivial
        exact .lst (SqL.of h3) (pyL_ok r.ext h4 h1)
      | _ => cases h
  | non => exact pyD_ok (loc := loc) r.ext .non h
  | bl => exact pyD_ok (loc := loc) r.ext .bl h
  | int => exact pyD_ok (loc := loc) r.ext .int h
  | str => exact pyD_ok (loc := loc) r.ext .str h
  | scr a => exact pyD_ok (loc := loc) r.ext (.scr a) h
  | tup a b => exact pyD_ok r.ext (.tup a b) h
  | lst a b => exact pyD_ok r.ext (.lst a b) h
end
theorem ints_plain : ∀ ns : List Int, PyData.plainAll (ns.map PyData.int) = true
  | [] => rfl
  | n :: ns => ints_plain ns
mutual
theorem pyD_plain : ∀ {d : D} {p : PyData}, pyD d = some p → p.plain = true
  | .non, _, h => by cases h; rfl
  | .bl _, _, h => by cases h; rfl
  | .int _, _, h => by cases h; rfl
  | .str _, _, h => by cases h; rfl
  | .tup xs, _, h => by
    unfold pyD at h
    obtain ⟨ps, h1, h2⟩ := Option.map_eq_some_iff.mp h
    subst h2
    exact pyL_plain h1
  | .lst xs, _, h => by
    unfold pyD at h
    obtain ⟨ps, h1, h2⟩ := Option.map_eq_some_iff.mp h
    subst h2
    exact pyL_plain h1
  | .scr ns, _, h => by cases h; exact ints_plain ns
  | .ref _, _, h => by cases h
theorem pyL_plain : ∀ {ds : List D} {ps : List PyData}, pyL ds = some ps → PyData.plainAll ps = true
  | [], _, h => by cases h; rfl
  | d :: ds, _, h => by
    unfold pyL at h
    split at h
    · rename_i p q h1 h2
      cases h
      show (p.plain && PyData.plainAll q) = true
      rw [pyD_plain h1, pyL_plain h2]; rfl
    · cases h
end
theorem pyM_plain {M : Mem} {d : D} {p : PyData} (h : pyM M d = some p) : p.plain = true := by
  cases d with
  | ref i =>
    unfold pyM at h
    dsimp only at h
    split at h
    · obtain ⟨ps, h1, h2⟩ := Option.map_eq_some_iff.mp h
      subst h2
      exact pyL_plain h1
    · cases h
  | _ => exact pyD_plain h
/-- == and != -/
def rEqP (K : PySem.W.Frag) (neg : Bool) : R2 := fun x y H Q => ∃ d e, Dp K H x d ∧ Dp K H y e ∧ d.plain = true ∧ e.plain = true ∧ min d.depth e.depth ≤ 60 ∧ Q (.bl (if neg then !PyData.eqv d e else PyData.eqv d e)) H
section
variable {X : Cx}
theorem op_eqP (hu : X.A.units + 64 < cLine) : OpR X (compareOp .Eq) (rEqP X.K false) := by
  intro pins s σ H x y v u Q I rx ry h
  obtain ⟨d, e, hd, he, sd, se, dp, q⟩ := h
  obtain ⟨as, r1⟩ := Dp.reads I d x v hd rx
  obtain ⟨bs, r2⟩ := Dp.reads I e y u he ry
  exact PySem.SeqAt.eq_plain r1 r2 sd se (by omega) ⟨.bl _, H, I, rfl, q⟩
theorem op_neP (hu : X.A.units + 64 < cLine) : OpR X (compareOp .NotEq) (rEqP X.K true) := by
  intro pins s σ H x y v u Q I rx ry h
  obtain ⟨d, e, hd, he, sd, se, dp, q⟩ := h
  obtain ⟨as, r1⟩ := Dp.reads I d x v hd rx
  obtain ⟨bs, r2⟩ := Dp.reads I e y u he ry
  exact PySem.SeqAt.ne_plain r1 r2 sd se (by omega) ⟨.bl _, H, I, rfl, q⟩
end
def sEqG (neg : Bool) : S2 := fun x y M Q => ∃ d e, pyM M x = some d ∧ pyM M y = some e ∧ min d.depth e.depth ≤ 60 ∧ Q (.bl (if neg then !PyData.eqv d e else PyData.eqv d e)) M
def sEq : S2 := fun x y M Q => match x, y with
  | .int i, .int j => Q (.bl (decide (i = j))) M
  | .str i, .str j => Q (.bl (decide (i = j))) M
  | .bl i, .bl j => Q (.bl (decide (i = j))) M
  | x, y => sEqG false x y M Q
def sNe : S2 := fun x y M Q => match x, y with
  | .int i, .int j => Q (.bl (!decide (i = j))) M
  | .str i, .str j => Q (.bl (!decide (i = j))) M
  | .bl i, .bl j => Q (.bl (!decide (i = j))) M
  | x, y => sEqG true x y M Q
theorem eqG_ok {K : PySem.W.Frag} {neg : Bool} : Sim2 K (rEqP K neg) (sEqG neg) := fun B loc M H x y v w Q Qd r d1 d2 h t => by
  obtain ⟨d, e, h1, h2, h3, h4⟩ := h
  exact ⟨d, e, pyM_ok r d1 h1, pyM_ok r d2 h2, pyM_plain h1, pyM_plain h2, h3, t _ _ _ _ _ _ .refl r .bl h4⟩
theorem eqv_str (a b : Str) : PyData.eqv (.str a) (.str b) = decide (a = b) := by
  show (a == b) = _
  by_cases h : a = b
  · subst h; rw [beq_self_eq_true]; exact (decide_eq_true rfl).symm
  · rw [beq_eq_false_iff_ne.mpr h]; exact (decide_eq_false h).symm
theorem eqv_int (a b : Int) : PyData.eqv (.int a) (.int b) = decide (a = b) := by
  show (a == b) = _
  by_cases h : a = b
  · subst h; rw [beq_self_eq_true]; exact (decide_eq_true rfl).symm
  · rw [beq_eq_false_iff_ne.mpr h]; exact (decide_eq_false h).symm
theorem eqv_bl (a b : Bool) : PyData.eqv (.bool a) (.bool b) = decide (a = b) := by cases a <;> cases b <;> rfl
theorem sEq_imp {x y : D} {M : Mem} {Q : SQ} (h : sEq x y M Q) : sEqG false x y M Q := by
  unfold sEq at h
  split at h
  · exact ⟨_, _, rfl, rfl, by show min 0 0 ≤ 60; omega, by rw [if_neg Bool.false_ne_true, eqv_int]; exact h⟩
  · exact ⟨_, _, rfl, rfl, by show min 0 0 ≤ 60; omega, by rw [if_neg Bool.false_ne_true, eqv_str]; exact h⟩
  · exact ⟨_, _, rfl, rfl, by show min 0 0 ≤ 60; omega, by rw [if_neg Bool.false_ne_true, eqv_bl]; exact h⟩
  · exact h
theorem sNe_imp {x y : D} {M : Mem} {Q : SQ} (h : sNe x y M Q) : sEqG true x y M Q := by
  unfold sNe at h
  split at h
  · exact ⟨_, _, rfl, rfl, by show min 0 0 ≤ 60; omega, by rw [if_pos rfl, eqv_int]; exact h⟩
  · exact ⟨_, _, rfl, rfl, by show min 0 0 ≤ 60; omega, by rw [if_pos rfl, eqv_str]; exact h⟩
  · exact ⟨_, _, rfl, rfl, by show min 0 0 ≤ 60; omega, by rw [if_pos rfl, eqv_bl]; exact h⟩
  · exact h
section
variable {X : Cx}
theorem jo_eq (hu : X.A.units + 64 < cLine) : JOp X (compareOp .Eq) sEq := JOp.imp (s := sEqG false) ⟨_, op_eqP hu, eqG_ok⟩ fun _ _ _ _ h => sEq_imp h
theorem jo_ne (hu : X.A.units + 64 < cLine) : JOp X (compareOp .NotEq) sNe := JOp.imp (s := sEqG true) ⟨_, op_neP hu, eqG_ok⟩ fun _ _ _ _ h => sNe_imp h
/-! ### numbers -/
theorem sim_I {K : PySem.W.Frag} {C : Int → Int → Prop} {g : Int → Int → V} {gd : Int → Int → D} (hg : ∀ i j B loc, Den K B loc (gd i j) (g i j)) :
    Sim2 K (rI C g) fun x y M Q => ∃ i j, x = .int i ∧ y = .int j ∧ C i j ∧ Q (gd i j) M := fun B loc M H x y v w Q Qd r d1 d2 h t => by
  obtain ⟨i, j, rfl, rfl, hc, q⟩ := h
  cases d1; cases d2
  exact ⟨i, j, rfl, rfl, hc, t _ _ _ _ _ _ .refl r (hg _ _ _ _) q⟩
theorem sim_I0 {K : PySem.W.Frag} {g : Int → Int → V} {gd : Int → Int → D} (hg : ∀ i j B loc, Den K B loc (gd i j) (g i j)) :
    Sim2 K (rI0 g) fun x y M Q => ∃ i j, x = .int i ∧ y = .int j ∧ Q (gd i j) M := fun B loc M H x y v w Q Qd r d1 d2 h t => by
  obtain ⟨i, j, rfl, rfl, q⟩ := h
  cases d1; cases d2
  exact ⟨i, j, rfl, rfl, t _ _ _ _ _ _ .refl r (hg _ _ _ _) q⟩
def s2I (g : Int → Int → D) : S2 := fun x y M Q => match x, y with
  | .int i, .int j => Q (g i j) M
  | _, _ => False
theorem s2I_imp {g : Int → Int → D} {x y : D} {M : Mem} {Q : SQ} (h : s2I g x y M Q) : ∃ i j, x = .int i ∧ y = .int j ∧ Q (g i j) M := by
  unfold s2I at h
  split at h
  · exact ⟨_, _, rfl, rfl, h⟩
  · exact h.elim
abbrev sSub : S2 := s2I fun i j => .int (i - j)
abbrev sLt : S2 := s2I fun i j => .bl (decide (i < j))
abbrev sLe : S2 := s2I fun i j => .bl (decide (i ≤ j))
abbrev sGt : S2 := s2I fun i j => .bl (decide (j < i))
abbrev sGe : S2 := s2I fun i j => .bl (decide (j ≤ i))
theorem jo_sub : JOp X (binaryOp .Sub) sSub := JOp.imp ⟨_, op_sub, sim_I0 (gd := fun i j => .int (i - j)) fun _ _ _ _ => .int⟩ fun _ _ _ _ h => s2I_imp h
theorem jo_lt : JOp X (compareOp .Lt) sLt := JOp.imp ⟨_, op_lt, sim_I0 (gd := fun i j => .bl (decide (i < j))) fun _ _ _ _ => .bl⟩ fun _ _ _ _ h => s2I_imp h
theorem jo_le : JOp X (compareOp .LtE) sLe := JOp.imp ⟨_, op_le, sim_I0 (gd := fun i j => .bl (decide (i ≤ j))) fun _ _ _ _ => .bl⟩ fun _ _ _ _ h => s2I_imp h
theorem jo_gt : JOp X (compareOp .Gt) sGt := JOp.imp ⟨_, op_gt, sim_I0 (gd := fun i j => .bl (decide (j < i))) fun _ _ _ _ => .bl⟩ fun _ _ _ _ h => s2I_imp h
theorem jo_ge : JOp X (compareOp .GtE) sGe := JOp.imp ⟨_, op_ge, sim_I0 (gd := fun i j => .bl (decide (j ≤ i))) fun _ _ _ _ => .bl⟩ fun _ _ _ _ h => s2I_imp h
/-- // and % by a positive number (// below 2 ^ 9000), ** of small ones -/
def sDiv : S2 := fun x y M Q => match x, y with
  | .int i, .int j => (0 < j ∧ j.natAbs.log2 < 9000) ∧ Q (.int (i / j)) M
  | _, _ => False
def sMod : S2 := fun x y M Q => match x, y with
  | .int i, .int j => 0 < j ∧ Q (.int (i % j)) M
  | _, _ => False
def sPow : S2 := fun x y M Q => match x, y with
  | .int i, .int j => (0 ≤ j ∧ j ≤ 1000000 ∧ i.natAbs < 2 ^ 64) ∧ Q (.int (i ^ j.toNat)) M
  | _, _ => False
theorem jo_div : JOp X (binaryOp .FloorDiv) sDiv := JOp.imp ⟨_, op_fdivW, sim_I (gd := fun i j => .int (i / j)) fun _ _ _ _ => .int⟩ fun x y M Q h => by
  unfold sDiv at h
  split at h
  · exact ⟨_, _, rfl, rfl, h.1, h.2⟩
  · exact h.elim
theorem jo_mod : JOp X (binaryOp .Mod) sMod := JOp.imp ⟨_, op_mod, sim_I (gd := fun i j => .int (i % j)) fun _ _ _ _ => .int⟩ fun x y M Q h => by
  unfold sMod at h
  split at h
  · exact ⟨_, _, rfl, rfl, h.1, h.2⟩
  · exact h.elim
theorem jo_pow : JOp X (binaryOp .Pow) sPow := JOp.imp ⟨_, op_pow, sim_I (gd := fun i j => .int (i ^ j.toNat)) fun _ _ _ _ => .int⟩ fun x y M Q h => by
  unfold sPow at h
  split at h
  · exact ⟨_, _, rfl, rfl, h.1, h.2⟩
  · exact h.elim
end
end J

namespace J
open PySem PySem.Spec PyProof.Rows L2
section
variable {X : Cx}
/-! ### text * int -/
def repS (x : Str) (n : Nat) : Str := ⟨(List.replicate n x.cps.toList).flatten.toArray⟩
theorem fold_rep (x : Array Nat) : ∀ (n : Nat) (acc : List Nat), (List.replicate n x).foldl (· ++ ·) acc.toArray = (acc ++ (List.replicate n x.toList).flatten).toArray
  | 0, acc => by simp
  | n + 1, acc => by
    rw [List.replicate_succ, List.foldl_cons]
    have e : acc.toArray ++ x = (acc ++ x.toList).toArray := by simp
    rw [e, fold_rep x n (acc ++ x.toList), List.replicate_succ, List.flatten_cons, List.append_assoc]
theorem op_repS : OpR X (binaryOp .Mult) (fun x y H Q => ∃ a k, x = .str a ∧ y = .int k ∧ 0 ≤ k ∧ a.length * k.toNat ≤ sizeLine ∧ k ≤ sizeLine ∧ Q (.str (repS a k.toNat)) H) := by
  intro pins s σ H x y v u Q I rx ry h
  obtain ⟨a, k, rfl, rfl, h0, hz, hk, q⟩ := h
  obtain ⟨t, rfl⟩ := rx
  obtain ⟨t', rfl⟩ := ry
  have sl : sizeLine = 16777216 := sizeLine_eq
  have b : a.length = a.cps.size := rfl
  refine PySem.P.mul_str ?_ ?_ ?_ ?_
  · rw [decide_eq_false (by omega), decide_eq_false (by omega)]; rfl
  · intro h1 h2 h3
    have h4 : (1 : Int) ≤ k := by omega
    have h5 : ((a.length : Nat) : Int) * k ≤ 16777216 := by
      have e : (k.toNat : Int) = k := Int.toNat_of_nonneg h0
      have : ((a.length * k.toNat : Nat) : Int) ≤ (sizeLine : Int) := Int.ofNat_le.mpr hz
      rw [Int.natCast_mul, e] at this
      omega
    have h6 : ((a.length : Nat) : Int) ≤ (2 ^ 63 - 1) / k := by
      refine Int.le_ediv_of_mul_le (by omega) ?_
      omega
    omega
  · intro h1 h2
    unfold Builtin.Str.tooLong
    rw [decide_eq_false]
    omega
  · have e1 : k < 1 → repS a k.toNat = Str.empty := fun h => by
      have : k.toNat = 0 := by omega
      rw [this]; rfl
    split
    · rename_i h1
      rw [e1 h1] at q
      exact ⟨by decide, .str Str.empty, H, I.tok _, ⟨_, rfl⟩, q⟩
    · rename_i h1
      have e2 : (⟨(List.replicate k.toNat a.cps).foldl (· ++ ·) #[]⟩ : Str) = repS a k.toNat := by
        unfold repS
        have := fold_rep a.cps k.toNat []
        rw [List.nil_append] at this
        rw [← this]
      split
      · rename_i h2
        have e3 : repS a k.toNat = a := by
          rw [Bool.or_eq_true] at h2
          rcases h2 with h2 | h2
          · have : k.toNat = 1 := by have := eq_of_beq h2; omega
            rw [this]
            unfold repS
            simp
          · have h3 : a.cps.size = 0 := eq_of_beq h2
            have h4 : a.cps.toList = [] := List.eq_nil_of_length_eq_zero (by rw [Array.length_toList]; exact h3)
            unfold repS
            rw [h4]
            obtain ⟨cps⟩ := a
            have h5 : cps = #[] := Array.eq_empty_of_size_eq_zero h3
            subst h5
            have : (List.replicate k.toNat ([] : List Nat)).flatten = [] := by
              generalize k.toNat = m
              induction m with
              | zero => rfl
              | succ m ih => rw [List.replicate_succ, List.flatten_cons, ih]; rfl
            rw [this]
        rw [e3] at q
        exact ⟨.str a, H, I, ⟨t, rfl⟩, q⟩
      · rw [e2]
        refine ⟨?_, .str _, H, I.tok _, ⟨_, rfl⟩, q⟩
        show ((List.replicate k.toNat a.cps.toList).flatten.toArray).size ≤ sizeLine
        rw [List.size_toArray, PyProof.Rows.lm_len_rep_flat, Array.length_toList, Nat.mul_comm]
        exact hz
end
end J

namespace J
open PySem PySem.Spec PyProof.Rows L2
/-! ### + and * -/
def sAdd : S2 := fun x y M Q => match x, y with
  | .int i, .int j => Q (.int (i + j)) M
  | .str a, .str b => a.length + b.length ≤ sizeLine ∧ Q (.str (a ++ b)) M
  | .tup xs, .tup ys => xs ≠ [] ∧ xs.length + ys.length ≤ sizeLine ∧ Q (.tup (xs ++ ys)) M
  | x, y => ∃ xs ys, asR M x = some xs ∧ asR M y = some ys ∧ xs.length + ys.length ≤ sizeLine ∧ Q (.lst (xs ++ ys)) M
def sMul : S2 := fun x y M Q => match x, y with
  | .int i, .int j => (CMul i j ∨ CMulW i j) ∧ Q (.int (i * j)) M
  | .str a, .int k => 0 ≤ k ∧ a.length * k.toNat ≤ sizeLine ∧ k ≤ sizeLine ∧ Q (.str (repS a k.toNat)) M
  | x, .int k => ∃ xs, asR M x = some xs ∧ -(2 ^ 63) ≤ k ∧ k < 2 ^ 63 ∧ xs.length * k.toNat ≤ sizeLine ∧ Q (.lst (List.replicate k.toNat xs).flatten) M
  | _, _ => False
theorem DenL.rep {K : PySem.W.Frag} {B : Hp} {loc : List Addr} {xs : List D} {vs : List V} (h : DenL K B loc xs vs) : ∀ k : Nat, DenL K B loc (List.replicate k xs).flatten (List.replicate k vs).flatten
  | 0 => .nil
  | k + 1 => by rw [List.replicate_succ, List.replicate_succ, List.flatten_cons, List.flatten_cons]; exact h.append (DenL.rep h k)
section
variable {X : Cx}
theorem jo_add : JOp X (binaryOp .Add) sAdd := by
  have h1 : JOp X (binaryOp .Add) (fun x y M Q => ∃ i j, x = .int i ∧ y = .int j ∧ Q (.int (i + j)) M) := ⟨_, op_add, sim_I0 (gd := fun i j => .int (i + j)) fun _ _ _ _ => .int⟩
  have h2 : JOp X (binaryOp .Add) (fun x y M Q => ∃ i j, x = .str i ∧ y = .str j ∧ i.length + j.length ≤ sizeLine ∧ Q (.str (i ++ j)) M) := ⟨_, op_add_str, fun B loc M H x y v w Q Qd r d1 d2 h t => by
    obtain ⟨i, j, rfl, rfl, hz, q⟩ := h
    cases d1; cases d2
    exact ⟨i, j, rfl, rfl, hz, t _ _ _ _ _ _ .refl r .str q⟩⟩
  have h3 : JOp X (binaryOp .Add) (fun x y M Q => ∃ xs ys, x = .tup xs ∧ y = .tup ys ∧ xs ≠ [] ∧ xs.length + ys.length ≤ sizeLine ∧ Q (.tup (xs ++ ys)) M) := ⟨_, op_catT, fun B loc M H x y v w Q Qd r d1 d2 h t => by
    obtain ⟨xs, ys, rfl, rfl, hn, hz, q⟩ := h
    cases d1 with
    | tup s1 l1 =>
      cases d2 with
      | tup s2 l2 =>
        have e1 := l1.length
        have e2 := l2.length
        refine ⟨_, _, _, _, rfl, rfl, same_t r.ext s1, same_t r.ext s2, fun z => ?_, by rw [← e1, ← e2]; exact hz, fun z => ?_, fun z p hp => ?_⟩
        · cases xs with
          | nil => exact hn rfl
          | cons _ _ => rw [z] at e1; cases e1
        · have : ys = [] := by
            cases ys with
            | nil => rfl
            | cons _ _ => rw [z] at e2; cases e2
          subst this
          rw [List.append_nil] at q
          exact t _ _ _ _ _ _ .refl r (.tup s1 l1) q
        · obtain ⟨r1, g1⟩ := r.new (o := .tup (_ ++ _)) hp
          exact t _ _ _ _ _ _ g1 r1 (.tup (SqT.of upd_same) ((l1.append l2).go g1)) q⟩
  have h4 : JOp X (binaryOp .Add) (fun x y M Q => ∃ xs ys, asR M x = some xs ∧ asR M y = some ys ∧ xs.length + ys.length ≤ sizeLine ∧ Q (.lst (xs ++ ys)) M) := ⟨_, op_cat, fun B loc M H x y v w Q Qd r d1 d2 h t => by
    obtain ⟨xs, ys, hx, hy, hz, q⟩ := h
    obtain ⟨a, vs, rfl, s1, l1⟩ := asR_ok r d1 hx
    obtain ⟨b, ws, rfl, s2, l2⟩ := asR_ok r d2 hy
    refine ⟨a, b, vs, ws, rfl, rfl, s1, s2, by rw [← l1.length, ← l2.length]; exact hz, fun p hp => ?_⟩
    obtain ⟨r1, g1⟩ := r.new (o := .lst (_ ++ _)) hp
    exact t _ _ _ _ _ _ g1 r1 (.lst upd_same ((l1.append l2).go g1)) q⟩
  refine (((h1.or h2).or h3).or h4).imp fun x y M Q h => ?_
  unfold sAdd at h
  split at h
  · exact .inl (.inl (.inl ⟨_, _, rfl, rfl, h⟩))
  · exact .inl (.inl (.inr ⟨_, _, rfl, rfl, h⟩))
  · exact .inl (.inr ⟨_, _, rfl, rfl, h⟩)
  · exact .inr h
theorem op_mulC : OpR X (binaryOp .Mult) (rI (fun i j => CMul i j ∨ CMulW i j) fun i j => .int (i * j)) := opI fun _ _ _ _ _ _ _ hc q => mul_int q (hc.elim CMul.ok CMulW.ok)
theorem jo_mul : JOp X (binaryOp .Mult) sMul := by
  have h1 : JOp X (binaryOp .Mult) (fun x y M Q => ∃ i j, x = .int i ∧ y = .int j ∧ (CMul i j ∨ CMulW i j) ∧ Q (.int (i * j)) M) := ⟨_, op_mulC, sim_I (gd := fun i j => .int (i * j)) fun _ _ _ _ => .int⟩
  have h2 : JOp X (binaryOp .Mult) (fun x y M Q => ∃ a k, x = .str a ∧ y = .int k ∧ 0 ≤ k ∧ a.length * k.toNat ≤ sizeLine ∧ k ≤ sizeLine ∧ Q (.str (repS a k.toNat)) M) := ⟨_, op_repS, fun B loc M H x y v w Q Qd r d1 d2 h t => by
    obtain ⟨a, k, rfl, rfl, c1, c2, c3, q⟩ := h
    cases d1; cases d2
    exact ⟨a, k, rfl, rfl, c1, c2, c3, t _ _ _ _ _ _ .refl r .str q⟩⟩
  have h3 : JOp X (binaryOp .Mult) (fun x y M Q => ∃ xs k, asR M x = some xs ∧ y = .int k ∧ -(2 ^ 63) ≤ k ∧ k < 2 ^ 63 ∧ xs.length * k.toNat ≤ sizeLine ∧ Q (.lst (List.replicate k.toNat xs).flatten) M) := ⟨_, op_rep, fun B loc M H x y v w Q Qd r d1 d2 h t => by
    obtain ⟨xs, k, hx, rfl, c1, c2, c3, q⟩ := h
    obtain ⟨a, vs, rfl, s1, l1⟩ := asR_ok r d1 hx
    cases d2
    refine ⟨a, k, vs, rfl, rfl, s1, c1, c2, by rw [← l1.length]; exact c3, fun p hp => ?_⟩
    obtain ⟨r1, g1⟩ := r.new (o := .lst (List.replicate k.toNat vs).flatten) hp
    exact t _ _ _ _ _ _ g1 r1 (.lst upd_same ((l1.rep _).go g1)) q⟩
  refine ((h1.or h2).or h3).imp fun x y M Q h => ?_
  unfold sMul at h
  split at h
  · exact .inl (.inl ⟨_, _, rfl, rfl, h⟩)
  · exact .inl (.inr ⟨_, _, rfl, rfl, h⟩)
  · obtain ⟨xs, h⟩ := h
    exact .inr ⟨xs, _, h.1, rfl, h.2⟩
  · exact h.elim
/-- truth - truth: a number -/
def sSubB : S2 := fun x y M Q => match x, y with
  | .bl a, .bl b => Q (.int (b2i a - b2i b)) M
  | _, _ => False
theorem op_subB : OpR X (binaryOp .Sub) (fun x y H Q => ∃ a b, x = .bl a ∧ y = .bl b ∧ Q (.int (b2i a - b2i b)) H) := by
  intro pins s σ H x y v u Q I rx ry h
  obtain ⟨a, b, rfl, rfl, q⟩ := h
  cases rx; cases ry
  exact PyProof.Rows.sub_bool ⟨.int _, H, I.tok _, ⟨_, rfl⟩, q⟩
theorem jo_subB : JOp X (binaryOp .Sub) sSubB := JOp.imp (s := fun x y M Q => ∃ a b, x = .bl a ∧ y = .bl b ∧ Q (.int (b2i a - b2i b)) M) ⟨_, op_subB, fun B loc M H x y v w Q Qd r d1 d2 h t => by
    obtain ⟨a, b, rfl, rfl, q⟩ := h
    cases d1; cases d2
    exact ⟨a, b, rfl, rfl, t _ _ _ _ _ _ .refl r .int q⟩⟩ fun x y M Q h => by
  unfold sSubB at h
  split at h
  · exact ⟨_, _, rfl, rfl, h⟩
  · exact h.elim
/-! ### in, not in; is None -/
/-- one sign in a text -/
def sInS (neg : Bool) : S2 := fun x y M Q => match x, y with
  | .str a, .str z => ∃ c, a = ⟨#[c]⟩ ∧ Q (.bl (if neg then !decide (c ∈ z.cps.toList) else decide (c ∈ z.cps.toList))) M
  | _, _ => False
/-- data in a list or tuple -/
def sInL (neg : Bool) : S2 := fun x y M Q => ∃ d xs ds, pyM M x = some d ∧ (asL M y = some xs ∨ asT y = some xs) ∧ pyL xs = some ds ∧ d.depth ≤ 60 ∧ Q (.bl (if neg then !ds.any fun y => PyData.eqv y d else ds.any fun y => PyData.eqv y d)) M
def rInP (K : PySem.W.Frag) (neg : Bool) : R2 := fun x y H Q => ∃ d a vs ds, Dp K H x d ∧ y = .ref a ∧ (SqL K H a vs ∨ SqT K H a vs) ∧ DpAll K H vs ds ∧ PyData.plainAll ds = true ∧ d.plain = true ∧ d.depth ≤ 60 ∧
  Q (.bl (if neg then !ds.any fun y => PyData.eqv y d else ds.any fun y => PyData.eqv y d)) H
theorem op_inP (hu : X.A.units + 64 < cLine) : OpR X (compareOp .In) (rInP X.K false) := by
  intro pins s σ H x y v u Q I rx ry h
  obtain ⟨d, a, vs, ds, hd, rfl, hs, ha, p1, p2, dp, q⟩ := h
  obtain ⟨as, r1⟩ := Dp.reads I d x v hd rx
  cases ry
  rcases hs with hs | hs
  · obtain ⟨bs, r2⟩ := Dp.reads I (.list ds) (.ref a) (.ref a) (.lst hs ha) rfl
    exact PySem.SeqAt.in_list_data r2 r1 p1 p2 (by omega) ⟨.bl _, H, I, rfl, q⟩
  · obtain ⟨bs, r2⟩ := Dp.reads I (.tuple ds) (.ref a) (.ref a) (.tup hs ha) rfl
    exact PySem.SeqAt.in_tuple_data r2 r1 p1 p2 (by omega) ⟨.bl _, H, I, rfl, q⟩
theorem op_notInP (hu : X.A.units + 64 < cLine) : OpR X (compareOp .NotIn) (rInP X.K true) := by
  intro pins s σ H x y v u Q I rx ry h
  obtain ⟨d, a, vs, ds, hd, rfl, hs, ha, p1, p2, dp, q⟩ := h
  obtain ⟨as, r1⟩ := Dp.reads I d x v hd rx
  cases ry
  rcases hs with hs | hs
  · obtain ⟨bs, r2⟩ := Dp.reads I (.list ds) (.ref a) (.ref a) (.lst hs ha) rfl
    exact PySem.SeqAt.notIn_list_data r2 r1 p1 p2 (by omega) ⟨.bl _, H, I, rfl, q⟩
  · obtain ⟨bs, r2⟩ := Dp.reads I (.tuple ds) (.ref a) (.ref a) (.tup hs ha) rfl
    exact PySem.SeqAt.notIn_tuple_data r2 r1 p1 p2 (by omega) ⟨.bl _, H, I, rfl, q⟩
theorem inP_ok {K : PySem.W.Frag} {neg : Bool} : Sim2 K (rInP K neg) (sInL neg) := fun B loc M H x y v w Q Qd r d1 d2 h t => by
  obtain ⟨d, xs, ds, h1, h2, h3, h4, q⟩ := h
  have fin : ∀ {a vs}, w = .ref a → (SqL K H a vs ∨ SqT K H a vs) → DenL K B loc xs vs → rInP K neg v w H Q := fun {a vs} e s l =>
    ⟨d, a, vs, ds, pyM_ok r d1 h1, e, s, pyL_ok r.ext l h3, pyL_plain h3, pyM_plain h1, h4, t _ _ _ _ _ _ .refl r .bl q⟩
  rcases h2 with h2 | h2
  · obtain ⟨a, vs, e, s, l⟩ := asL_ok r d2 h2
    exact fin e (.inl s) l
  · obtain ⟨a, vs, e, s, l⟩ := asT_ok r d2 h2
    exact fin e (.inr s) l
theorem jo_inL (hu : X.A.units + 64 < cLine) : JOp X (compareOp .In) (sInL false) := ⟨_, op_inP hu, inP_ok⟩
theorem jo_notInL (hu : X.A.units + 64 < cLine) : JOp X (compareOp .NotIn) (sInL true) := ⟨_, op_notInP hu, inP_ok⟩
theorem jo_inS : JOp X (compareOp .In) (sInS false) := JOp.imp (s := fun x y M Q => ∃ c z, x = .str ⟨#[c]⟩ ∧ y = .str z ∧ Q (.bl (decide (c ∈ z.cps.toList))) M) ⟨_, op_in_sign, fun B loc M H x y v w Q Qd r d1 d2 h t => by
    obtain ⟨c, z, rfl, rfl, q⟩ := h
    cases d1; cases d2
    exact ⟨c, z, rfl, rfl, t _ _ _ _ _ _ .refl r .bl q⟩⟩ fun x y M Q h => by
  unfold sInS at h
  split at h
  · obtain ⟨c, rfl, q⟩ := h
    exact ⟨c, _, rfl, rfl, q⟩
  · exact h.elim
theorem jo_notInS : JOp X (compareOp .NotIn) (sInS true) := JOp.imp (s := fun x y M Q => ∃ c z, x = .str ⟨#[c]⟩ ∧ y = .str z ∧ Q (.bl (!decide (c ∈ z.cps.toList))) M) ⟨_, op_notIn_sign, fun B loc M H x y v w Q Qd r d1 d2 h t => by
    obtain ⟨c, z, rfl, rfl, q⟩ := h
    cases d1; cases d2
    exact ⟨c, z, rfl, rfl, t _ _ _ _ _ _ .refl r .bl q⟩⟩ fun x y M Q h => by
  unfold sInS at h
  split at h
  · obtain ⟨c, rfl, q⟩ := h
    exact ⟨c, _, rfl, rfl, q⟩
  · exact h.elim
def isNonD : D → Bool
  | .non => true
  | _ => false
def sIsN (neg : Bool) : S2 := fun x y M Q => match y with
  | .non => Q (.bl (if neg then !isNonD x else isNonD x)) M
  | _ => False
theorem isNon_den {K : PySem.W.Frag} {B : Hp} {loc : List Addr} {d : D} {v : V} (h : Den K B loc d v) : decide (v = .non) = isNonD d := by
  cases h <;> rfl
theorem jo_isN : JOp X (compareOp .Is) (sIsN false) := ⟨_, op_isN, fun B loc M H x y v w Q Qd r d1 d2 h t => by
  unfold sIsN at h
  split at h
  · cases d2
    exact ⟨rfl, by rw [isNon_den d1]; exact t _ _ _ _ _ _ .refl r .bl h⟩
  · exact h.elim⟩
theorem jo_isNotN : JOp X (compareOp .IsNot) (sIsN true) := ⟨_, op_notN, fun B loc M H x y v w Q Qd r d1 d2 h t => by
  unfold sIsN at h
  split at h
  · cases d2
    exact ⟨rfl, by rw [isNon_den d1]; exact t _ _ _ _ _ _ .refl r .bl h⟩
  · exact h.elim⟩
/-! ### an item, a slice -/
/-- an item of a list, a tuple, a text -/
def sIx : S2 := fun x y M Q => match x, y with
  | .str z, .int i => z.length ≤ sizeLine ∧ ∃ c, atI z.cps.toList i = some c ∧ Q (.str ⟨#[c]⟩) M
  | .tup xs, .int i => ∃ d, atI xs i = some d ∧ Q d M
  | x, .int i => ∃ xs d, asL M x = some xs ∧ atI xs i = some d ∧ Q d M
  | _, _ => False
theorem DenL.atI {K : PySem.W.Frag} {B : Hp} {loc : List Addr} {xs : List D} {vs : List V} {i : Int} {d : D} (h : DenL K B loc xs vs) (e : atI xs i = some d) : ∃ v, L2.atI vs i = some v ∧ Den K B loc d v := by
  unfold L2.atI at e ⊢
  rw [← h.length]
  cases q : ixN xs.length i with
  | none => rw [q] at e; cases e
  | some j =>
    rw [q] at e
    exact h.get e
def JIx (X : Cx) (s : S2) : Prop := ∃ r, IxR X r ∧ Sim2 X.K r s
theorem ji_seq : JIx X sIx := ⟨_, ix_seq, fun B loc M H x y v w Q Qd r d1 d2 h t => by
  unfold sIx at h
  split at h
  · obtain ⟨hz, c, h1, q⟩ := h
    cases d1; cases d2
    exact .inr (.inr ⟨_, _, c, rfl, rfl, hz, h1, t _ _ _ _ _ _ .refl r .str q⟩)
  · obtain ⟨d, h1, q⟩ := h
    cases d2
    cases d1 with
    | tup s1 l1 =>
      obtain ⟨v, h2, h3⟩ := l1.atI h1
      exact .inr (.inl ⟨_, _, _, v, rfl, rfl, same_t r.ext s1, h2, t _ _ _ _ _ _ .refl r h3 q⟩)
  · obtain ⟨xs, d, hx, h1, q⟩ := h
    cases d2
    obtain ⟨a, vs, rfl, s1, l1⟩ := asL_ok r d1 hx
    obtain ⟨v, h2, h3⟩ := l1.atI h1
    exact .inl ⟨_, _, _, v, rfl, rfl, s1, h2, t _ _ _ _ _ _ .refl r h3 q⟩
  · exact h.elim⟩
variable {c : JC} {a b e : Expr} {pos p : Pos} {sa sb se : SE}
theorem je_ix {s : S2} (hr : JIx X s) (ha : JE c X a sa) (hb : JE c X b sb) (hs : PlainIx b := by exact fun _ _ => rfl) : JE c X (.Subscript a b pos) (sOp s sa sb) := by
  obtain ⟨ta, pa, za⟩ := ha
  obtain ⟨tb, pb, zb⟩ := hb
  obtain ⟨r, o, z⟩ := hr
  exact ⟨_, pe_ix o pa pb hs, fun B loc M H σ ρ Q Qd A hs t => two za zb z A hs t⟩
abbrev SO := Rho → Mem → (Option Int → Mem → Prop) → Prop
def JO (c : JC) (X : Cx) (e : Option Expr) (so : SO) : Prop :=
  ∃ to, PO X e to ∧ ∀ B loc M H σ ρ (Q : Option Int → Hp → Prop) (Qd : Option Int → Mem → Prop), At c X.K B loc M H σ ρ → so ρ M Qd →
    (∀ o M' B' loc' H', Go B loc H B' loc' H' → Rel X.K B' loc' M' H' → Qd o M' → Q o H') → to σ H Q
def sNoPart : SO := fun _ M Q => Q none M
def sPart (se : SE) : SO := fun ρ M Q => se ρ M fun d M1 => match d with
  | .int i => Q (some i) M1
  | _ => False
theorem jo_none : JO c X none sNoPart := ⟨_, po_none, fun B loc M H σ ρ Q Qd A hs t => t _ _ _ _ _ .refl A.rel hs⟩
theorem jo_some (h : JE c X e se) : JO c X (some e) (sPart se) := by
  obtain ⟨t, p, z⟩ := h
  refine ⟨_, po_some p, fun B loc M H σ ρ Q Qd A hs t => z B loc M H σ ρ _ _ A hs fun d M' v B' l' H' g r e h => ?_⟩
  cases e with
  | int => exact ⟨_, rfl, t _ _ _ _ _ g r h⟩
  | _ => exact h.elim
def cutD (xs : List D) (lo hi : Option Int) : List D := (xs.drop (HT.sIx xs.length 0 lo)).take (HT.sIx xs.length xs.length hi - HT.sIx xs.length 0 lo)
theorem cut_den {K : PySem.W.Frag} {B : Hp} {loc : List Addr} {xs : List D} {vs : List V} (h : DenL K B loc xs vs) (lo hi : Option Int) : DenL K B loc (cutD xs lo hi) (cutV vs lo hi) := by
  unfold cutD cutV
  rw [← h.length]
  exact (h.drop _).take _
theorem not_whole {a b n : Nat} (h : (Nat.beq a 0 && Nat.beq b n) = false) : ¬ (a = 0 ∧ b = n) := fun z => by
  rw [z.1, z.2, Nat.beq_refl, Nat.beq_refl] at h
  cases h
/-- a slice without a step: of a text, of a tuple (not the whole of it), of a list: a new one -/
def sSl (sa : SE) (l h : SO) : SE := fun ρ M Q => sa ρ M fun x M1 => l ρ M1 fun lo M2 => h ρ M2 fun hi M3 => match x with
  | .str z => z.length ≤ sizeLine ∧ Q (.str (cutS z lo hi)) M3
  | .tup xs => (Nat.beq (HT.sIx xs.length 0 lo) 0 && Nat.beq (HT.sIx xs.length xs.length hi) xs.length) = false ∧ Q (.tup (cutD xs lo hi)) M3
  | x => ∃ xs, asL M3 x = some xs ∧ Q (.lst (cutD xs lo hi)) M3
theorem je_slice {lo hi : Option Expr} {l h : SO} {p2 : Pos} (ha : JE c X a sa) (hl : JO c X lo l) (hh : JO c X hi h) : JE c X (.Subscript a (.Slice lo hi none p2) pos) (sSl sa l h) := by
  obtain ⟨ta, pa, za⟩ := ha
  obtain ⟨tl, pl, zl⟩ := hl
  obtain ⟨th, ph, zh⟩ := hh
  refine ⟨_, pe_slice ((sl_str.or sl_tup).or sl_list) pa pl ph, fun B loc M H σ ρ Q Qd A hs t => za B loc M H σ ρ _ _ A hs fun d1 M1 v1 B1 l1 H1 g1 r1 e1 h1 =>
    zl B1 l1 M1 H1 σ ρ _ _ (A.on g1 r1) h1 fun o1 M2 B2 l2 H2 g2 r2 h2 => zh B2 l2 M2 H2 σ ρ _ _ (A.on (g1.trans g2) r2) h2 fun o2 M3 B3 l3 H3 g3 r3 h3 => ?_⟩
  have e3 := e1.go (g2.trans g3)
  have g := (g1.trans g2).trans g3
  split at h3
  · cases e3
    exact .inl (.inl ⟨_, rfl, h3.1, t _ _ _ _ _ _ g r3 .str h3.2⟩)
  · cases e3 with
    | tup s1 l1 =>
      refine .inl (.inr ⟨_, _, rfl, same_t r3.ext s1, by rw [← l1.length]; exact not_whole h3.1, fun p hp => ?_⟩)
      obtain ⟨r4, g4⟩ := r3.new (o := .tup _) hp
      exact t _ _ _ _ _ _ (g.trans g4) r4 (.tup (SqT.of upd_same) ((cut_den l1 _ _).go g4)) h3.2
  · obtain ⟨xs, hx, q⟩ := h3
    obtain ⟨a, vs, rfl, s1, l1⟩ := asL_ok r3 e3 hx
    refine .inr ⟨_, _, rfl, s1, fun p hp => ?_⟩
    obtain ⟨r4, g4⟩ := r3.new (o := .lst _) hp
    exact t _ _ _ _ _ _ (g.trans g4) r4 (.lst upd_same ((cut_den l1 _ _).go g4)) q
/-- .. that will be changed -/
def sSlM (sa : SE) (l h : SO) : SE := fun ρ M Q => sa ρ M fun x M1 => l ρ M1 fun lo M2 => h ρ M2 fun hi M3 => ∃ xs, asL M3 x = some xs ∧ Q (.ref M3.length) (M3 ++ [.lst (cutD xs lo hi)])
theorem je_sliceM {lo hi : Option Expr} {l h : SO} {p2 : Pos} (ha : JE c X a sa) (hl : JO c X lo l) (hh : JO c X hi h) : JE c X (.Subscript a (.Slice lo hi none p2) pos) (sSlM sa l h) := by
  obtain ⟨ta, pa, za⟩ := ha
  obtain ⟨tl, pl, zl⟩ := hl
  obtain ⟨th, ph, zh⟩ := hh
  refine ⟨_, pe_slice sl_list pa pl ph, fun B loc M H σ ρ Q Qd A hs t => za B loc M H σ ρ _ _ A hs fun d1 M1 v1 B1 l1 H1 g1 r1 e1 h1 =>
    zl B1 l1 M1 H1 σ ρ _ _ (A.on g1 r1) h1 fun o1 M2 B2 l2 H2 g2 r2 h2 => zh B2 l2 M2 H2 σ ρ _ _ (A.on (g1.trans g2) r2) h2 fun o2 M3 B3 l3 H3 g3 r3 h3 => ?_⟩
  obtain ⟨xs, hx, q⟩ := h3
  obtain ⟨a, vs, rfl, s1, l1⟩ := asL_ok r3 (e1.go (g2.trans g3)) hx
  refine ⟨_, _, rfl, s1, fun p hp => ?_⟩
  obtain ⟨r4, g4, d4⟩ := newM r3 hp (cut_den l1 o1 o2)
  exact t _ _ _ _ _ _ (((g1.trans g2).trans g3).trans g4) r4 d4 q
end
end J

namespace J
open PySem PySem.Spec PyProof.Rows L2
theorem Rel.extra {K : PySem.W.Frag} {B : Hp} {loc : List Addr} {M : Mem} {H : Hp} {p : Addr} {o : HO} (r : Rel K B loc M H) (h : H p = none) : Rel K B loc M (upd H p o) ∧ Go B loc H B loc (upd H p o) := by
  have sH : Same H (upd H p o) := same_new h
  refine ⟨⟨same_trans r.ext sH, r.len, fun i a m e1 e2 l => ?_, r.inj, fun a q => let ⟨o, e⟩ := r.all a q; ⟨o, sH a o e⟩⟩, ⟨fun _ _ e => e, List.prefix_rfl, fun a u e _ => sH a u e, fun a q => .inl q, fun _ _ e => .inl e⟩⟩
  obtain ⟨h1, h2⟩ := r.obj i a m e1 e2 l
  exact ⟨h1, h2.mono (fun _ _ e => e) List.prefix_rfl fun o e => sH a o e⟩
/-! ### calls of built-ins -/
section
variable {c : JC} {X : Cx} {a b e o : Expr} {es : List Expr} {pos p apos : Pos} {sa sb se so : SE} {sr : SA} {x : Str} {bid T : String}
def sCB (s : SN) (sr : SA) : SE := fun ρ M Q => sr ρ M fun ds M1 => s ds M1 Q
theorem je_callB {s : SN} (hc : JCall X (.builtin bid) s) (hg : Gl X x) (hm : X.mg x = none) (hv : bootBuiltins x = some (.builtin bid)) (ha : JA c X (e :: es) sr) (hn : x ≠ "__name__" := by decide) (hdb : (x == ("__debug__" : Str)) = false := by decide)
    (he : starEach (e :: es) X.env = (false, eval e X.env) :: starEach es X.env := by rfl) (hpl : (backTo pos (starEach es X.env)).any (·.1) = false := by rfl) : JE c X (.Call (.Name x p) (e :: es) [] pos) (sCB s sr) := by
  obtain ⟨r, cr, z⟩ := hc
  obtain ⟨t, pa, za⟩ := ha
  exact ⟨_, pe_callB cr hg hm hv pa hn hdb he hpl, fun B loc M H σ ρ Q Qd A hs t => za B loc M H σ ρ _ _ A hs fun ds M' vs B' l' H' g r e h =>
    z B' l' M' H' ds vs Q Qd r e h fun d M2 v B2 l2 H2 g2 r2 e2 h2 => t _ _ _ _ _ _ (g.trans g2) r2 e2 h2⟩
theorem je_callTy {s : SN} (hc : JCall X (.type T) s) (hg : Gl X x) (hm : X.mg x = none) (hv : bootBuiltins x = some (.type T)) (ha : JA c X (e :: es) sr) (hn : x ≠ "__name__" := by decide) (hdb : (x == ("__debug__" : Str)) = false := by decide)
    (he : starEach (e :: es) X.env = (false, eval e X.env) :: starEach es X.env := by rfl) (hpl : (backTo pos (starEach es X.env)).any (·.1) = false := by rfl) : JE c X (.Call (.Name x p) (e :: es) [] pos) (sCB s sr) := by
  obtain ⟨r, cr, z⟩ := hc
  obtain ⟨t, pa, za⟩ := ha
  exact ⟨_, pe_callTy cr hg hm hv pa hn hdb he hpl, fun B loc M H σ ρ Q Qd A hs t => za B loc M H σ ρ _ _ A hs fun ds M' vs B' l' H' g r e h =>
    z B' l' M' H' ds vs Q Qd r e h fun d M2 v B2 l2 H2 g2 r2 e2 h2 => t _ _ _ _ _ _ (g.trans g2) r2 e2 h2⟩
def sLen : SN := fun xs M Q => match xs with
  | [.str z] => z.length ≤ sizeLine ∧ Q (.int z.length) M
  | [.tup ds] => Q (.int ds.length) M
  | [x] => ∃ ds, asL M x = some ds ∧ Q (.int ds.length) M
  | _ => False
theorem jc_len : JCall X (.builtin "len") sLen := ⟨_, call_len, fun B loc M H xs vs Q Qd r d h t => by
  unfold sLen at h
  split at h
  · cases d with
    | cons d1 d2 =>
      cases d2; cases d1
      exact ⟨_, _, rfl, ⟨h.1, rfl⟩, t _ _ _ _ _ _ .refl r .int h.2⟩
  · cases d with
    | cons d1 d2 =>
      cases d2
      cases d1 with
      | tup s1 l1 => exact ⟨_, _, rfl, .inr ⟨_, same_t r.ext s1, rfl⟩, t _ _ _ _ _ _ .refl r .int (by rw [← l1.length]; exact h)⟩
  · obtain ⟨ds, hx, q⟩ := h
    cases d with
    | cons d1 d2 =>
      cases d2
      obtain ⟨a, vs, rfl, s1, l1⟩ := asL_ok r d1 hx
      exact ⟨_, _, rfl, .inl ⟨_, s1, rfl⟩, t _ _ _ _ _ _ .refl r .int (by rw [← l1.length]; exact q)⟩
  · exact h.elim⟩
def sMax2 : SN := fun xs M Q => match xs with
  | [.int i, .int j] => Q (.int (max i j)) M
  | _ => False
def sMin2 : SN := fun xs M Q => match xs with
  | [.int i, .int j] => Q (.int (min i j)) M
  | _ => False
theorem jc_max2 (hc : X.calm = true) : JCall X (.builtin "max") sMax2 := ⟨_, call_max2 hc, fun B loc M H xs vs Q Qd r d h t => by
  unfold sMax2 at h
  split at h
  · rename_i i j
    cases d with
    | cons d1 d2 =>
      cases d2 with
      | cons d2 d3 =>
        cases d3; cases d1; cases d2
        have e : (if j > i then j else i) = max i j := by omega
        exact ⟨i, j, rfl, by rw [e]; exact t _ _ _ _ _ _ .refl r .int h⟩
  · exact h.elim⟩
theorem jc_min2 (hc : X.calm = true) : JCall X (.builtin "min") sMin2 := ⟨_, call_min2 hc, fun B loc M H xs vs Q Qd r d h t => by
  unfold sMin2 at h
  split at h
  · rename_i i j
    cases d with
    | cons d1 d2 =>
      cases d2 with
      | cons d2 d3 =>
        cases d3; cases d1; cases d2
        have e : (if j < i then j else i) = min i j := by omega
        exact ⟨i, j, rfl, by rw [e]; exact t _ _ _ _ _ _ .refl r .int h⟩
  · exact h.elim⟩
def sAbs : SN := fun xs M Q => match xs with
  | [.int i] => Q (.int (if i < 0 then -i else i)) M
  | _ => False
theorem jc_abs : JCall X (.builtin "abs") sAbs := ⟨_, call_abs, fun B loc M H xs vs Q Qd r d h t => by
  unfold sAbs at h
  split at h
  · cases d with
    | cons d1 d2 =>
      cases d2; cases d1
      exact ⟨_, rfl, t _ _ _ _ _ _ .refl r .int h⟩
  · exact h.elim⟩
/-- int(..) of a number, a truth -/
def sInt : SN := fun xs M Q => match xs with
  | [.int i] => Q (.int i) M
  | [.bl k] => Q (.int (b2i k)) M
  | _ => False
theorem jc_int : JCall X (.type "int") sInt := ⟨_, call_int1, fun B loc M H xs vs Q Qd r d h t => by
  unfold sInt at h
  split at h
  · cases d with
    | cons d1 d2 =>
      cases d2; cases d1
      exact .inl ⟨_, rfl, t _ _ _ _ _ _ .refl r .int h⟩
  · cases d with
    | cons d1 d2 =>
      cases d2; cases d1
      exact .inr ⟨_, rfl, t _ _ _ _ _ _ .refl r .int h⟩
  · exact h.elim⟩
def sAll : SN := fun xs M Q => match xs with
  | [x] => ∃ bs : List Bool, asL M x = some (bs.map D.bl) ∧ Q (.bl (bs.all id)) M
  | _ => False
def sAny : SN := fun xs M Q => match xs with
  | [x] => ∃ bs : List Bool, asL M x = some (bs.map D.bl) ∧ Q (.bl (bs.any id)) M
  | _ => False
theorem jc_all (hc : X.calm = true) : JCall X (.builtin "all") sAll := ⟨_, cr_all hc, fun B loc M H xs vs Q Qd r d h t => by
  unfold sAll at h
  split at h
  · obtain ⟨bs, hx, q⟩ := h
    cases d with
    | cons d1 d2 =>
      cases d2
      obtain ⟨a, vs, rfl, s1, l1⟩ := asL_ok r d1 hx
      rw [l1.bls] at s1
      exact ⟨a, bs, rfl, s1, t _ _ _ _ _ _ .refl r .bl q⟩
  · exact h.elim⟩
theorem jc_any (hc : X.calm = true) : JCall X (.builtin "any") sAny := ⟨_, cr_any hc, fun B loc M H xs vs Q Qd r d h t => by
  unfold sAny at h
  split at h
  · obtain ⟨bs, hx, q⟩ := h
    cases d with
    | cons d1 d2 =>
      cases d2
      obtain ⟨a, vs, rfl, s1, l1⟩ := asL_ok r d1 hx
      rw [l1.bls] at s1
      exact ⟨a, bs, rfl, s1, t _ _ _ _ _ _ .refl r .bl q⟩
  · exact h.elim⟩
def sSum : SN := fun xs M Q => match xs with
  | [x] => ∃ ns : List Int, asL M x = some (ns.map D.int) ∧ Q (.int ns.sum) M
  | _ => False
theorem jc_sum (hc : X.calm = true) : JCall X (.builtin "sum") sSum := ⟨_, cr_sum hc, fun B loc M H xs vs Q Qd r d h t => by
  unfold sSum at h
  split at h
  · obtain ⟨bs, hx, q⟩ := h
    cases d with
    | cons d1 d2 =>
      cases d2
      obtain ⟨a, vs, rfl, s1, l1⟩ := asL_ok r d1 hx
      rw [l1.ints] at s1
      exact ⟨a, bs, rfl, s1, t _ _ _ _ _ _ .refl r .int q⟩
  · exact h.elim⟩
/-- list(..) of a list or a tuple: a new one; M: one of the store -/
def sList : SN := fun xs M Q => match xs with
  | [x] => ∃ ds, (asL M x = some ds ∨ asT x = some ds) ∧ Q (.lst ds) M
  | _ => False
def sListM : SN := fun xs M Q => match xs with
  | [x] => ∃ ds, (asL M x = some ds ∨ asT x = some ds) ∧ Q (.ref M.length) (M ++ [.lst ds])
  | _ => False
theorem jc_list : JCall X (.type "list") sList := ⟨_, call_list_of, fun B loc M H xs vs Q Qd r d h t => by
  unfold sList at h
  split at h
  · obtain ⟨ds, hx, q⟩ := h
    cases d with
    | cons d1 d2 =>
      cases d2
      rcases hx with hx | hx
      · obtain ⟨a, vs, rfl, s1, l1⟩ := asL_ok r d1 hx
        refine ⟨a, vs, rfl, .inl s1, fun p hp => ?_⟩
        obtain ⟨r4, g4⟩ := r.new (o := .lst vs) hp
        exact t _ _ _ _ _ _ g4 r4 (.lst upd_same (l1.go g4)) q
      · obtain ⟨a, vs, rfl, s1, l1⟩ := asT_ok r d1 hx
        refine ⟨a, vs, rfl, .inr s1, fun p hp => ?_⟩
        obtain ⟨r4, g4⟩ := r.new (o := .lst vs) hp
        exact t _ _ _ _ _ _ g4 r4 (.lst upd_same (l1.go g4)) q
  · exact h.elim⟩
theorem jc_listM : JCall X (.type "list") sListM := ⟨_, call_list_of, fun B loc M H xs vs Q Qd r d h t => by
  unfold sListM at h
  split at h
  · obtain ⟨ds, hx, q⟩ := h
    cases d with
    | cons d1 d2 =>
      cases d2
      rcases hx with hx | hx
      · obtain ⟨a, vs, rfl, s1, l1⟩ := asL_ok r d1 hx
        refine ⟨a, vs, rfl, .inl s1, fun p hp => ?_⟩
        obtain ⟨r4, g4, d4⟩ := newM r hp l1
        exact t _ _ _ _ _ _ g4 r4 d4 q
      · obtain ⟨a, vs, rfl, s1, l1⟩ := asT_ok r d1 hx
        refine ⟨a, vs, rfl, .inr s1, fun p hp => ?_⟩
        obtain ⟨r4, g4, d4⟩ := newM r hp l1
        exact t _ _ _ _ _ _ g4 r4 d4 q
  · exact h.elim⟩
/-! ### own functions -/
abbrev Ct := List D → Mem → SQ → (Addr → Mem → Prop) → Prop
def spD (K : PySem.W.Frag) (n : Nat) (ct : Ct) : Sp := fun vs H Q E => vs.length = n ∧ ∃ ds B loc M Qd Ed, Rel K B loc M H ∧ DenL K B loc ds vs ∧ ct ds M Qd Ed ∧ To K B loc H Qd Q ∧
  ∀ cl M' B' loc' H', Go B loc H B' loc' H' → Rel K B' loc' M' H' → Ed cl M' → E (.ref cl) none H'
abbrev FnJ (X : Cx) (k : Nat) (f : Addr) (fd : FuncData) (ps : List Str) (n : Nat) (ct : Ct) : Prop := FnOk X.prog X.w X.K X.mg X.base (L2.CX X.prog X.w) k f fd ps (spD X.K n ct)
def sCall (ct : Ct) (n : Nat) (Ed : Addr → Mem → Prop) (sr : SA) : SE := fun ρ M Q => sr ρ M fun ds M1 => ds.length = n ∧ ct ds M1 Q Ed
variable {k n : Nat} {f C : Addr} {fd : FuncData} {ps : List Str} {ct : Ct} {m : Str}
theorem je_call (jx : JX c X) (F : FnJ X k f fd ps n ct) (hr : Room k X.A) (hg : Gl X x) (hm : X.mg x = some (.ref f)) (hk : PySem.W.keepIn X.K (.ref f) = true) (hb : Binds X.K fd ps [])
    (ha : JA c X (e :: es) sr) (hdb : (x == ("__debug__" : Str)) = false := by decide) (he : starEach (e :: es) X.env = (false, eval e X.env) :: starEach es X.env := by rfl) (hpl : (backTo pos (starEach es X.env)).any (·.1) = false := by rfl) :
    JE c X (.Call (.Name x p) (e :: es) [] pos) (sCall ct n c.Ed sr) := by
  obtain ⟨t, pa, za⟩ := ha
  refine ⟨_, pe_call F hr hg hm hk hb .nil jx.pass pa hdb he hpl, fun B loc M H σ ρ Q Qd A hs t => za B loc M H σ ρ _ _ A hs fun ds M' vs B' l' H' g r e h => ?_⟩
  rw [List.append_nil]
  refine ⟨by rw [← e.length]; exact h.1, ds, B', l', M', Qd, c.Ed, r, e, h.2, fun d M2 v B2 l2 H2 g2 r2 e2 h2 => t _ _ _ _ _ _ (g.trans g2) r2 e2 h2, fun cl M2 B2 l2 H2 g2 r2 h2 => jx.ok _ _ _ _ _ ((A.go.trans g).trans g2) r2 h2⟩
theorem je_call0 (jx : JX c X) (F : FnJ X k f fd ps n ct) (hr : Room k X.A) (hg : Gl X x) (hm : X.mg x = some (.ref f)) (hk : PySem.W.keepIn X.K (.ref f) = true) (hb : Binds X.K fd ps [])
    (hdb : (x == ("__debug__" : Str)) = false := by decide) : JE c X (.Call (.Name x p) [] [] pos) (sCall ct n c.Ed sNil) := by
  refine ⟨_, pe_call0 F hr hg hm hk hb .nil jx.pass hdb, fun B loc M H σ ρ Q Qd A hs t => ?_⟩
  exact ⟨hs.1, [], B, loc, M, Qd, c.Ed, A.rel, .nil, hs.2, t, fun cl M2 B2 l2 H2 g2 r2 h2 => jx.ok _ _ _ _ _ (A.go.trans g2) r2 h2⟩
/-- o.m(..), o an instance of the class at C -/
def sMeth (C : Addr) (m : Str) (ct : Ct) (n : Nat) (Ed : Addr → Mem → Prop) (so : SE) (sr : SA) : SE := fun ρ M Q => so ρ M fun d M1 => match d with
  | .ref i => ∃ ks ds, M1[i]? = some (.ins C ks ds) ∧ m ∉ ks ∧ sr ρ M1 fun xs M2 => xs.length + 1 = n ∧ ct (.ref i :: xs) M2 Q Ed
  | _ => False
theorem DenO.fld {K : PySem.W.Frag} {B : Hp} {loc : List Addr} {H : Hp} {a C : Addr} {ks : List Str} {ds : List (Option D)} (h : DenO K B loc a H (.ins C ks ds)) : ∃ dx ws, H a = some (.ins C dx ws) ∧ DenF K B loc ks ds ws := let ⟨_, dx, ws, h1, h2⟩ := h; ⟨dx, ws, h1, h2⟩
theorem je_meth {pl : Sem Bool} (jx : JX c X) (ho : JE c X o so) (cl : Cls X.K C) (hm : Meth X.K C m f) (F : FnJ X k f fd ps n ct) (hr : Room k X.A) (hb : Binds X.K fd ps []) (ha : JA c X (e :: es) sr)
    (hst : starEach (e :: es) X.env = (false, eval e X.env) :: starEach es X.env := by rfl) (hpl : (backTo pos (starEach es X.env)).any (·.1) = false := by rfl)
    (ht : eval (.Call (.Attribute o m apos) (e :: es) [] pos) X.env = (do
      let ov ← eval o X.env
      standAt apos.atName
      let (f, first) ← holding [ov] (getMethod ov m pl)
      callWith pos f first (backTo pos (starEach (e :: es) X.env)) (backToKw pos (keywordEach [] X.env))) := by rfl) :
    JE c X (.Call (.Attribute o m apos) (e :: es) [] pos) (sMeth C m ct n c.Ed so sr) := by
  obtain ⟨tt, po, zo⟩ := ho
  obtain ⟨t, pa, za⟩ := ha
  refine ⟨_, pe_meth po cl hm F hr hb .nil jx.pass pa hst hpl ht, fun B loc M H σ ρ Q Qd A hs t => zo B loc M H σ ρ _ _ A hs fun d M1 v B1 l1 H1 g1 r1 e1 h1 => ?_⟩
  cases e1 with
  | ref hi =>
    obtain ⟨ks, ds, h2, h3, h4⟩ := h1
    obtain ⟨_, dn⟩ := r1.obj _ _ _ hi h2 trivial
    obtain ⟨dx, ws, h5, h6⟩ := dn.fld
    refine ⟨_, dx, ws, rfl, h5, h6.2.2.2 m h3, za B1 l1 M1 H1 σ ρ _ _ (A.on g1 r1) h4 fun xs M' vs B' l' H' g r e h => ?_⟩
    rw [List.append_nil]
    refine ⟨by rw [List.length_cons, ← e.length]; exact h.1, _, B', l', M', Qd, c.Ed, r, .cons (.ref (pre_get g.l hi)) e, h.2, fun d M2 v B2 l2 H2 g2 r2 e2 h2 => t _ _ _ _ _ _ ((g1.trans g).trans g2) r2 e2 h2, fun cl M2 B2 l2 H2 g2 r2 h2 => jx.ok _ _ _ _ _ (((A.go.trans g1).trans g).trans g2) r2 h2⟩
  | _ => exact h1.elim
theorem je_meth0 {pl : Sem Bool} (jx : JX c X) (ho : JE c X o so) (cl : Cls X.K C) (hm : Meth X.K C m f) (F : FnJ X k f fd ps n ct) (hr : Room k X.A) (hb : Binds X.K fd ps [])
    (ht : eval (.Call (.Attribute o m apos) [] [] pos) X.env = (do
      let ov ← eval o X.env
      standAt apos.atName
      let (f, first) ← holding [ov] (getMethod ov m pl)
      callWith pos f first (backTo pos (starEach [] X.env)) (backToKw pos (keywordEach [] X.env))) := by rfl) :
    JE c X (.Call (.Attribute o m apos) [] [] pos) (sMeth C m ct n c.Ed so sNil) := by
  obtain ⟨tt, po, zo⟩ := ho
  refine ⟨_, pe_meth0 po cl hm F hr hb .nil jx.pass ht, fun B loc M H σ ρ Q Qd A hs t => zo B loc M H σ ρ _ _ A hs fun d M1 v B1 l1 H1 g1 r1 e1 h1 => ?_⟩
  cases e1 with
  | ref hi =>
    obtain ⟨ks, ds, h2, h3, h4⟩ := h1
    obtain ⟨_, dn⟩ := r1.obj _ _ _ hi h2 trivial
    obtain ⟨dx, ws, h5, h6⟩ := dn.fld
    refine ⟨_, dx, ws, rfl, h5, h6.2.2.2 m h3, ?_⟩
    exact ⟨h4.1, _, B1, l1, M1, Qd, c.Ed, r1, .cons (.ref hi) .nil, h4.2, fun d M2 v B2 l2 H2 g2 r2 e2 h2 => t _ _ _ _ _ _ (g1.trans g2) r2 e2 h2, fun cl M2 B2 l2 H2 g2 r2 h2 => jx.ok _ _ _ _ _ ((A.go.trans g1).trans g2) r2 h2⟩
  | _ => exact h1.elim
/-- o.k, the i-th field -/
def sFld (C : Addr) (k : Str) (i : Nat) (so : SE) : SE := fun ρ M Q => so ρ M fun d M1 => match d with
  | .ref r => ∃ ks ds d', M1[r]? = some (.ins C ks ds) ∧ ks[i]? = some k ∧ ds[i]? = some (some d') ∧ Q d' M1
  | _ => False
theorem je_fld {kk : Str} (i : Nat) (ho : JE c X o so) (cl : Cls X.K C) (na : NoAttr X.K C kk) (hb : attributeBase o kk X.env (eval o X.env) = eval o X.env := by rfl) : JE c X (.Attribute o kk pos) (sFld C kk i so) := by
  obtain ⟨tt, po, zo⟩ := ho
  refine ⟨_, pe_fld po hb, fun B loc M H σ ρ Q Qd A hs t => zo B loc M H σ ρ _ _ A hs fun d M1 v B1 l1 H1 g1 r1 e1 h1 => ?_⟩
  cases e1 with
  | ref hi =>
    obtain ⟨ks, ds, d', h2, h3, h4, h5⟩ := h1
    obtain ⟨_, dn⟩ := r1.obj _ _ _ hi h2 trivial
    obtain ⟨dx, ws, h6, h7⟩ := dn.fld
    obtain ⟨v, h8, h9⟩ := h7.2.2.1 i _ _ h3 h4
    exact ⟨_, C, dx, ws, v, rfl, h6, cl, na, h8, t _ _ _ _ _ _ g1 r1 h9 h5⟩
  | _ => exact h1.elim
/-- C(..) -/
def sMake (C : Addr) (ks : List Str) (ct : Ct) (n : Nat) (Ed : Addr → Mem → Prop) (sr : SA) : SE := fun ρ M Q => sr ρ M fun xs M1 => xs.length + 1 = n ∧ (ks.length ≤ 900 ∧ ks.Nodup) ∧
  ct (.ref M1.length :: xs) (M1 ++ [.ins C ks (List.replicate ks.length none)]) (fun d M2 => isNonD d = true ∧ Q (.ref M1.length) M2) Ed
theorem cnt_rep : ∀ n : Nat, cnt (List.replicate n none) = 0
  | 0 => rfl
  | n + 1 => by rw [List.replicate_succ]; exact cnt_rep n
theorem rep_none {n i : Nat} {d : D} (e2 : (List.replicate n (none : Option D))[i]? = some (some d)) : False := by
  rw [List.getElem?_replicate] at e2
  split at e2 <;> cases e2
theorem je_make {ks : List Str} (jx : JX c X) (Mk_ : Mk X.K C f) (F : FnJ X k f fd ps n ct) (hr : Room (k + 1) X.A) (hg : Gl X x) (hm : X.mg x = some (.ref C)) (hb : Binds X.K fd ps [])
    (ha : JA c X (e :: es) sr) (hdb : (x == ("__debug__" : Str)) = false := by decide) (he : starEach (e :: es) X.env = (false, eval e X.env) :: starEach es X.env := by rfl) (hpl : (backTo pos (starEach es X.env)).any (·.1) = false := by rfl) :
    JE c X (.Call (.Name x p) (e :: es) [] pos) (sMake C ks ct n c.Ed sr) := by
  obtain ⟨t, pa, za⟩ := ha
  refine ⟨_, pe_make Mk_ F hr hg hm hb .nil jx.pass pa hdb he hpl, fun B loc M H σ ρ Q Qd A hs t => za B loc M H σ ρ _ _ A hs fun ds M' vs B' l' H' g r e h => ?_⟩
  intro a dx hna hnd hne
  rw [List.append_nil]
  obtain ⟨r1, g1⟩ := r.extra (o := .own a) hnd
  have hna1 : upd H' dx (.own a) a = none := by rw [upd_ne (Ne.symm hne)]; exact hna
  obtain ⟨r2, g2⟩ := r1.alloc (p := a) (ho := .ins C dx []) (o := .ins C ks (List.replicate ks.length none)) hna1 fun H2 h2 => ⟨h.2.1, dx, [], h2, by rw [List.length_replicate], by rw [cnt_rep]; exact Nat.le_refl _, fun i k d e1 e2 => (rep_none e2).elim, fun _ _ => rfl⟩
  have gg := g1.trans g2
  have hd : Den X.K B' (l' ++ [a]) (.ref M'.length) (.ref a) := .ref (by rw [← r.len]; exact get_snoc l' a)
  refine ⟨by rw [List.length_cons, ← e.length]; exact h.1, _, B', l' ++ [a], _, _, c.Ed, r2, .cons hd (e.go gg), h.2.2, fun d M2 v B2 l2 H2 g3 r3 e3 h3 => ?_, fun cl M2 B2 l2 H2 g3 r3 h3 => jx.ok _ _ _ _ _ (((A.go.trans g).trans gg).trans g3) r3 h3⟩
  refine ⟨?_, t _ _ _ _ _ _ ((g.trans gg).trans g3) r3 (hd.go g3) h3.2⟩
  have z := h3.1
  cases e3 <;> first | rfl | cases z
/-! ### methods of built-in types -/
def tyD (M : Mem) (T : String) : D → Prop
  | .str _ => T = "str"
  | .int _ => T = "int"
  | .lst _ => T = "list"
  | .scr _ => T = "list"
  | .ref i => match M[i]? with
    | some (.lst _) => T = "list"
    | some (.dic _) => T = "dict"
    | some (.rcd _ _) => T = "dict"
    | _ => False
  | _ => False
theorem tyD_ok {K : PySem.W.Frag} {B : Hp} {loc : List Addr} {M : Mem} {H : Hp} {d : D} {v : V} (r : Rel K B loc M H) (e : Den K B loc d v) (h : tyD M T d) : tyV K T v H := by
  cases e with
  | str => exact h
  | int => exact h
  | lst s _ => exact .inl ⟨h, _, SqL.of (r.ext _ _ s)⟩
  | scr s => exact .inl ⟨h, _, r.ext.seq s⟩
  | @ref i a hi =>
    unfold tyD at h
    cases q : M[i]? with
    | none => simp only [q] at h
    | some o =>
      simp only [q] at h
      cases o with
      | lst ys =>
        obtain ⟨_, vs, h1, _⟩ := r.obj i a _ hi q trivial
        exact .inl ⟨h, vs, SqL.of h1⟩
      | dic ys =>
        obtain ⟨_, vs, h1, _⟩ := r.obj i a _ hi q trivial
        exact .inr (.inr (.inl ⟨h, .inl ⟨vs, h1⟩⟩))
      | rcd ks ys =>
        obtain ⟨_, _, vs, h1, _⟩ := r.obj i a _ hi q trivial
        exact .inr (.inr (.inl ⟨h, .inl ⟨vs, h1⟩⟩))
      | _ => exact h.elim
  | _ => exact h.elim
abbrev SM := D → List D → Mem → SQ → Prop
def SimM (K : PySem.W.Frag) (r : V → List V → Hp → VK → Prop) (s : SM) : Prop := ∀ B loc M H x v xs vs Q Qd, Rel K B loc M H → Den K B loc x v → DenL K B loc xs vs → s x xs M Qd → To K B loc H Qd Q → r v vs H Q
def JMt (X : Cx) (bid : String) (s : SM) : Prop := ∃ r, MtR X bid r ∧ SimM X.K r s
def sBM (T : String) (s : SM) (so : SE) (sr : SA) : SE := fun ρ M Q => so ρ M fun d M1 => tyD M1 T d ∧ sr ρ M1 fun xs M2 => s d xs M2 Q
theorem je_bm0 {s : SM} {name : Str} (pa : PlainAttrs T) (slot : Slot T name bid) (hty : typeOf (.builtin bid) = pure (.type "method_descriptor")) (hm : JMt X bid s) (ho : JE c X o so)
    (hbase : attributeBase o name X.env (eval o X.env) = eval o X.env := by rfl) (hline : (apos.endLine == pos.line) = true := by rfl) : JE c X (.Call (.Attribute o name apos) [] [] pos) (sBM T s so sNil) := by
  obtain ⟨r, mr, z⟩ := hm
  obtain ⟨tt, po, zo⟩ := ho
  refine ⟨_, pe_bm0 pa slot hty mr po hbase hline, fun B loc M H σ ρ Q Qd A hs t => zo B loc M H σ ρ _ _ A hs fun d M1 v B1 l1 H1 g1 r1 e1 h1 => ⟨tyD_ok r1 e1 h1.1, ?_⟩⟩
  exact z B1 l1 M1 H1 d v [] [] Q Qd r1 e1 .nil h1.2 fun d M2 v B2 l2 H2 g2 r2 e2 h2 => t _ _ _ _ _ _ (g1.trans g2) r2 e2 h2
theorem je_bm {s : SM} {name : Str} (pa : PlainAttrs T) (slot : Slot T name bid) (hty : typeOf (.builtin bid) = pure (.type "method_descriptor")) (hm : JMt X bid s) (ho : JE c X o so) (ha : JA c X (e :: es) sr)
    (hbase : attributeBase o name X.env (eval o X.env) = eval o X.env := by rfl)
    (hfew : ((backTo pos (starEach (e :: es) X.env)).all (fun x => !x.1) && (backToKw pos (keywordEach [] X.env)).all (fun x => x.1.isSome)
      && decide ((e :: es).length + ([] : List Keyword).length + (if ([] : List Keyword).isEmpty then 0 else 1) < 30)) = true := by rfl)
    (hline : (apos.endLine == pos.line) = true := by rfl) (hs : starEach (e :: es) X.env = (false, eval e X.env) :: starEach es X.env := by rfl) (hplain : (backTo pos (starEach es X.env)).any (·.1) = false := by rfl) :
    JE c X (.Call (.Attribute o name apos) (e :: es) [] pos) (sBM T s so sr) := by
  obtain ⟨r, mr, z⟩ := hm
  obtain ⟨tt, po, zo⟩ := ho
  obtain ⟨ta, pa', za⟩ := ha
  refine ⟨_, pe_bm pa slot hty mr po pa' hbase hfew hline hs hplain, fun B loc M H σ ρ Q Qd A hs t => zo B loc M H σ ρ _ _ A hs fun d M1 v B1 l1 H1 g1 r1 e1 h1 => ⟨tyD_ok r1 e1 h1.1, ?_⟩⟩
  exact za B1 l1 M1 H1 σ ρ _ _ (A.on g1 r1) h1.2 fun xs M' vs B' l' H' g r e h => z B' l' M' H' d v xs vs Q Qd r (e1.go g) e h fun d M2 v B2 l2 H2 g2 r2 e2 h2 => t _ _ _ _ _ _ ((g1.trans g).trans g2) r2 e2 h2
/-- xs.append(e) -/
def sApp : SM := fun d xs M Q => match d, xs with
  | .ref i, [y] => ∃ ys, M[i]? = some (.lst ys) ∧ ys.length < sizeLine ∧ Q .non (M.set i (.lst (ys ++ [y])))
  | _, _ => False
theorem jm_app : JMt X "list.append" sApp := ⟨_, mt_append, fun B loc M H x v xs vs Q Qd r d1 d2 h t => by
  unfold sApp at h
  split at h
  · obtain ⟨ys, h1, h2, q⟩ := h
    obtain ⟨a, ws, rfl, hi, hH, l1⟩ := memL_ok r d1 h1
    cases d2 with
    | cons e1 e2 =>
      cases e2
      refine ⟨a, ws, _, rfl, rfl, hH, by rw [← l1.length]; exact h2, ?_⟩
      obtain ⟨r2, g2⟩ := r.put (o := .lst (ys ++ [_])) (ho := .lst (ws ++ [_])) hi h1 trivial fun H' h' => ⟨_, h', l1.append (.cons e1 .nil)⟩
      exact t _ _ _ _ _ _ g2 r2 .non q
  · exact h.elim⟩
/-- xs.clear() -/
def sClear : SM := fun d xs M Q => match d, xs with
  | .ref i, [] => ∃ ys, M[i]? = some (.lst ys) ∧ Q .non (M.set i (.lst []))
  | _, _ => False
theorem jm_clear : JMt X "list.clear" sClear := ⟨_, mt_clear, fun B loc M H x v xs vs Q Qd r d1 d2 h t => by
  unfold sClear at h
  split at h
  · obtain ⟨ys, h1, q⟩ := h
    obtain ⟨a, ws, rfl, hi, hH, l1⟩ := memL_ok r d1 h1
    cases d2
    refine ⟨a, ws, rfl, rfl, hH, ?_⟩
    obtain ⟨r2, g2⟩ := r.put (o := .lst []) (ho := .lst []) hi h1 trivial fun H' h' => ⟨_, h', .nil⟩
    exact t _ _ _ _ _ _ g2 r2 .non q
  · exact h.elim⟩
/-- sep.join(xs) -/
def sJoin : SM := fun d xs M Q => match d, xs with
  | .str a, [x] => ∃ ys : List Str, asL M x = some (ys.map D.str) ∧ (ys.map (·.length)).sum + ys.length * a.length ≤ 16777216 ∧ Q (.str (Txt.join a ys)) M
  | _, _ => False
theorem jm_join : JMt X "str.join" sJoin := ⟨_, mt_join, fun B loc M H x v xs vs Q Qd r d1 d2 h t => by
  unfold sJoin at h
  split at h
  · obtain ⟨ys, h1, h2, q⟩ := h
    cases d1
    cases d2 with
    | cons e1 e2 =>
      cases e2
      obtain ⟨a, vs, rfl, s1, l1⟩ := asL_ok r e1 h1
      rw [l1.strs] at s1
      exact ⟨_, a, ys, rfl, rfl, .inl s1, h2, t _ _ _ _ _ _ .refl r .str q⟩
  · exact h.elim⟩
end
end J

namespace J
open PySem PySem.Spec PyProof.Rows L2
/-! ### statements -/
abbrev ToS (K : PySem.W.Frag) (B : Hp) (loc : List Addr) (H : Hp) (nd : Rho → Mem → Prop) (n : L2.St → Hp → Prop) : Prop := ∀ ρ M' σ B' loc' H', Go B loc H B' loc' H' → Rel K B' loc' M' H' → EnvOk K B' loc' σ ρ → nd ρ M' → n σ H'
structure EndsOk (K : PySem.W.Frag) (D : Ends) (k : SK) (B : Hp) (loc : List Addr) (H : Hp) : Prop where
  nx : ToS K B loc H k.nx D.nx
  rt : To K B loc H k.rt D.rt
  bk : ToS K B loc H k.bk D.bk
  ct : ToS K B loc H k.ct D.ct
theorem To.go {K : PySem.W.Frag} {B B' : Hp} {loc loc' : List Addr} {H H' : Hp} {Qd : SQ} {Q : VK} (t : To K B loc H Qd Q) (g : Go B loc H B' loc' H') : To K B' loc' H' Qd Q := fun d M v B2 l2 H2 g2 r e h => t d M v B2 l2 H2 (g.trans g2) r e h
theorem ToS.go {K : PySem.W.Frag} {B B' : Hp} {loc loc' : List Addr} {H H' : Hp} {nd : Rho → Mem → Prop} {n : L2.St → Hp → Prop} (t : ToS K B loc H nd n) (g : Go B loc H B' loc' H') : ToS K B' loc' H' nd n := fun d M v B2 l2 H2 g2 r e h => t d M v B2 l2 H2 (g.trans g2) r e h
theorem EndsOk.go {K : PySem.W.Frag} {D : Ends} {k : SK} {B B' : Hp} {loc loc' : List Addr} {H H' : Hp} (e : EndsOk K D k B loc H) (g : Go B loc H B' loc' H') : EndsOk K D k B' loc' H' := ⟨ToS.go e.nx g, To.go e.rt g, ToS.go e.bk g, ToS.go e.ct g⟩
def JS (c : JC) (X : Cx) (st : Stmt) (ss : SS) : Prop :=
  ∃ ts, PS X st ts ∧ ∀ B loc M H σ ρ D k, At c X.K B loc M H σ ρ → ss k ρ M → EndsOk X.K D k B loc H → ts D σ H
def JSs (c : JC) (X : Cx) (st : List Stmt) (ss : SS) : Prop :=
  ∃ ts, PSs X st ts ∧ ∀ B loc M H σ ρ D k, At c X.K B loc M H σ ρ → ss k ρ M → EndsOk X.K D k B loc H → ts D σ H
def JG (c : JC) (X : Cx) (tg : Expr) (sg : SG) : Prop :=
  ∃ g, PG X tg g ∧ ∀ B loc M H σ ρ d v (Q : L2.St → Hp → Prop) (Qd : Rho → Mem → Prop), At c X.K B loc M H σ ρ → Den X.K B loc d v → sg d ρ M Qd → ToS X.K B loc H Qd Q → g v σ H Q
section
variable {c : JC} {X : Cx} {a b e o tg : Expr} {es : List Expr} {st : Stmt} {rest : List Stmt} {pos p : Pos} {sa sb se so : SE} {sr : SA} {x : Str} {s u : SS} {sg : SG}
def sSkip : SS := fun k ρ M => k.nx ρ M
def sSeq (s u : SS) : SS := fun k ρ M => s { k with nx := fun ρ' M' => u k ρ' M' } ρ M
theorem jss_nil : JSs c X [] sSkip := ⟨_, pss_nil, fun B loc M H σ ρ D k A h E => E.nx _ _ _ _ _ _ .refl A.rel A.env h⟩
theorem jss_cons (h1 : JS c X st s) (h2 : JSs c X rest u) : JSs c X (st :: rest) (sSeq s u) := by
  obtain ⟨t1, p1, z1⟩ := h1
  obtain ⟨t2, p2, z2⟩ := h2
  refine ⟨_, pss_cons p1 p2, fun B loc M H σ ρ D k A h E => z1 B loc M H σ ρ _ _ A h ⟨fun ρ' M' σ' B' l' H' g r e h' => ?_, E.rt, E.bk, E.ct⟩⟩
  exact z2 B' l' M' H' σ' ρ' D k ⟨A.go.trans g, r, e⟩ h' (E.go g)
theorem jss_one (h1 : JS c X st s) : JSs c X [st] s := by
  obtain ⟨t1, p1, z1⟩ := h1
  exact ⟨_, pss_one p1, z1⟩
theorem js_pass : JS c X (.Pass pos) sSkip := ⟨_, ps_pass, fun B loc M H σ ρ D k A h E => E.nx _ _ _ _ _ _ .refl A.rel A.env h⟩
def sBrk : SS := fun k ρ M => k.bk ρ M
def sCnt : SS := fun k ρ M => k.ct ρ M
theorem js_break : JS c X (.Break pos) sBrk := ⟨_, ps_break, fun B loc M H σ ρ D k A h E => E.bk _ _ _ _ _ _ .refl A.rel A.env h⟩
theorem js_continue : JS c X (.Continue pos) sCnt := ⟨_, ps_continue, fun B loc M H σ ρ D k A h E => E.ct _ _ _ _ _ _ .refl A.rel A.env h⟩
def sExpr (se : SE) : SS := fun k ρ M => se ρ M fun _ M' => k.nx ρ M'
theorem js_expr (he : JE c X e se) (hs : swapsWith e none pos.line X.env = pure false := by rfl) : JS c X (.Expr e pos) (sExpr se) := by
  obtain ⟨t, p, z⟩ := he
  exact ⟨_, ps_expr p hs, fun B loc M H σ ρ D k A h E => z B loc M H σ ρ _ _ A h fun d M' v B' l' H' g r e h' => E.nx _ _ _ _ _ _ g r (A.env.go g) h'⟩
def sRet (se : SE) : SS := fun k ρ M => se ρ M fun d M' => k.rt d M'
theorem js_ret (he : JE c X e se) : JS c X (.Return (some e) pos) (sRet se) := by
  obtain ⟨t, p, z⟩ := he
  exact ⟨_, ps_ret p, fun B loc M H σ ρ D k A h E => z B loc M H σ ρ _ _ A h E.rt⟩
def sRetN : SS := fun k _ M => k.rt .non M
theorem js_retN : JS c X (.Return none pos) sRetN := ⟨_, ps_retN, fun B loc M H σ ρ D k A h E => E.rt _ _ _ _ _ _ .refl A.rel .non h⟩
def sIfS (t : ST) (s u : SS) : SS := fun k ρ M => t ρ M fun b M' => (b = true → s k ρ M') ∧ (b = false → u k ρ M')
theorem js_if {cd : Expr} {xs ys : List Stmt} {t : ST} (hc : JT c X cd t) (ha : JSs c X xs s) (hb : JSs c X ys u) : JS c X (.If cd xs ys pos) (sIfS t s u) := by
  obtain ⟨tc, pc, zc⟩ := hc
  obtain ⟨t1, p1, z1⟩ := ha
  obtain ⟨t2, p2, z2⟩ := hb
  refine ⟨_, ps_if pc p1 p2, fun B loc M H σ ρ D k A h E => zc B loc M H σ ρ _ _ A h fun b M' B' l' H' g r h' => ?_⟩
  cases b with
  | true => exact iteT (z1 B' l' M' H' σ ρ D k (A.on g r) (h'.1 rfl) (E.go g))
  | false => exact iteF (z2 B' l' M' H' σ ρ D k (A.on g r) (h'.2 rfl) (E.go g))
/-! ### targets, assignments -/
def gVar (i : Nat) : SG := fun d ρ M Q => Q (ρ.set i (some d)) M
theorem jg_name {i : Nat} (hN : X.N.Nodup) (hi : X.N[i]? = some x) (hx : Loc X.env.scope x) (hf : X.fn x = true ∨ X.env.scope.names.lookup x = some .local := by first | exact .inl rfl | exact .inr rfl | assumption) : JG c X (.Name x pos) (gVar i) :=
  ⟨_, pg_name hN hi hx hf, fun B loc M H σ ρ d v Q Qd A e h t => t _ _ _ _ _ _ .refl A.rel (A.env.set e i) h⟩
abbrev SGs := List D → Rho → Mem → (Rho → Mem → Prop) → Prop
def JGs (c : JC) (X : Cx) (ts : List Expr) (sg : SGs) : Prop :=
  ∃ g, PGs X ts g ∧ ∀ B loc M H σ ρ ds vs (Q : L2.St → Hp → Prop) (Qd : Rho → Mem → Prop), At c X.K B loc M H σ ρ → DenL X.K B loc ds vs → sg ds ρ M Qd → ToS X.K B loc H Qd Q → g vs σ H Q
def gsNil : SGs := fun ds ρ M Q => match ds with
  | [] => Q ρ M
  | _ => False
def gsCons (g : SG) (r : SGs) : SGs := fun ds ρ M Q => match ds with
  | d :: ds => g d ρ M fun ρ' M' => r ds ρ' M' Q
  | _ => False
theorem jgs_nil : JGs c X [] gsNil := ⟨_, pgs_nil, fun B loc M H σ ρ ds vs Q Qd A e h t => by
  cases e with
  | nil => exact ⟨rfl, t _ _ _ _ _ _ .refl A.rel A.env h⟩
  | cons _ _ => exact h.elim⟩
theorem jgs_cons {g : SG} {r : SGs} (h1 : JG c X e g) (h2 : JGs c X es r) (hst : (assignEach (e :: es) X.env).map (·.2) = assign e X.env :: (assignEach es X.env).map (·.2) := by rfl) : JGs c X (e :: es) (gsCons g r) := by
  obtain ⟨g1, p1, z1⟩ := h1
  obtain ⟨g2, p2, z2⟩ := h2
  refine ⟨_, pgs_cons p1 p2 hst, fun B loc M H σ ρ ds vs Q Qd A e h t => ?_⟩
  cases e with
  | nil => exact h.elim
  | cons e1 e2 =>
    exact ⟨_, _, rfl, z1 B loc M H σ ρ _ _ _ _ A e1 h fun ρ' M' σ' B' l' H' g r e h' => z2 B' l' M' H' σ' ρ' _ _ Q Qd ⟨A.go.trans g, r, e⟩ (e2.go g) h' (ToS.go t g)⟩
/-- a, b, .. = a tuple of that length -/
def gTupD (n : Nat) (r : SGs) : SG := fun d ρ M Q => match d with
  | .tup ds => ds.length = n ∧ r ds ρ M Q
  | _ => False
theorem jg_tup {es : List Expr} {kk n : Nat} {r : SGs} (hc : X.calm = true) (h : JGs c X es r) (hn : (assignEach es X.env).length = n := by rfl) (hst : (assignEach es X.env).findIdx? (·.1) = none := by rfl) : JG c X (.Tuple es kk pos) (gTupD n r) := by
  obtain ⟨g1, p1, z1⟩ := h
  refine ⟨_, pg_tup hc p1 hn hst, fun B loc M H σ ρ d v Q Qd A e h t => ?_⟩
  cases e with
  | tup s1 l1 => exact ⟨_, _, rfl, same_t A.rel.ext s1, by rw [← l1.length]; exact h.1, z1 B loc M H σ ρ _ _ Q Qd A l1 h.2 t⟩
  | _ => exact h.elim
/-- a changing list's item -/
def gSet (so si : SE) : SG := fun d ρ M Q => so ρ M fun x M1 => si ρ M1 fun y M2 => match x, y with
  | .ref r, .int i => ∃ xs j, M2[r]? = some (.lst xs) ∧ ixN xs.length i = some j ∧ Q ρ (M2.set r (.lst (xs.set j d)))
  | _, _ => False
theorem jg_sub {i : Expr} {si : SE} (ho : JE c X o so) (hi : JE c X i si)
    (ha : ∀ v, assign (.Subscript o i pos) X.env v = (do
      let ov ← holding [v] (eval o X.env)
      let iv ← holding [v, ov] (eval i X.env)
      standAt pos
      holding [v, ov, iv] (setItem ov iv v)
      release [v, ov, iv] []) := by intro _; rfl) : JG c X (.Subscript o i pos) (gSet so si) := by
  obtain ⟨t1, p1, z1⟩ := ho
  obtain ⟨t2, p2, z2⟩ := hi
  refine ⟨_, pg_sub p1 p2 set_list ha, fun B loc M H σ ρ d v Q Qd A e h t => z1 B loc M H σ ρ _ _ A h fun d1 M1 v1 B1 l1 H1 g1 r1 e1 h1 => z2 B1 l1 M1 H1 σ ρ _ _ (A.on g1 r1) h1 fun d2 M2 v2 B2 l2 H2 g2 r2 e2 h2 => ?_⟩
  split at h2
  · obtain ⟨xs, j, h3, h4, q⟩ := h2
    obtain ⟨a, vs, rfl, hi, hH, hl⟩ := memL_ok r2 (e1.go g2) h3
    cases e2
    refine ⟨a, vs, _, j, rfl, rfl, hH, by rw [← hl.length]; exact h4, ?_⟩
    obtain ⟨r3, g3⟩ := r2.put (o := .lst (xs.set j d)) (ho := .lst (vs.set j v)) hi h3 trivial fun H' h' => ⟨_, h', hl.set ((e.go (g1.trans g2))) j⟩
    have gg := (g1.trans g2).trans g3
    exact t _ _ _ _ _ _ gg r3 (A.env.go gg) q
  · exact h2.elim
def sAsg (se : SE) (sg : SG) : SS := fun k ρ M => se ρ M fun d M' => sg d ρ M' k.nx
theorem js_asg (he : JE c X e se) (hg : JG c X tg sg) (hs : swapsWithSole [tg] e pos.line X.env = pure false := by rfl) (hw : swappedStores [tg] e X.env = pure none := by rfl)
    (h1 : (assignEach [tg] X.env).map (·.2) = [assign tg X.env] := by rfl) : JS c X (.Assign [tg] e pos) (sAsg se sg) := by
  obtain ⟨t, p, z⟩ := he
  obtain ⟨g1, p1, z1⟩ := hg
  exact ⟨_, ps_asg p p1 hs hw h1, fun B loc M H σ ρ D k A h E => z B loc M H σ ρ _ _ A h fun d M' v B' l' H' g r e h' => z1 B' l' M' H' σ ρ d v _ _ (A.on g r) e h' (ToS.go E.nx g)⟩
theorem js_set {i : Nat} {pos' : Pos} (hN : X.N.Nodup) (hi : X.N[i]? = some x) (hx : Loc X.env.scope x) (he : JE c X e se) (hs : swapsWith e (some (.Name x pos')) pos.line X.env = pure false := by rfl) (hf : X.fn x = true ∨ X.env.scope.names.lookup x = some .local := by first | exact .inl rfl | exact .inr rfl | assumption) :
    JS c X (.Assign [.Name x pos'] e pos) (sAsg se (gVar i)) := by
  obtain ⟨t, p, z⟩ := he
  exact ⟨_, ps_set hN hi hx p hs hf, fun B loc M H σ ρ D k A h E => z B loc M H σ ρ _ _ A h fun d M' v B' l' H' g r e h' => E.nx _ _ _ _ _ _ g r ((A.env.go g).set e i) h'⟩
/-- a, b = x, y -/
def sPar (i j : Nat) (sr : SA) : SS := fun k ρ M => sr ρ M fun ds M' => match ds with
  | [d, e] => k.nx ((ρ.set i (some d)).set j (some e)) M'
  | _ => False
theorem js_par {i j : Nat} {y : Str} {px py pt : Pos} {kt k2 pt2} (hc : X.calm = true) (hN : X.N.Nodup) (hi : X.N[i]? = some x) (hj : X.N[j]? = some y) (hij : i ≠ j)
    (hx : X.env.scope.names.lookup x = some .local) (hy : X.env.scope.names.lookup y = some .local) (ha : JA c X [a, b] sr) (hw : swappedStores [.Tuple [.Name x px, .Name y py] kt pt] (.Tuple [a, b] k2 pt2) X.env = pure (some [x, y]))
    (hs : swapsWithSole [.Tuple [.Name x px, .Name y py] kt pt] (.Tuple [a, b] k2 pt2) pos.line X.env = pure false := by rfl) :
    JS c X (.Assign [.Tuple [.Name x px, .Name y py] kt pt] (.Tuple [a, b] k2 pt2) pos) (sPar i j sr) := by
  obtain ⟨t, p, z⟩ := ha
  refine ⟨_, ps_par hc hN hi hj hij hx hy p hw hs, fun B loc M H σ ρ D k A h E => z B loc M H σ ρ _ _ A h fun ds M' vs B' l' H' g r e h' => ?_⟩
  split at h'
  · cases e with
    | cons e1 e2 =>
      cases e2 with
      | cons e2 e3 =>
        cases e3
        exact ⟨_, _, rfl, E.nx _ _ _ _ _ _ g r (((A.env.go g).set e1 i).set e2 j) h'⟩
  · exact h'.elim
def sPar3 (i j l : Nat) (sr : SA) : SS := fun k ρ M => sr ρ M fun ds M' => match ds with
  | [d, e, f] => k.nx (((ρ.set i (some d)).set j (some e)).set l (some f)) M'
  | _ => False
theorem js_par3 {i j l : Nat} {y z : Str} {d : Expr} {px py pz pt : Pos} {kt k2 pt2} (hc : X.calm = true) (hN : X.N.Nodup) (hi : X.N[i]? = some x) (hj : X.N[j]? = some y) (hl : X.N[l]? = some z) (hij : i ≠ j) (hil : i ≠ l) (hjl : j ≠ l)
    (hx : X.env.scope.names.lookup x = some .local) (hy : X.env.scope.names.lookup y = some .local) (hz : X.env.scope.names.lookup z = some .local) (ha : JA c X [a, b, d] sr)
    (hw : swappedStores [.Tuple [.Name x px, .Name y py, .Name z pz] kt pt] (.Tuple [a, b, d] k2 pt2) X.env = pure (some [x, y, z]))
    (hs : swapsWithSole [.Tuple [.Name x px, .Name y py, .Name z pz] kt pt] (.Tuple [a, b, d] k2 pt2) pos.line X.env = pure false := by rfl) :
    JS c X (.Assign [.Tuple [.Name x px, .Name y py, .Name z pz] kt pt] (.Tuple [a, b, d] k2 pt2) pos) (sPar3 i j l sr) := by
  obtain ⟨t, p, zz⟩ := ha
  refine ⟨_, ps_par3 hc hN hi hj hl hij hil hjl hx hy hz p hw hs, fun B loc M H σ ρ D k A h E => zz B loc M H σ ρ _ _ A h fun ds M' vs B' l' H' g r e h' => ?_⟩
  split at h'
  · cases e with
    | cons e1 e2 =>
      cases e2 with
      | cons e2 e3 =>
        cases e3 with
        | cons e3 e4 =>
          cases e4
          exact ⟨_, _, _, rfl, E.nx _ _ _ _ _ _ g r ((((A.env.go g).set e1 i).set e2 j).set e3 l) h'⟩
  · exact h'.elim
/-- o.k = e, the i-th field -/
def sSetF (C : Addr) (kk : Str) (i : Nat) (so se : SE) : SS := fun k ρ M => se ρ M fun y M1 => so ρ M1 fun x M2 => match x with
  | .ref r => ∃ ks ds, M2[r]? = some (.ins C ks ds) ∧ ks[i]? = some kk ∧ k.nx ρ (M2.set r (.ins C ks (ds.set i (some y))))
  | _ => False
theorem putF_length (f : Str) (v : V) : ∀ fs : List (Str × V), (putF f v fs).length = fs.length + (if (fs.lookup f).isSome then 0 else 1)
  | [] => rfl
  | (g, w) :: r => by
    by_cases h : g = f
    · subst h
      have e1 : putF g v ((g, w) :: r) = (g, v) :: r := if_pos rfl
      have e2 : List.lookup g ((g, w) :: r) = some w := by simp [List.lookup]
      rw [e1, e2]; rfl
    · have e1 : putF f v ((g, w) :: r) = (g, w) :: putF f v r := if_neg h
      have e2 : List.lookup f ((g, w) :: r) = List.lookup f r := by
        have : (f == g) = false := beq_eq_false_iff_ne.mpr (Ne.symm h)
        simp [List.lookup, this]
      rw [e1, e2, List.length_cons, List.length_cons, putF_length f v r]
      omega
theorem DenF.put {K : PySem.W.Frag} {B : Hp} {loc : List Addr} {ks : List Str} {ds : List (Option D)} {ws : List (Str × V)} {i : Nat} {k : Str} {d : D} {v : V} (h : DenF K B loc ks ds ws) (nd : ks.Nodup) (hk : ks[i]? = some k) (e : Den K B loc d v) :
    DenF K B loc ks (ds.set i (some d)) (putF k v ws) := by
  obtain ⟨h1, h2, h3, h4⟩ := h
  have hi : i < ds.length := by rw [h1]; exact (List.getElem?_eq_some_iff.mp hk).1
  obtain ⟨x, hx⟩ : ∃ x, ds[i]? = some x := ⟨_, List.getElem?_eq_getElem hi⟩
  refine ⟨by rw [List.length_set]; exact h1, ?_, fun j k' d' e1 e2 => ?_, fun k' hn => ?_⟩
  · rw [putF_length, cnt_set d ds i x hx]
    cases x with
    | none =>
      show _ ≤ cnt ds + 1
      split <;> omega
    | some y =>
      obtain ⟨v', h5, _⟩ := h3 i k y hk hx
      rw [h5]
      exact h2
  · rw [lookup_putF]
    by_cases hj : i = j
    · subst hj
      rw [List.getElem?_set_self hi] at e2
      cases e2
      rw [hk] at e1
      cases e1
      exact ⟨v, if_pos rfl, e⟩
    · rw [List.getElem?_set_ne hj] at e2
      obtain ⟨v', h5, h6⟩ := h3 j k' d' e1 e2
      have : k' ≠ k := fun z => hj (nodup_ix nd hk (z ▸ e1))
      exact ⟨v', by rw [if_neg this]; exact h5, h6⟩
  · rw [lookup_putF, if_neg (fun z => hn (by rw [z]; exact List.mem_of_getElem? hk))]
    exact h4 k' hn
theorem js_fld {C : Addr} {kk : Str} {pos' : Pos} (i : Nat) (ho : JE c X o so) (he : JE c X e se) (cl : Cls X.K C) (na : NoAttr X.K C kk) (hs : swapsWith e (some (.Attribute o kk pos')) pos.line X.env = pure false := by rfl) : JS c X (.Assign [.Attribute o kk pos'] e pos) (sSetF C kk i so se) := by
  obtain ⟨t1, p1, z1⟩ := ho
  obtain ⟨t2, p2, z2⟩ := he
  refine ⟨_, ps_fld p1 p2 hs, fun B loc M H σ ρ D k A h E => z2 B loc M H σ ρ _ _ A h fun d1 M1 v1 B1 l1 H1 g1 r1 e1 h1 => z1 B1 l1 M1 H1 σ ρ _ _ (A.on g1 r1) h1 fun d2 M2 v2 B2 l2 H2 g2 r2 e2 h2 => ?_⟩
  cases e2 with
  | ref hi =>
    obtain ⟨ks, ds, h3, h4, q⟩ := h2
    obtain ⟨_, dn⟩ := r2.obj _ _ _ hi h3 trivial
    obtain ⟨⟨hz, nd⟩, dx, ws, h6, h7⟩ := dn
    have hc := cnt_le ds
    have hl : ws.length < 1000 := by have := h7.1; have := h7.2.1; omega
    refine ⟨_, C, dx, ws, rfl, h6, cl, na, hl, ?_⟩
    obtain ⟨r3, g3⟩ := r2.put (o := .ins C ks (ds.set i (some d1))) (ho := .ins C dx (putF kk v1 ws)) hi h3 trivial fun H' h' => ⟨⟨hz, nd⟩, dx, _, h', h7.put nd h4 (e1.go g2)⟩
    have gg := (g1.trans g2).trans g3
    exact E.nx _ _ _ _ _ _ gg r3 (A.env.go gg) q
  | _ => exact h2.elim
end
end J

namespace J
open PySem PySem.Spec PyProof.Rows L2
/-! ### what is walked -/
/-- J tells the items, while st holds of the store -/
def ItOk (K : PySem.W.Frag) (B : Hp) (loc : List Addr) (H : Hp) (J : It) (items : List D) (st : Mem → Prop) : Prop := ∀ (i : Nat) B' loc' M' H', Go B loc H B' loc' H' → Rel K B' loc' M' H' → st M' →
  (∀ d, items[i]? = some d → J.go i H' ∧ ∀ x H2, J.yld i H' x H2 → ∃ B2, Go B' loc' H' B2 loc' H2 ∧ Rel K B2 loc' M' H2 ∧ Den K B2 loc' d x) ∧ (items.length ≤ i → J.stop i H')
def JI (c : JC) (X : Cx) (tg iter : Expr) (si : SI) : Prop :=
  ∃ wi, PI X tg iter wi ∧ ∀ B loc M H σ ρ (R : It → Hp → Prop) (Qd : List D → (Mem → Prop) → Mem → Prop), At c X.K B loc M H σ ρ → si ρ M Qd →
    (∀ items st M' J B' loc' H', Go B loc H B' loc' H' → Rel X.K B' loc' M' H' → ItOk X.K B' loc' H' J items st → Qd items st M' → R J H') → wi σ H R
section
variable {c : JC} {X : Cx} {a b e o tg : Expr} {es : List Expr} {pos p : Pos} {sa sb se so : SE} {sr : SA} {x : Str}
/-- a list (a changing one must stay meanwhile) -/
def iSeq (se : SE) : SI := fun ρ M Q => se ρ M fun d M1 => match d with
  | .lst xs => Q xs (fun _ => True) M1
  | .ref r => ∃ xs, M1[r]? = some (.lst xs) ∧ Q xs (fun M => M[r]? = some (.lst xs)) M1
  | .scr ns => Q (ns.map D.int) (fun _ => True) M1
  | _ => False
def iTupD (se : SE) : SI := fun ρ M Q => se ρ M fun d M1 => match d with
  | .tup xs => Q xs (fun _ => True) M1
  | _ => False
def iStrD (se : SE) : SI := fun ρ M Q => se ρ M fun d M1 => match d with
  | .str z => Q (z.cps.toList.map fun c => .str ⟨#[c]⟩) (fun _ => True) M1
  | _ => False
theorem it_list {K : PySem.W.Frag} {B : Hp} {loc : List Addr} {H : Hp} {a : Addr} {xs : List D} {vs : List V} {st : Mem → Prop} (l : DenL K B loc xs vs) (h : ∀ B' loc' M' H', Go B loc H B' loc' H' → Rel K B' loc' M' H' → st M' → ∃ ws, SqL K H' a ws ∧ DenL K B' loc' xs ws) :
    ItOk K B loc H (Itl K a) xs st := fun i B' loc' M' H' g r s => by
  obtain ⟨ws, h1, h2⟩ := h B' loc' M' H' g r s
  refine ⟨fun d hd => ?_, fun hi => ⟨ws, h1, by rw [← h2.length]; exact hi⟩⟩
  obtain ⟨w, h3, h4⟩ := h2.get hd
  refine ⟨⟨ws, w, h1, h3⟩, fun x H2 y => ?_⟩
  obtain ⟨rfl, y⟩ := y
  have := y ws h1
  rw [h3] at this
  cases this
  exact ⟨B', .refl, r, h4⟩
theorem it_tup {K : PySem.W.Frag} {B : Hp} {loc : List Addr} {H : Hp} {a : Addr} {xs : List D} {vs : List V} {st : Mem → Prop} (s1 : SqT K B a vs) (l : DenL K B loc xs vs) : ItOk K B loc H (Itt K a) xs st := fun i B' loc' M' H' g r s => by
  have h1 : SqT K H' a vs := same_t (same_trans g.b r.ext) s1
  have h2 := l.go g
  refine ⟨fun d hd => ?_, fun hi => ⟨vs, h1, by rw [← h2.length]; exact hi⟩⟩
  obtain ⟨w, h3, h4⟩ := h2.get hd
  refine ⟨⟨vs, w, h1, h3⟩, fun x H2 y => ?_⟩
  obtain ⟨rfl, y⟩ := y
  have := y vs h1
  rw [h3] at this
  cases this
  exact ⟨B', .refl, r, h4⟩
theorem it_str {K : PySem.W.Frag} {B : Hp} {loc : List Addr} {H : Hp} {z : Str} {st : Mem → Prop} : ItOk K B loc H (Its z) (z.cps.toList.map fun c => .str ⟨#[c]⟩) st := fun i B' loc' M' H' g r s => by
  refine ⟨fun d hd => ?_, fun hi => by rw [List.length_map, Array.length_toList] at hi; exact hi⟩
  rw [List.getElem?_map, Array.getElem?_toList] at hd
  cases q : z.cps[i]? with
  | none => rw [q] at hd; cases hd
  | some ch =>
    rw [q] at hd
    cases hd
    refine ⟨(Array.getElem?_eq_some_iff.mp q).1, fun x H2 y => ?_⟩
    obtain ⟨rfl, c', h1, rfl⟩ := y
    rw [q] at h1
    cases h1
    exact ⟨B', .refl, r, .str⟩
theorem ji_list (he : JE c X e se) : JI c X tg e (iSeq se) := by
  obtain ⟨t, pe, z⟩ := he
  refine ⟨_, pi_list pe, fun B loc M H σ ρ R Qd A hs q => z B loc M H σ ρ _ _ A hs fun d M1 v B1 l1 H1 g1 r1 e1 h1 => ?_⟩
  cases e1 with
  | lst s1 dl =>
    refine ⟨_, rfl, ⟨_, SqL.of (r1.ext _ _ s1)⟩, q _ _ _ _ _ _ _ g1 r1 (it_list dl fun B' l' M' H' g r _ => ⟨_, SqL.of (r.ext _ _ (g.b _ _ s1)), dl.go g⟩) h1⟩
  | scr s1 =>
    refine ⟨_, rfl, ⟨_, r1.ext.seq s1⟩, q _ _ _ _ _ _ _ g1 r1 (it_list (denL_ints _) fun B' l' M' H' g r _ => ⟨_, r.ext.seq (g.b.seq s1), denL_ints _⟩) h1⟩
  | ref hi =>
    obtain ⟨xs, h2, h3⟩ := h1
    obtain ⟨_, vs, h4, dl⟩ := r1.obj _ _ _ hi h2 trivial
    refine ⟨_, rfl, ⟨_, SqL.of h4⟩, q _ _ _ _ _ _ _ g1 r1 (it_list dl fun B' l' M' H' g r s => ?_) h3⟩
    obtain ⟨_, ws, h5, dw⟩ := r.obj _ _ _ (pre_get g.l hi) s trivial
    exact ⟨ws, SqL.of h5, dw⟩
  | _ => exact h1.elim
theorem ji_tup (he : JE c X e se) : JI c X tg e (iTupD se) := by
  obtain ⟨t, pe, z⟩ := he
  refine ⟨_, pi_tup pe, fun B loc M H σ ρ R Qd A hs q => z B loc M H σ ρ _ _ A hs fun d M1 v B1 l1 H1 g1 r1 e1 h1 => ?_⟩
  cases e1 with
  | tup s1 dl => exact ⟨_, rfl, ⟨_, same_t r1.ext s1⟩, q _ _ _ _ _ _ _ g1 r1 (it_tup s1 dl) h1⟩
  | _ => exact h1.elim
theorem ji_str (he : JE c X e se) : JI c X tg e (iStrD se) := by
  obtain ⟨t, pe, z⟩ := he
  refine ⟨_, pi_str pe, fun B loc M H σ ρ R Qd A hs q => z B loc M H σ ρ _ _ A hs fun d M1 v B1 l1 H1 g1 r1 e1 h1 => ?_⟩
  cases e1 with
  | str => exact ⟨_, rfl, q _ _ _ _ _ _ _ g1 r1 it_str h1⟩
  | _ => exact h1.elim
/-- lo, lo + 1, .. below hi -/
def upTo (lo : Int) (n : Nat) : List D := (List.range n).map fun (i : Nat) => D.int (lo + (i : Int))
theorem upTo_get {lo : Int} {n i : Nat} {d : D} (h : (upTo lo n)[i]? = some d) : i < n ∧ d = .int (lo + (i : Int)) := by
  unfold upTo at h
  rw [List.getElem?_map] at h
  by_cases hi : i < n
  · rw [List.getElem?_range hi] at h
    exact ⟨hi, (Option.some.inj h).symm⟩
  · rw [List.getElem?_eq_none (by rw [List.length_range]; omega)] at h
    cases h
theorem it_rng {K : PySem.W.Frag} {B : Hp} {loc : List Addr} {H : Hp} {lo : Int} {n : Nat} {st : Mem → Prop} : ItOk K B loc H (Itr lo n) (upTo lo n) st := fun i B' loc' M' H' g r s => by
  refine ⟨fun d hd => ?_, fun hi => by unfold upTo at hi; rw [List.length_map, List.length_range] at hi; exact hi⟩
  obtain ⟨h1, rfl⟩ := upTo_get hd
  refine ⟨h1, fun x H2 y => ?_⟩
  obtain ⟨rfl, rfl⟩ := y
  exact ⟨B', .refl, r, .int⟩
def iRng1D (sr : SA) : SI := fun ρ M Q => sr ρ M fun ds M1 => match ds with
  | [.int j] => (-(2 ^ 62) ≤ j ∧ j < 2 ^ 62) ∧ Q (upTo 0 j.toNat) (fun _ => True) M1
  | _ => False
def iRng2D (sr : SA) : SI := fun ρ M Q => sr ρ M fun ds M1 => match ds with
  | [.int i, .int j] => (-(2 ^ 62) ≤ i ∧ i < 2 ^ 62 ∧ -(2 ^ 62) ≤ j ∧ j < 2 ^ 62) ∧ Q (upTo i (j - i).toNat) (fun _ => True) M1
  | _ => False
theorem ji_rng1 (hg : Gl X "range") (hm : X.mg "range" = none) (ha : JA c X [a] sr) (hs : starEach [a] X.env = [(false, eval a X.env)] := by rfl) : JI c X tg (.Call (.Name "range" p) [a] [] pos) (iRng1D sr) := by
  obtain ⟨t, pe, z⟩ := ha
  refine ⟨_, pi_range1 hg hm pe hs, fun B loc M H σ ρ R Qd A h q => z B loc M H σ ρ _ _ A h fun ds M1 vs B1 l1 H1 g1 r1 e1 h1 => ?_⟩
  split at h1
  · cases e1 with
    | cons e1 e2 =>
      cases e2; cases e1
      exact ⟨_, rfl, h1.1.1, h1.1.2, q _ _ _ _ _ _ _ g1 r1 it_rng h1.2⟩
  · exact h1.elim
theorem ji_rng2 (hg : Gl X "range") (hm : X.mg "range" = none) (ha : JA c X [a, b] sr) (hs : starEach [a, b] X.env = [(false, eval a X.env), (false, eval b X.env)] := by rfl) (hs2 : starEach [b] X.env = [(false, eval b X.env)] := by rfl) :
    JI c X tg (.Call (.Name "range" p) [a, b] [] pos) (iRng2D sr) := by
  obtain ⟨t, pe, z⟩ := ha
  refine ⟨_, pi_range2 hg hm pe hs hs2, fun B loc M H σ ρ R Qd A h q => z B loc M H σ ρ _ _ A h fun ds M1 vs B1 l1 H1 g1 r1 e1 h1 => ?_⟩
  split at h1
  · cases e1 with
    | cons e1 e2 =>
      cases e2 with
      | cons e2 e3 =>
        cases e3; cases e1; cases e2
        exact ⟨_, _, rfl, h1.1, q _ _ _ _ _ _ _ g1 r1 it_rng h1.2⟩
  · exact h1.elim
/-- lo, lo + s, .. -/
def byStep (lo s : Int) (n : Nat) : List D := (List.range n).map fun (i : Nat) => D.int (lo + (i : Int) * s)
theorem byStep_get {lo s : Int} {n i : Nat} {d : D} (h : (byStep lo s n)[i]? = some d) : i < n ∧ d = .int (lo + (i : Int) * s) := by
  unfold byStep at h
  rw [List.getElem?_map] at h
  by_cases hi : i < n
  · rw [List.getElem?_range hi] at h
    exact ⟨hi, (Option.some.inj h).symm⟩
  · rw [List.getElem?_eq_none (by rw [List.length_range]; omega)] at h
    cases h
theorem it_rngC {K : PySem.W.Frag} {B : Hp} {loc : List Addr} {H : Hp} {lo s : Int} {n : Nat} {st : Mem → Prop} : ItOk K B loc H (Itc lo s n) (byStep lo s n) st := fun i B' loc' M' H' g r _ => by
  refine ⟨fun d hd => ?_, fun hi => by unfold byStep at hi; rw [List.length_map, List.length_range] at hi; exact hi⟩
  obtain ⟨h1, rfl⟩ := byStep_get hd
  refine ⟨h1, fun x H2 y => ?_⟩
  obtain ⟨rfl, rfl⟩ := y
  exact ⟨B', .refl, r, .int⟩
def iRng3D (sr : SA) : SI := fun ρ M Q => sr ρ M fun ds M1 => match ds with
  | [.int i, .int j, .int s] => ∃ n, RgC i j s n ∧ Q (byStep i s n) (fun _ => True) M1
  | _ => False
theorem ji_rng3 {d : Expr} (hg : Gl X "range") (hm : X.mg "range" = none) (ha : JA c X [a, b, d] sr)
    (hs : starEach [a, b, d] X.env = (false, eval a X.env) :: starEach [b, d] X.env := by rfl) (hpl : (backTo pos (starEach [b, d] X.env)).any (·.1) = false := by rfl) : JI c X tg (.Call (.Name "range" p) [a, b, d] [] pos) (iRng3D sr) := by
  obtain ⟨t, pe, z⟩ := ha
  refine ⟨_, pi_range3 hg hm pe hs hpl, fun B loc M H σ ρ R Qd A h q => z B loc M H σ ρ _ _ A h fun ds M1 vs B1 l1 H1 g1 r1 e1 h1 => ?_⟩
  split at h1
  · cases e1 with
    | cons e1 e2 =>
      cases e2 with
      | cons e2 e3 =>
        cases e3 with
        | cons e3 e4 =>
          cases e4; cases e1; cases e2; cases e3
          obtain ⟨n, h2, h3⟩ := h1
          exact ⟨_, _, _, n, rfl, h2, q _ _ _ _ _ _ _ g1 r1 it_rngC h3⟩
  · exact h1.elim
/-- (0, x), (1, y), .. -/
def numbered : Nat → List D → List D
  | _, [] => []
  | n, x :: xs => .tup [.int (n : Int), x] :: numbered (n + 1) xs
theorem numbered_get : ∀ {xs : List D} {n i : Nat} {d : D}, (numbered n xs)[i]? = some d → ∃ y, xs[i]? = some y ∧ d = .tup [.int ((n + i : Nat) : Int), y]
  | [], _, _, _, h => by simp [numbered] at h
  | x :: xs, n, 0, d, h => by
    simp [numbered] at h
    exact ⟨x, rfl, h.symm⟩
  | x :: xs, n, i + 1, d, h => by
    obtain ⟨y, h1, h2⟩ := numbered_get (xs := xs) (n := n + 1) (i := i) (d := d) (by simpa [numbered] using h)
    exact ⟨y, by simpa using h1, by rw [h2]; congr 3; omega⟩
theorem numbered_length : ∀ (xs : List D) (n : Nat), (numbered n xs).length = xs.length
  | [], _ => rfl
  | _ :: xs, n => congrArg Nat.succ (numbered_length xs (n + 1))
theorem it_enum {K : PySem.W.Frag} {B : Hp} {loc : List Addr} {H : Hp} {a : Addr} {xs : List D} {vs : List V} {st : Mem → Prop} (l : DenL K B loc xs vs) (h : ∀ B' loc' M' H', Go B loc H B' loc' H' → Rel K B' loc' M' H' → st M' → ∃ ws, SqL K H' a ws ∧ DenL K B' loc' xs ws) :
    ItOk K B loc H (Ite K a) (numbered 0 xs) st := fun i B' loc' M' H' g r s => by
  obtain ⟨ws, h1, h2⟩ := h B' loc' M' H' g r s
  refine ⟨fun d hd => ?_, fun hi => ⟨ws, h1, by rw [← h2.length]; rw [numbered_length] at hi; exact hi⟩⟩
  obtain ⟨y, h3, rfl⟩ := numbered_get hd
  obtain ⟨w, h4, h5⟩ := h2.get h3
  refine ⟨⟨ws, w, h1, h4⟩, fun x H2 yl => ?_⟩
  obtain ⟨T, z, rfl, hT, rfl, h6⟩ := yl
  have := h6 ws h1
  rw [h4] at this
  cases this
  obtain ⟨r2, g2⟩ := r.new (o := .tup [.int (i : Nat), w]) hT
  refine ⟨_, g2, r2, .tup (SqT.of upd_same) (.cons ?_ (.cons (h5.go g2) .nil))⟩
  rw [Nat.zero_add]
  exact .int
def iEnumD (sr : SA) : SI := fun ρ M Q => sr ρ M fun ds M1 => match ds with
  | [.lst xs] => Q (numbered 0 xs) (fun _ => True) M1
  | [.ref r] => ∃ xs, M1[r]? = some (.lst xs) ∧ Q (numbered 0 xs) (fun M => M[r]? = some (.lst xs)) M1
  | _ => False
theorem ji_enum {elts : List Expr} {kk : Nat} {tpos : Pos} (hg : Gl X "enumerate") (hm : X.mg "enumerate" = none) (ha : JA c X [e] sr) (hs : starEach [e] X.env = [(false, eval e X.env)] := by rfl) :
    JI c X (.Tuple elts kk tpos) (.Call (.Name "enumerate" p) [e] [] pos) (iEnumD sr) := by
  obtain ⟨t, pe, z⟩ := ha
  refine ⟨_, pi_enum hg hm pe hs, fun B loc M H σ ρ R Qd A h q => z B loc M H σ ρ _ _ A h fun ds M1 vs B1 l1 H1 g1 r1 e1 h1 => ?_⟩
  split at h1
  · cases e1 with
    | cons e1 e2 =>
      cases e2
      cases e1 with
      | lst s1 dl => exact ⟨_, _, rfl, SqL.of (r1.ext _ _ s1), q _ _ _ _ _ _ _ g1 r1 (it_enum dl fun B' l' M' H' g r _ => ⟨_, SqL.of (r.ext _ _ (g.b _ _ s1)), dl.go g⟩) h1⟩
  · cases e1 with
    | cons e1 e2 =>
      cases e2
      cases e1 with
      | ref hi =>
        obtain ⟨xs, h2, h3⟩ := h1
        obtain ⟨_, vs, h4, dl⟩ := r1.obj _ _ _ hi h2 trivial
        refine ⟨_, _, rfl, SqL.of h4, q _ _ _ _ _ _ _ g1 r1 (it_enum dl fun B' l' M' H' g r s => ?_) h3⟩
        obtain ⟨_, ws, h5, dw⟩ := r.obj _ _ _ (pre_get g.l hi) s trivial
        exact ⟨ws, SqL.of h5, dw⟩
  · exact h1.elim
/-! ### loops -/
def loopS (st : Mem → Prop) (sg : SG) (sb : SS) (k : SK) : List D → Rho → Mem → Prop
  | [], ρ, M => st M ∧ k.nx ρ M
  | d :: r, ρ, M => st M ∧ sg d ρ M fun ρ1 M1 => sb { nx := loopS st sg sb k r, rt := k.rt, bk := k.nx, ct := loopS st sg sb k r } ρ1 M1
def sFor (si : SI) (sg : SG) (sb : SS) : SS := fun k ρ M => si ρ M fun items st M' => loopS st sg sb k items ρ M'
theorem js_for {iter : Expr} {body : List Stmt} {si : SI} {sg : SG} {sb : SS} (hp : PassesOwn (model X.prog X.w) X.A X.env X.xe) (hc : X.calm = true) (hi : JI c X tg iter si) (hg : JG c X tg sg) (hb : JSs c X body sb)
    (hs : ∀ x, foldedSetIterable iter X.env x = pure x := by intro _; rfl) : JS c X (.For tg iter body [] pos) (sFor si sg sb) := by
  obtain ⟨wi, p1, z1⟩ := hi
  obtain ⟨g, p2, z2⟩ := hg
  obtain ⟨tb, p3, z3⟩ := hb
  refine ⟨_, ps_for hp hc p1 p2 p3 hs, fun B loc M H σ ρ D k A h E => z1 B loc M H σ ρ _ _ A h fun items st M1 J B1 l1 H1 g1 r1 it h1 => ?_⟩
  let Wn : Nat → L2.St → Hp → Prop := fun i σ' H' => ∃ B' loc' M' ρ', Go B1 l1 H1 B' loc' H' ∧ Rel X.K B' loc' M' H' ∧ EnvOk X.K B' loc' σ' ρ' ∧ loopS st sg sb k (items.drop i) ρ' M'
  refine ⟨fun i m σ' H' => m = items.length - i ∧ i ≤ items.length ∧ Wn i σ' H', ⟨_, rfl, Nat.zero_le _, B1, l1, M1, ρ, .refl, r1, A.env.go g1, h1⟩, ?_⟩
  rintro i m σ' H' ⟨rfl, hi, B', l', M', ρ', gg, r, e, hl⟩
  by_cases hlt : i < items.length
  · obtain ⟨d, hd⟩ : ∃ d, items[i]? = some d := ⟨_, List.getElem?_eq_getElem hlt⟩
    have hdr : items.drop i = d :: items.drop (i + 1) := by
      rw [List.drop_eq_getElem_cons hlt]
      congr 1
      rw [List.getElem?_eq_getElem hlt] at hd
      exact Option.some.inj hd
    rw [hdr] at hl
    obtain ⟨hst, hl⟩ := hl
    obtain ⟨go, yl⟩ := (it i B' l' M' H' gg r hst).1 d hd
    refine .inr ⟨go, Wn (i + 1), fun σ2 H2 w => ⟨items.length - (i + 1), by omega, rfl, hlt, w⟩, fun x H2 y => ?_⟩
    obtain ⟨B2, g2, r2, d2⟩ := yl x H2 y
    have gA := (A.go.trans g1).trans (gg.trans g2)
    refine z2 B2 l' M' H2 σ' ρ' d x _ _ ⟨gA, r2, e.go g2⟩ d2 hl fun ρ3 M3 σ3 B3 l3 H3 g3 r3 e3 h3 => ?_
    have EE := E.go ((g1.trans gg).trans (g2.trans g3))
    refine z3 B3 l3 M3 H3 σ3 ρ3 _ _ ⟨gA.trans g3, r3, e3⟩ h3 ⟨?_, EE.rt, EE.nx, ?_⟩
    · exact fun ρ4 M4 σ4 B4 l4 H4 g4 r4 e4 h4 => ⟨B4, l4, M4, ρ4, (gg.trans g2).trans (g3.trans g4), r4, e4, h4⟩
    · exact fun ρ4 M4 σ4 B4 l4 H4 g4 r4 e4 h4 => ⟨B4, l4, M4, ρ4, (gg.trans g2).trans (g3.trans g4), r4, e4, h4⟩
  · have : items.drop i = [] := List.drop_eq_nil_of_le (by omega)
    rw [this] at hl
    exact .inl ⟨(it i B' l' M' H' gg r hl.1).2 (by omega), E.nx _ _ _ _ _ _ (g1.trans gg) r e hl.2⟩
def sWhile (t : ST) (sb : SS) : SS := fun k ρ M => ∃ W : Nat → Rho → Mem → Prop, (∃ m, W m ρ M) ∧ ∀ m ρ M, W m ρ M → t ρ M fun b M' =>
  (b = true → sb { nx := fun ρ2 M2 => ∃ m', m' < m ∧ W m' ρ2 M2, rt := k.rt, bk := k.nx, ct := fun ρ2 M2 => ∃ m', m' < m ∧ W m' ρ2 M2 } ρ M') ∧ (b = false → k.nx ρ M')
theorem js_while {cd : Expr} {body : List Stmt} {st : ST} {sb : SS} (hp : PassesOwn (model X.prog X.w) X.A X.env X.xe) (hc : JT c X cd st) (hb : JSs c X body sb) : JS c X (.While cd body [] pos) (sWhile st sb) := by
  obtain ⟨tc, p1, z1⟩ := hc
  obtain ⟨tb, p3, z3⟩ := hb
  refine ⟨_, ps_while hp p1 p3, fun B loc M H σ ρ D k A h E => ?_⟩
  obtain ⟨W, ⟨m0, w0⟩, turn⟩ := h
  let Wn : Nat → L2.St → Hp → Prop := fun m σ' H' => ∃ B' loc' M' ρ', Go B loc H B' loc' H' ∧ Rel X.K B' loc' M' H' ∧ EnvOk X.K B' loc' σ' ρ' ∧ W m ρ' M'
  refine ⟨Wn, ⟨m0, B, loc, M, ρ, .refl, A.rel, A.env, w0⟩, ?_⟩
  rintro m σ' H' ⟨B', l', M', ρ', gg, r, e, hw⟩
  refine z1 B' l' M' H' σ' ρ' _ _ ⟨A.go.trans gg, r, e⟩ (turn m ρ' M' hw) fun b M2 B2 l2 H2 g2 r2 h2 => ?_
  cases b with
  | true =>
    refine iteT ⟨fun σ3 H3 => ∃ m', m' < m ∧ Wn m' σ3 H3, fun σ3 H3 w => w, ?_⟩
    have EE := E.go (gg.trans g2)
    refine z3 B2 l2 M2 H2 σ' ρ' _ _ ⟨A.go.trans (gg.trans g2), r2, e.go g2⟩ (h2.1 rfl) ⟨?_, EE.rt, EE.nx, ?_⟩
    · rintro ρ4 M4 σ4 B4 l4 H4 g4 r4 e4 ⟨m', hm, h4⟩
      exact ⟨m', hm, B4, l4, M4, ρ4, (gg.trans g2).trans g4, r4, e4, h4⟩
    · rintro ρ4 M4 σ4 B4 l4 H4 g4 r4 e4 ⟨m', hm, h4⟩
      exact ⟨m', hm, B4, l4, M4, ρ4, (gg.trans g2).trans g4, r4, e4, h4⟩
  | false => exact iteF (E.nx _ _ _ _ _ _ (gg.trans g2) r2 (e.go g2) (h2.2 rfl))
end
end J

namespace J
open PySem PySem.Spec PyProof.Rows L2
/-! ### comprehensions -/
/-- an untracked object of ours may stand and change aside -/
theorem Rel.side {K : PySem.W.Frag} {B : Hp} {loc : List Addr} {M : Mem} {H : Hp} {p : Addr} {o : HO} (r : Rel K B loc M H) (hb : B p = none) (hl : p ∉ loc) : Rel K B loc M (upd H p o) := by
  refine ⟨fun a u e => ?_, r.len, fun i a m e1 e2 l => ?_, r.inj, fun a q => ?_⟩
  rotate_left 2
  · have z : a ≠ p := fun z => hl (by rw [← z]; exact q)
    rw [upd_ne z]; exact r.all a q
  · have q : a ≠ p := fun z => by rw [z, hb] at e; cases e
    rw [upd_ne q]; exact r.ext a u e
  · obtain ⟨h1, h2⟩ := r.obj i a m e1 e2 l
    have q : a ≠ p := fun z => hl (by rw [← z]; exact List.mem_of_getElem? e1)
    exact ⟨h1, h2.mono (fun _ _ e => e) List.prefix_rfl fun u e => by rw [upd_ne q]; exact e⟩
theorem Go.side {B B' : Hp} {loc loc' : List Addr} {H H' : Hp} {p : Addr} {o : HO} (g : Go B loc H B' loc' H') (h : H p = none) : Go B loc H B' loc' (upd H' p o) :=
  ⟨g.b, g.l, fun a u e n => by rw [upd_ne (ne_of_none e h)]; exact g.fr a u e n, g.nw, g.nb⟩
theorem Rel.claim {K : PySem.W.Frag} {B : Hp} {loc : List Addr} {M : Mem} {H : Hp} {p : Addr} {o : HO} (r : Rel K B loc M H) (hb : B p = none) (hl : p ∉ loc) (hp : H p = some o) : Rel K (upd B p o) loc M H := by
  refine ⟨fun a u e => ?_, r.len, fun i a m e1 e2 l => ?_, r.inj, r.all⟩
  · by_cases q : a = p
    · subst q; rw [upd_same] at e; rw [hp]; exact e
    · rw [upd_ne q] at e; exact r.ext a u e
  · obtain ⟨h1, h2⟩ := r.obj i a m e1 e2 l
    have q : a ≠ p := fun z => hl (by rw [← z]; exact List.mem_of_getElem? e1)
    exact ⟨by rw [upd_ne q]; exact h1, h2.mono (same_new hb) List.prefix_rfl fun u e => e⟩
theorem Go.claim {B B' : Hp} {loc loc' : List Addr} {H H' : Hp} {p : Addr} {o : HO} (g : Go B loc H B' loc' H') (h : H p = none) (hb : B' p = none) : Go B loc H (upd B' p o) loc' H' :=
  ⟨same_trans g.b (same_new hb), g.l, g.fr, g.nw, fun a u e => by
    by_cases q : a = p
    · subst q; exact .inr (.inl h)
    · rw [upd_ne q] at e; exact g.nb a u e⟩
/-- a target that stores within the block's own slots -/
def JGc (vs : List Nat) (c : JC) (X : Cx) (tg : Expr) (sg : SG) : Prop :=
  ∃ g, PG X tg g ∧ ∀ B loc M H σ ρ d v (Q : L2.St → Hp → Prop) (Qd : Rho → Mem → Prop), At c X.K B loc M H σ ρ → Den X.K B loc d v → sg d ρ M Qd →
    (∀ ρ M' σ' B' loc' H', Go B loc H B' loc' H' → Rel X.K B' loc' M' H' → EnvOk X.K B' loc' σ' ρ → L2.wipe σ' vs = L2.wipe σ vs → Qd ρ M' → Q σ' H') → g v σ H Q
theorem wipe_set {σ : L2.St} {i : Nat} {v : Option V} : ∀ {vs : List Nat}, i ∈ vs → L2.wipe (σ.set i v) vs = L2.wipe σ vs
  | [], h => by cases h
  | j :: vs, h => by
    unfold L2.wipe
    by_cases hj : i ∈ vs
    · rw [wipe_set hj]
    · have e : i = j := by
        rcases List.mem_cons.mp h with z | z
        · exact z
        · exact absurd z hj
      subst e
      have key : ∀ ws : List Nat, i ∉ ws → L2.wipe (σ.set i v) ws = (L2.wipe σ ws).set i v := by
        intro ws
        induction ws with
        | nil => intro _; rfl
        | cons w ws ih =>
          intro hn
          unfold L2.wipe
          rw [ih (fun z => hn (List.mem_cons_of_mem _ z)), List.set_comm]
          exact fun z => hn (by rw [z]; exact List.mem_cons_self)
      rw [key vs hj, List.set_set]
section
variable {c : JC} {X : Cx} {a b e o tg elt iter : Expr} {es ifs : List Expr} {pos p : Pos} {sa sb se so : SE} {sr : SA} {x : Str} {vs : List Nat}
theorem jgc_name {i : Nat} (hN : X.N.Nodup) (hi : X.N[i]? = some x) (hx : Loc X.env.scope x) (hv : i ∈ vs := by decide) (hf : X.fn x = true ∨ X.env.scope.names.lookup x = some .local := by first | exact .inl rfl | exact .inr rfl | assumption) : JGc vs c X (.Name x pos) (gVar i) :=
  ⟨_, pg_name hN hi hx hf, fun B loc M H σ ρ d v Q Qd A e h t => t _ _ _ _ _ _ .refl A.rel (A.env.set e i) (wipe_set hv) h⟩
def JGcs (vs : List Nat) (c : JC) (X : Cx) (ts : List Expr) (sg : SGs) : Prop :=
  ∃ g, PGs X ts g ∧ ∀ B loc M H σ ρ ds ws (Q : L2.St → Hp → Prop) (Qd : Rho → Mem → Prop), At c X.K B loc M H σ ρ → DenL X.K B loc ds ws → sg ds ρ M Qd →
    (∀ ρ M' σ' B' loc' H', Go B loc H B' loc' H' → Rel X.K B' loc' M' H' → EnvOk X.K B' loc' σ' ρ → L2.wipe σ' vs = L2.wipe σ vs → Qd ρ M' → Q σ' H') → g ws σ H Q
theorem jgcs_nil : JGcs vs c X [] gsNil := ⟨_, pgs_nil, fun B loc M H σ ρ ds ws Q Qd A e h t => by
  cases e with
  | nil => exact ⟨rfl, t _ _ _ _ _ _ .refl A.rel A.env rfl h⟩
  | cons _ _ => exact h.elim⟩
theorem jgcs_cons {g : SG} {r : SGs} (h1 : JGc vs c X e g) (h2 : JGcs vs c X es r) (hst : (assignEach (e :: es) X.env).map (·.2) = assign e X.env :: (assignEach es X.env).map (·.2) := by rfl) : JGcs vs c X (e :: es) (gsCons g r) := by
  obtain ⟨g1, p1, z1⟩ := h1
  obtain ⟨g2, p2, z2⟩ := h2
  refine ⟨_, pgs_cons p1 p2 hst, fun B loc M H σ ρ ds ws Q Qd A e h t => ?_⟩
  cases e with
  | nil => exact h.elim
  | cons e1 e2 =>
    exact ⟨_, _, rfl, z1 B loc M H σ ρ _ _ _ _ A e1 h fun ρ' M' σ' B' l' H' g r e w h' => z2 B' l' M' H' σ' ρ' _ _ Q Qd ⟨A.go.trans g, r, e⟩ (e2.go g) h' fun ρ2 M2 σ2 B2 l2 H2 g2 r2 e2 w2 h2 => t _ _ _ _ _ _ (g.trans g2) r2 e2 (w2.trans w) h2⟩
theorem jgc_tup {kk n : Nat} {r : SGs} (hc : X.calm = true) (h : JGcs vs c X es r) (hn : (assignEach es X.env).length = n := by rfl) (hst : (assignEach es X.env).findIdx? (·.1) = none := by rfl) : JGc vs c X (.Tuple es kk pos) (gTupD n r) := by
  obtain ⟨g1, p1, z1⟩ := h
  refine ⟨_, pg_tup hc p1 hn hst, fun B loc M H σ ρ d v Q Qd A e h t => ?_⟩
  cases e with
  | tup s1 l1 => exact ⟨_, _, rfl, same_t A.rel.ext s1, by rw [← l1.length]; exact h.1, z1 B loc M H σ ρ _ _ Q Qd A l1 h.2 t⟩
  | _ => exact h.elim
def JTs (c : JC) (X : Cx) (ifs : List Expr) (st : ST) : Prop :=
  ∃ tt, PTs X ifs tt ∧ ∀ B loc M H σ ρ (Q : Bool → Hp → Prop) (Qd : Bool → Mem → Prop), At c X.K B loc M H σ ρ → st ρ M Qd → Tt X.K B loc H Qd Q → tt σ H Q
def sYes : ST := fun _ M Q => Q true M
theorem jts_nil : JTs c X [] sYes := ⟨_, pts_nil, fun B loc M H σ ρ Q Qd A h t => t _ _ _ _ _ .refl A.rel h⟩
theorem jts_one {t : ST} (h : JT c X e t) : JTs c X [e] t := by
  obtain ⟨tt, pt, z⟩ := h
  exact ⟨tt, pts_one pt, z⟩
/-- what is made of each item that the test keeps -/
def compS (st : Mem → Prop) (sg : SG) (tt : ST) (se : SE) (ρ0 : Rho) (fin : List D → Mem → Prop) : List D → List D → Mem → Prop
  | [], acc, M => st M ∧ fin acc M
  | d :: r, acc, M => st M ∧ sg d ρ0 M fun ρ1 M1 => tt ρ1 M1 fun b M2 => (b = true → se ρ1 M2 fun y M3 => acc.length < sizeLine ∧ compS st sg tt se ρ0 fin r (acc ++ [y]) M3) ∧ (b = false → compS st sg tt se ρ0 fin r acc M2)
def sLc (si : SI) (sg : SG) (tt : ST) (se : SE) (vs : List Nat) : SE := fun ρ M Q => si ρ M fun items st M1 => compS st sg tt se (wipeR ρ vs) (fun acc M' => Q (.lst acc) M') items [] M1
def sLcM (si : SI) (sg : SG) (tt : ST) (se : SE) (vs : List Nat) : SE := fun ρ M Q => si ρ M fun items st M1 => compS st sg tt se (wipeR ρ vs) (fun acc M' => Q (.ref M'.length) (M' ++ [.lst acc])) items [] M1
/-- the reading's soundness: what the list is in the end, by its address -/
theorem lc_ok {wi : TI} {g : TG} {tt : TT} {te : TE} {si : SI} {sg : SG} {st : ST} {fin : List D → Mem → Prop}
    (z1 : ∀ B loc M H σ ρ (R : It → Hp → Prop) (Qd : List D → (Mem → Prop) → Mem → Prop), At c X.K B loc M H σ ρ → si ρ M Qd →
      (∀ items st M' J B' loc' H', Go B loc H B' loc' H' → Rel X.K B' loc' M' H' → ItOk X.K B' loc' H' J items st → Qd items st M' → R J H') → wi σ H R)
    (zg : ∀ B loc M H σ ρ d v (Q : L2.St → Hp → Prop) (Qd : Rho → Mem → Prop), At c.in X.K B loc M H σ ρ → Den X.K B loc d v → sg d ρ M Qd →
      (∀ ρ M' σ' B' loc' H', Go B loc H B' loc' H' → Rel X.K B' loc' M' H' → EnvOk X.K B' loc' σ' ρ → L2.wipe σ' vs = L2.wipe σ vs → Qd ρ M' → Q σ' H') → g v σ H Q)
    (zt : ∀ B loc M H σ ρ (Q : Bool → Hp → Prop) (Qd : Bool → Mem → Prop), At c.in X.K B loc M H σ ρ → st ρ M Qd → Tt X.K B loc H Qd Q → tt σ H Q)
    (ze : ∀ B loc M H σ ρ Q Qd, At c.in X.K B loc M H σ ρ → se ρ M Qd → To X.K B loc H Qd Q → te σ H Q)
    {B : Hp} {loc : List Addr} {M : Mem} {H : Hp} {σ : L2.St} {ρ : Rho} {Q : VK} (A : At c X.K B loc M H σ ρ) (hs : si ρ M fun items st' M1 => compS st' sg st se (wipeR ρ vs) fin items [] M1)
    (t : ∀ acc M' ws p B' loc' H', Go B loc H B' loc' H' → Rel X.K B' loc' M' H' → H p = none → B' p = none → p ∉ loc' → H' p = some (.lst ws) → DenL X.K B' loc' acc ws → fin acc M' → Q (.ref p) H') : tLc wi g tt te vs σ H Q := by
  refine z1 B loc M H σ ρ _ _ A hs fun items st' M1 J B1 l1 H1 g1 r1 it h1 => ?_
  intro p hp
  have pl1 : p ∉ l1 := fun q => by
    obtain ⟨o, e⟩ := r1.all p q
    rw [hp] at e; cases e
  have pl : p ∉ loc := fun q => pl1 (by obtain ⟨z, hz⟩ := g1.l; rw [← hz]; exact List.mem_append_left _ q)
  have hpH : H p = none := by
    cases e : H p with
    | none => rfl
    | some u => rw [g1.fr p u e pl] at hp; cases hp
  have b1 : B1 p = none := by
    cases e : B1 p with
    | none => rfl
    | some u => rw [r1.ext p u e] at hp; cases hp
  -- behind i turns
  let Wn : Nat → Hp → Prop := fun i H' => ∃ B' l' M' acc ws, Go B1 l1 H1 B' l' H' ∧ Rel X.K B' l' M' H' ∧ B' p = none ∧ p ∉ l' ∧ H' p = some (.lst ws) ∧ DenL X.K B' l' acc ws ∧ compS st' sg st se (wipeR ρ vs) fin (items.drop i) acc M'
  refine ⟨fun i m H' => m = items.length - i ∧ i ≤ items.length ∧ Wn i H', ⟨_, rfl, Nat.zero_le _, B1, l1, M1, [], [], Go.refl.side hp, r1.side b1 pl1, b1, pl1, upd_same, .nil, h1⟩, ?_⟩
  rintro i m H' ⟨rfl, hi, B', l', M', acc, ws, gg, r, bp, lp, hw, dw, hl⟩
  by_cases hlt : i < items.length
  · obtain ⟨d, hd⟩ : ∃ d, items[i]? = some d := ⟨_, List.getElem?_eq_getElem hlt⟩
    have hdr : items.drop i = d :: items.drop (i + 1) := by
      rw [List.drop_eq_getElem_cons hlt]
      congr 1
      rw [List.getElem?_eq_getElem hlt] at hd
      exact Option.some.inj hd
    rw [hdr] at hl
    obtain ⟨hst, hl⟩ := hl
    obtain ⟨go, yl⟩ := (it i B' l' M' H' gg r hst).1 d hd
    refine .inr ⟨go, Wn (i + 1), fun H2 w => ⟨items.length - (i + 1), by omega, rfl, hlt, w⟩, fun x H2 y => ?_⟩
    obtain ⟨B2, g2, r2, d2⟩ := yl x H2 y
    -- p through a step
    have keep : ∀ {B3 l3 H3}, Go B' l' H' B3 l3 H3 → B3 p = none ∧ p ∉ l3 ∧ H3 p = some (.lst ws) := fun {B3 l3 H3} g => by
      refine ⟨?_, fun q => ?_, g.fr p _ hw lp⟩
      · cases e : B3 p with
        | none => rfl
        | some u =>
          rcases g.nb p u e with z | z | z
          · rw [bp] at z; cases z
          · rw [hw] at z; cases z
          · exact absurd z lp
      · rcases g.nw p q with z | z
        · exact lp z
        · rw [hw] at z; cases z
    have gA := (A.go.trans g1).trans (gg.trans g2)
    refine zg B2 l' M' H2 _ _ d x _ _ ⟨gA, r2, (A.env.go (g1.trans (gg.trans g2))).wipe vs⟩ d2 hl fun ρ3 M3 σ3 B3 l3 H3 g3 r3 e3 w3 h3 => ⟨?_, ?_⟩
    · rw [w3]
      have : ∀ ws : List Nat, L2.wipe (L2.wipe σ ws) ws = L2.wipe σ ws := by
        intro ws
        induction ws with
        | nil => rfl
        | cons w ws ih =>
          show L2.wipe ((L2.wipe σ ws).set w none) (w :: ws) = _
          rw [wipe_set List.mem_cons_self]
          show (L2.wipe (L2.wipe σ ws) ws).set w none = _
          rw [ih]; rfl
      exact this vs
    refine zt B3 l3 M3 H3 σ3 ρ3 _ _ ⟨gA.trans g3, r3, e3⟩ h3 fun b M4 B4 l4 H4 g4 r4 h4 => ?_
    cases b with
    | true =>
      refine iteT (ze B4 l4 M4 H4 σ3 ρ3 _ _ ⟨(gA.trans g3).trans g4, r4, e3.go g4⟩ (h4.1 rfl) fun d5 M5 v5 B5 l5 H5 g5 r5 e5 h5 => ?_)
      have gs := ((g2.trans g3).trans g4).trans g5
      obtain ⟨k1, k2, k3⟩ := keep gs
      have dw5 := dw.go gs
      refine ⟨ws, k3, by rw [← dw5.length]; exact h5.1, B5, l5, M5, acc ++ [d5], ws ++ [v5], (gg.trans gs).side hp, r5.side k1 k2, k1, k2, upd_same, dw5.append (.cons e5 .nil), h5.2⟩
    | false =>
      have gs := (g2.trans g3).trans g4
      obtain ⟨k1, k2, k3⟩ := keep gs
      exact iteF ⟨B4, l4, M4, acc, ws, gg.trans gs, r4, k1, k2, k3, dw.go gs, h4.2 rfl⟩
  · have : items.drop i = [] := List.drop_eq_nil_of_le (by omega)
    rw [this] at hl
    exact .inl ⟨(it i B' l' M' H' gg r hl.1).2 (by omega), t acc M' ws p B' l' H' (g1.trans gg) r hpH bp lp hw dw hl.2⟩
theorem lc_frz {K : PySem.W.Frag} {B : Hp} {loc : List Addr} {H : Hp} {Qd : SQ} {Q : VK} (t : To K B loc H Qd Q) : ∀ (acc : List D) (M' : Mem) (ws : List V) (p : Addr) (B' : Hp) (loc' : List Addr) (H' : Hp), Go B loc H B' loc' H' → Rel K B' loc' M' H' → H p = none → B' p = none → p ∉ loc' → H' p = some (.lst ws) → DenL K B' loc' acc ws → Qd (.lst acc) M' → Q (.ref p) H' :=
  fun acc M' ws p B' l' H' g r hp bp lp hw dw h => t _ _ _ _ _ _ (g.claim (o := .lst ws) hp bp) (r.claim bp lp hw) (.lst upd_same (dw.mono (same_new bp) List.prefix_rfl)) h
theorem je_lc {scope : Scope} {own : List (Str × Nat)} {si : SI} {sg : SG} {st : ST} (hc : X.calm = true) (hN : X.N.Nodup) (hi : JI c X tg iter si) (ok : BlkOk X.N X.env.scope scope own)
    (hg : ∀ (s : Shared) (H : Hp) (C : Addr) (cl : List (Str × Addr)) (fp : List Addr), JGc (own.map (·.2)) c.in (X.blk s H scope (compEnvC scope cl C X.env) fp) tg sg)
    (ht : ∀ (s : Shared) (H : Hp) (C : Addr) (cl : List (Str × Addr)) (fp : List Addr), JTs c.in (X.blk s H scope (compEnvC scope cl C X.env) fp) ifs st)
    (he : ∀ (s : Shared) (H : Hp) (C : Addr) (cl : List (Str × Addr)) (fp : List Addr), JE c.in (X.blk s H scope (compEnvC scope cl C X.env) fp) elt se) (hs : ∀ x, foldedSetIterable iter X.env x = pure x := by intro _; rfl) :
    JE c X (.ListComp elt [⟨tg, iter, ifs, 0⟩] scope pos) (sLc si sg st se (own.map (·.2))) := by
  obtain ⟨wi, p1, z1⟩ := hi
  refine ⟨tLc wi (fun v σ H Q => ∀ s H0 C cl fp, Classical.choose (hg s H0 C cl fp) v σ H Q) (fun σ H Q => ∀ s H0 C cl fp, Classical.choose (ht s H0 C cl fp) σ H Q) (fun σ H Q => ∀ s H0 C cl fp, Classical.choose (he s H0 C cl fp) σ H Q) (own.map (·.2)), ?_, ?_⟩
  · refine pe_lc hc hN p1 ok (fun s H C cl fp => ?_) (fun s H C cl fp => ?_) (fun s H C cl fp => ?_) hs
    · have z := (Classical.choose_spec (hg s H C cl fp)).1
      exact ⟨fun pins s' σ H' v u Q I r h => z.run pins s' σ H' v u Q I r (h s H C cl fp)⟩
    · have z := (Classical.choose_spec (ht s H C cl fp)).1
      exact ⟨fun pins s' σ H' Q I h => z.run pins s' σ H' Q I (h s H C cl fp)⟩
    · have z := (Classical.choose_spec (he s H C cl fp)).1
      exact ⟨fun pins s' σ H' Q I h => z.run pins s' σ H' Q I (h s H C cl fp)⟩
  · intro B loc M H σ ρ Q Qd A h t
    refine lc_ok (fin := fun acc M' => Qd (.lst acc) M') z1 ?_ ?_ ?_ A h (lc_frz t)
    · exact fun B loc M H σ ρ d v Q Qd A e h t s H0 C cl fp => (Classical.choose_spec (hg s H0 C cl fp)).2 B loc M H σ ρ d v Q Qd A e h t
    · exact fun B loc M H σ ρ Q Qd A h t s H0 C cl fp => (Classical.choose_spec (ht s H0 C cl fp)).2 B loc M H σ ρ Q Qd A h t
    · exact fun B loc M H σ ρ Q Qd A h t s H0 C cl fp => (Classical.choose_spec (he s H0 C cl fp)).2 B loc M H σ ρ Q Qd A h t
theorem js_setLc {i : Nat} {y : Str} {py spos : Pos} {scope : Scope} {own : List (Str × Nat)} {si : SI} {sg : SG} {st : ST} (hc : X.calm = true) (hN : X.N.Nodup) (hy : X.N[i]? = some y) (hyl : X.env.scope.names.lookup y = some .local)
    (hsw : swapsWith (.ListComp elt [⟨tg, iter, ifs, 0⟩] scope pos) (some (.Name y py)) spos.line X.env = pure true) (hi : JI c X tg iter si) (ok : BlkOk X.N X.env.scope scope own)
    (hg : ∀ (s : Shared) (H : Hp) (C : Addr) (cl : List (Str × Addr)) (fp : List Addr), JGc (own.map (·.2)) c.in (X.blk s H scope (compEnvC scope cl C X.env) fp) tg sg)
    (ht : ∀ (s : Shared) (H : Hp) (C : Addr) (cl : List (Str × Addr)) (fp : List Addr), JTs c.in (X.blk s H scope (compEnvC scope cl C X.env) fp) ifs st)
    (he : ∀ (s : Shared) (H : Hp) (C : Addr) (cl : List (Str × Addr)) (fp : List Addr), JE c.in (X.blk s H scope (compEnvC scope cl C X.env) fp) elt se) (hs : ∀ x, foldedSetIterable iter X.env x = pure x := by intro _; rfl) :
    JS c X (.Assign [.Name y py] (.ListComp elt [⟨tg, iter, ifs, 0⟩] scope pos) spos) (sAsg (sLc si sg st se (own.map (·.2))) (gVar i)) := by
  obtain ⟨wi, p1, z1⟩ := hi
  refine ⟨tAsg (tLc wi (fun v σ H Q => ∀ s H0 C cl fp, Classical.choose (hg s H0 C cl fp) v σ H Q) (fun σ H Q => ∀ s H0 C cl fp, Classical.choose (ht s H0 C cl fp) σ H Q) (fun σ H Q => ∀ s H0 C cl fp, Classical.choose (he s H0 C cl fp) σ H Q) (own.map (·.2))) (gName i), ?_, ?_⟩
  · refine ps_setLc hc hN hy hyl hsw p1 ok (fun s H C cl fp => ?_) (fun s H C cl fp => ?_) (fun s H C cl fp => ?_) hs
    · have z := (Classical.choose_spec (hg s H C cl fp)).1
      exact ⟨fun pins s' σ H' v u Q I r h => z.run pins s' σ H' v u Q I r (h s H C cl fp)⟩
    · have z := (Classical.choose_spec (ht s H C cl fp)).1
      exact ⟨fun pins s' σ H' Q I h => z.run pins s' σ H' Q I (h s H C cl fp)⟩
    · have z := (Classical.choose_spec (he s H C cl fp)).1
      exact ⟨fun pins s' σ H' Q I h => z.run pins s' σ H' Q I (h s H C cl fp)⟩
  · intro B loc M H σ ρ D k A h E
    refine lc_ok (fin := fun acc M' => k.nx (ρ.set i (some (.lst acc))) M') z1 ?_ ?_ ?_ A h (lc_frz (Qd := fun d M' => k.nx (ρ.set i (some d)) M') (Q := fun x H1 => gName i x σ H1 D.nx) fun d M' v B' l' H' g r e h' => E.nx _ _ _ _ _ _ g r ((A.env.go g).set e i) h')
    · exact fun B loc M H σ ρ d v Q Qd A e h t s H0 C cl fp => (Classical.choose_spec (hg s H0 C cl fp)).2 B loc M H σ ρ d v Q Qd A e h t
    · exact fun B loc M H σ ρ Q Qd A h t s H0 C cl fp => (Classical.choose_spec (ht s H0 C cl fp)).2 B loc M H σ ρ Q Qd A h t
    · exact fun B loc M H σ ρ Q Qd A h t s H0 C cl fp => (Classical.choose_spec (he s H0 C cl fp)).2 B loc M H σ ρ Q Qd A h t
end
end J

namespace J
open PySem PySem.Spec PyProof.Rows L2
/-! ### raise -/
def sRaise (C : Addr) (Ed : Addr → Mem → Prop) : SS := fun _ _ M => Ed C M
section
variable {c : JC} {X : Cx} {C : Addr} {x m : Str} {j : Nat} {p p2 pos pos' : Pos}
theorem js_raise (jx : JX c X) (tk : Takes X (fun cls d _ H => c.E cls d H)) (hc : X.calm = true) (q : PySem.W.excIn X.K C He.veBase "ValueError.__new__" = true) (gC : X.mg x = some (.ref C)) (kC : PySem.W.keepIn X.K (.ref C) = true)
    (h1 : PySem.W.subIn X.K (.ref C) (.type "BaseException") = some true) (h2 : PySem.W.typeIn X.K (.ref C) = some (.type "type")) (hg : Gl X x) (hdb : (x == ("__debug__" : Str)) = false := by decide) :
    JS c X (.Raise (some (.Call (.Name x p) [.Constant (.str m) j p2] [] pos')) none pos) (sRaise C c.Ed) :=
  ⟨_, ps_raise hc tk (pmk_own PySem.F.excBase_ValueError q gC kC (raises_own h1 h2) hg hdb), fun B loc M H σ ρ D k A h E => jx.ok _ _ _ _ _ A.go A.rel h⟩
end
/-! ### a def -/
mutual
def D.lt (n : Nat) : D → Bool
  | .ref i => decide (i < n)
  | .tup xs => D.ltL n xs
  | .lst xs => D.ltL n xs
  | _ => true
def D.ltL (n : Nat) : List D → Bool
  | [] => true
  | x :: xs => D.lt n x && D.ltL n xs
end
section
variable {K : PySem.W.Frag} {B : Hp} {loc : List Addr}
mutual
theorem den_lt : ∀ {d : D} {v : V}, Den K B loc d v → d.lt loc.length = true
  | _, _, .non => rfl
  | _, _, .bl => rfl
  | _, _, .int => rfl
  | _, _, .str => rfl
  | _, _, .scr _ => rfl
  | _, _, .tup _ r => denL_lt r
  | _, _, .lst _ r => denL_lt r
  | _, _, .ref h => decide_eq_true (List.getElem?_eq_some_iff.mp h).1
theorem denL_lt : ∀ {ds : List D} {vs : List V}, DenL K B loc ds vs → D.ltL loc.length ds = true
  | _, _, .nil => rfl
  | _, _, .cons h r => by
    show (_ && _) = true
    rw [den_lt h, denL_lt r]; rfl
end
mutual
theorem den_cut {n : Nat} : ∀ {d : D} {v : V}, Den K B loc d v → d.lt n = true → Den K B (loc.take n) d v
  | _, _, .non, _ => .non
  | _, _, .bl, _ => .bl
  | _, _, .int, _ => .int
  | _, _, .str, _ => .str
  | _, _, .scr h, _ => .scr h
  | _, _, .tup s r, h => .tup s (denL_cut r h)
  | _, _, .lst s r, h => .lst s (denL_cut r h)
  | _, _, .ref q, h => .ref (by rw [List.getElem?_take_of_lt (of_decide_eq_true h)]; exact q)
theorem denL_cut {n : Nat} : ∀ {ds : List D} {vs : List V}, DenL K B loc ds vs → D.ltL n ds = true → DenL K B (loc.take n) ds vs
  | _, _, .nil, _ => .nil
  | d :: ds, _, .cons h r, q => by
    obtain ⟨q1, q2⟩ := Bool.and_eq_true_iff.mp (show (D.lt n d && D.ltL n ds) = true from q)
    exact .cons (den_cut h q1) (denL_cut r q2)
end
end
def MO.lt (n : Nat) : MO → Bool
  | .dead => true
  | .lst xs => D.ltL n xs
  | .dic kvs => kvs.all fun kv => kv.2.lt n
  | .rcd _ ds => D.ltL n ds
  | .ins _ _ ds => ds.all fun d => match d with
    | some d => d.lt n
    | none => true
section
variable {K : PySem.W.Frag} {B : Hp} {loc : List Addr} {a : Addr} {H : Hp}
theorem kv_cut {n : Nat} : ∀ {kvs : List (Int × D)} {ws : List (Key × V)}, DenKV K B loc kvs ws → (kvs.all fun kv => kv.2.lt n) = true → DenKV K B (loc.take n) kvs ws
  | _, _, .nil, _ => .nil
  | _, _, .cons h r, q => by
    rw [List.all_cons, Bool.and_eq_true] at q
    exact .cons (den_cut h q.1) (kv_cut r q.2)
theorem sv_cut {n : Nat} : ∀ {ks : List Str} {ds : List D} {ws : List (Key × V)}, DenSV K B loc ks ds ws → D.ltL n ds = true → DenSV K B (loc.take n) ks ds ws
  | _, _, _, .nil, _ => .nil
  | _, d :: ds, _, .cons h r, q => by
    obtain ⟨q1, q2⟩ := Bool.and_eq_true_iff.mp (show (D.lt n d && D.ltL n ds) = true from q)
    exact .cons (den_cut h q1) (sv_cut r q2)
theorem denO_cut {n : Nat} : ∀ {o : MO}, DenO K B loc a H o → o.lt n = true → DenO K B (loc.take n) a H o
  | .dead, _, _ => trivial
  | .lst _, ⟨vs, h, r⟩, q => ⟨vs, h, denL_cut r q⟩
  | .dic _, ⟨ws, h, r, nd⟩, q => ⟨ws, h, kv_cut r q, nd⟩
  | .rcd _ _, ⟨nd, ws, h, r⟩, q => ⟨nd, ws, h, sv_cut r q⟩
  | .ins _ ks ds, ⟨z, dx, ws, h, r⟩, q => ⟨z, dx, ws, h, r.1, r.2.1, fun i k d e1 e2 => by
      obtain ⟨v, e3, e4⟩ := r.2.2.1 i k d e1 e2
      have := List.all_eq_true.mp q (some d) (List.mem_of_getElem? e2)
      exact ⟨v, e3, den_cut e4 this⟩, r.2.2.2⟩
theorem kv_lt : ∀ {kvs : List (Int × D)} {ws : List (Key × V)}, DenKV K B loc kvs ws → (kvs.all fun kv => kv.2.lt loc.length) = true
  | _, _, .nil => rfl
  | _, _, .cons h r => by
    rw [List.all_cons, Bool.and_eq_true]
    exact ⟨den_lt h, kv_lt r⟩
theorem sv_lt : ∀ {ks : List Str} {ds : List D} {ws : List (Key × V)}, DenSV K B loc ks ds ws → D.ltL loc.length ds = true
  | _, _, _, .nil => rfl
  | _, _, _, .cons h r => by
    show (_ && _) = true
    rw [den_lt h, sv_lt r]; rfl
theorem denO_lt : ∀ {o : MO}, DenO K B loc a H o → o.lt loc.length = true
  | .dead, _ => rfl
  | .lst _, ⟨vs, h, r⟩ => denL_lt r
  | .dic _, ⟨ws, h, r, nd⟩ => kv_lt r
  | .rcd _ _, ⟨nd, ws, h, r⟩ => sv_lt r
  | .ins _ ks ds, ⟨z, dx, ws, h, r⟩ => List.all_eq_true.mpr fun d hd => by
      cases d with
      | none => rfl
      | some d =>
        obtain ⟨i, hi⟩ := List.getElem?_of_mem hd
        have hk : i < ks.length := by rw [← r.1]; exact (List.getElem?_eq_some_iff.mp hi).1
        obtain ⟨v, _, e⟩ := r.2.2.1 i _ d (List.getElem?_eq_getElem hk) hi
        exact den_lt e
end
/-- what the store holds behind its first n objects is given up: what stays names none of it -/
def Cut (M0 : Mem) (d : D) (M' M'' : Mem) : Prop := M'' = M'.take M0.length ∧ d.lt M0.length = true ∧ ∀ (i : Nat) (o : MO), i < M0.length → M'[i]? = some o → M0[i]? = some o ∨ o.lt M0.length = true
theorem Cut.same {M0 E : Mem} {d : D} (h : d.lt M0.length = true) : Cut M0 d (M0 ++ E) M0 :=
  ⟨by rw [List.take_left], h, fun i o hi e => .inl (by rw [List.getElem?_append_left hi] at e; exact e)⟩
theorem cut_rel {K : PySem.W.Frag} {B B' : Hp} {loc loc' : List Addr} {M0 M' M'' : Mem} {H H' : Hp} {d : D} {v : V} (r0 : Rel K B loc M0 H) (g : Go B loc H B' loc' H') (r : Rel K B' loc' M' H') (e : Den K B' loc' d v) (c : Cut M0 d M' M'') :
    Go B loc H B' loc H' ∧ Rel K B' loc M'' H' ∧ Den K B' loc d v := by
  obtain ⟨rfl, c2, c3⟩ := c
  have hl : loc'.take M0.length = loc := by
    obtain ⟨t, ht⟩ := g.l
    rw [← ht, ← r0.len, List.take_left]
  refine ⟨⟨g.b, List.prefix_rfl, g.fr, fun _ q => .inl q, g.nb⟩, ⟨r.ext, ?_, fun i a o e1 e2 l => ?_, fun i j a o u e1 e2 e3 e4 l1 l2 => ?_, fun a q => r.all a (by obtain ⟨t, ht⟩ := g.l; rw [← ht]; exact List.mem_append_left _ q)⟩, by
    have := den_cut e c2
    rw [hl] at this; exact this⟩
  · rw [List.length_take, ← hl, List.length_take, r.len]
  · have hi : i < M0.length := by rw [← r0.len]; exact (List.getElem?_eq_some_iff.mp e1).1
    rw [List.getElem?_take_of_lt hi] at e2
    obtain ⟨h1, h2⟩ := r.obj i a o (pre_get g.l e1) e2 l
    refine ⟨h1, ?_⟩
    have z : o.lt M0.length = true := by
      rcases c3 i o hi e2 with q | q
      · have := denO_lt (r0.obj i a o e1 q l).2
        rw [r0.len] at this; exact this
      · exact q
    have := denO_cut h2 z
    rw [hl] at this; exact this
  · have hi : i < M0.length := by rw [← r0.len]; exact (List.getElem?_eq_some_iff.mp e1).1
    have hj : j < M0.length := by rw [← r0.len]; exact (List.getElem?_eq_some_iff.mp e2).1
    rw [List.getElem?_take_of_lt hi] at e3
    rw [List.getElem?_take_of_lt hj] at e4
    exact r.inj i j a o u (pre_get g.l e1) (pre_get g.l e2) e3 e4 l1 l2
def startR (n : Nat) (ds : List D) : Rho := ds.map some ++ List.replicate (n - ds.length) none
theorem start_env {K : PySem.W.Frag} {B : Hp} {loc : List Addr} {N : List Str} {ds : List D} {vs : List V} (h : DenL K B loc ds vs) : EnvOk K B loc (L2.start N vs) (startR N.length ds) := by
  have hl := h.length
  refine ⟨by unfold L2.start startR; simp only [List.length_append, List.length_map, List.length_replicate, hl], fun i d e => ?_⟩
  unfold startR at e
  by_cases hi : i < ds.length
  · rw [List.getElem?_append_left (by rw [List.length_map]; exact hi), List.getElem?_map] at e
    cases q : ds[i]? with
    | none => rw [q] at e; cases e
    | some x =>
      rw [q] at e
      cases e
      obtain ⟨v, h1, h2⟩ := h.get q
      refine ⟨v, ?_, h2⟩
      unfold L2.start
      rw [List.getElem?_append_left (by rw [List.length_map, ← hl]; exact hi), List.getElem?_map, h1]
      rfl
  · rw [List.getElem?_append_right (by rw [List.length_map]; omega), List.getElem?_replicate] at e
    split at e <;> cases e
/-- what follows a def's body: its value, or None; what it made for itself may be given up -/
def endK (M0 : Mem) (Qd : SQ) : SK := { nx := fun _ M' => Qd .non M' ∨ ∃ M'', Cut M0 .non M' M'' ∧ Qd .non M'', rt := fun d M' => Qd d M' ∨ ∃ M'', Cut M0 d M' M'' ∧ Qd d M'' }
abbrev defX (P : Program) (w : World) (K : PySem.W.Frag) (mg : Str → Option Value) (base : Heap) (N : List Str) (qual : Str) (scope : Scope) (f : Addr) (cdv : Value) (A : Around) (outer : List Env) (s : Shared) (H : Hp) (E : XK) : Cx :=
  cxOf (L2.CX P w) P w K mg base N qual scope f cdv A outer s H E
theorem defJ {P : Program} {w : World} {K : PySem.W.Frag} {mg : Str → Option Value} {base : Heap} {x qual : Str} {params : Arguments} {body : List Stmt} {scope : Scope} {f : Addr} {fd : FuncData} {N ps : List Str} {k n : Nat} {ct : Ct}
    (F : FunD K x qual params body scope [] [] f fd) (S : FnScope N ps scope) (hn : n = ps.length)
    (hbody : ∀ (cdv : Value) (A : Around) (outer : List Env) (s : Shared) (c : JC), JX c (defX P w K mg base N qual scope f cdv A outer s c.H c.E) → Takes (defX P w K mg base N qual scope f cdv A outer s c.H c.E) (fun cls d _ H => c.E cls d H) →
      PassesOwn (model P w) (defX P w K mg base N qual scope f cdv A outer s c.H c.E).A (defX P w K mg base N qual scope f cdv A outer s c.H c.E).env (defX P w K mg base N qual scope f cdv A outer s c.H c.E).xe →
      Room k (defX P w K mg base N qual scope f cdv A outer s c.H c.E).A →
      ∃ ss, JSs c (defX P w K mg base N qual scope f cdv A outer s c.H c.E) body ss ∧ ∀ ds M Qd, ct ds M Qd c.Ed → ss (endK M Qd) (startR N.length ds) M) :
    FnOk P w K mg base (L2.CX P w) (k + 1) f fd ps (spD K n ct) := by
  subst hn
  refine F.ok S (fun vs H Q E h => h.1) fun cdv A outer s H vs Q E hr h => ?_
  obtain ⟨hl, ds, B, loc, M, Qd, Ed, r, e, hct, t, te⟩ := h
  let c : JC := ⟨B, loc, H, E, Ed⟩
  have tk : Takes (defX P w K mg base N qual scope f cdv A outer s c.H c.E) (fun cls d _ H => c.E cls d H) := takes_of rfl rfl rfl rfl
  have jx : JX c (defX P w K mg base N qual scope f cdv A outer s c.H c.E) := ⟨fun cl M' B' l' H' g r h => te cl M' B' l' H' g r h, passes_call tk fun _ _ _ _ h => h⟩
  obtain ⟨ss, ⟨ts, p, z⟩, hs⟩ := hbody cdv A outer s c jx tk (passes_of rfl) hr
  refine ⟨ts, p, z B loc M H _ _ _ _ ⟨.refl, r, start_env e⟩ (hs ds M Qd hct) ⟨?_, ?_, ?_, ?_⟩⟩
  · intro ρ M' σ B' l' H' g r' e' h
    rcases h with h | ⟨M'', c1, h⟩
    · exact t _ _ _ _ _ _ g r' .non h
    · obtain ⟨g2, r2, d2⟩ := cut_rel r g r' (Den.non (K := K) (B := B') (loc := l')) c1
      exact t _ _ _ _ _ _ g2 r2 d2 h
  · intro d M' v B' l' H' g r' e' h
    rcases h with h | ⟨M'', c1, h⟩
    · exact t _ _ _ _ _ _ g r' e' h
    · obtain ⟨g2, r2, d2⟩ := cut_rel r g r' e' c1
      exact t _ _ _ _ _ _ g2 r2 d2 h
  · intro ρ M' σ B' l' H' g r' e' h
    exact h.elim
  · intro ρ M' σ B' l' H' g r' e' h
    exact h.elim
end J

namespace J
open PySem PySem.Spec PyProof.Rows L2
/-- -x -/
def sNeg (sa : SE) : SE := fun ρ M Q => sa ρ M fun d M1 => match d with
  | .int i => Q (.int (-i)) M1
  | _ => False
theorem je_neg {c : JC} {X : Cx} {a : Expr} {pos : Pos} {sa : SE} (ha : JE c X a sa) : JE c X (.UnaryOp .USub a pos) (sNeg sa) := by
  obtain ⟨t, p, z⟩ := ha
  refine ⟨_, pe_un un_neg p, fun B loc M H σ ρ Q Qd A hs t => z B loc M H σ ρ _ _ A hs fun d M' v B' l' H' g r e h => ?_⟩
  cases e with
  | int => exact ⟨_, rfl, t _ _ _ _ _ _ g r .int h⟩
  | _ => exact h.elim
/-! ### isinstance of a built-in type -/
inductive Ty where
  | non | bl | int | str | tup | lst | dic
def Ty.name : Ty → String
  | .non => "NoneType"
  | .bl => "bool"
  | .int => "int"
  | .str => "str"
  | .tup => "tuple"
  | .lst => "list"
  | .dic => "dict"
def tyN (M : Mem) : D → Option Ty
  | .non => some .non
  | .bl _ => some .bl
  | .int _ => some .int
  | .str _ => some .str
  | .tup _ => some .tup
  | .lst _ => some .lst
  | .scr _ => some .lst
  | .ref i => match M[i]? with
    | some (.lst _) => some .lst
    | some (.dic _) => some .dic
    | some (.rcd _ _) => some .dic
    | _ => none
def isB : Ty → Ty → Bool
  | .non, .non => true
  | .bl, .bl => true
  | .bl, .int => true
  | .int, .int => true
  | .str, .str => true
  | .tup, .tup => true
  | .lst, .lst => true
  | .dic, .dic => true
  | _, _ => false
theorem kit_all : ∀ a b : Ty, kitB a.name b.name = some (isB a b) := by
  intro a b
  cases a <;> cases b <;> decide +kernel
def sIsi (T : Ty) (se : SE) : SE := fun ρ M Q => se ρ M fun d M1 => ∃ a, tyN M1 d = some a ∧ Q (.bl (isB a T)) M1
theorem tyN_ok {K : PySem.W.Frag} {B : Hp} {loc : List Addr} {M : Mem} {H : Hp} {d : D} {v : V} {a : Ty} (r : Rel K B loc M H) (e : Den K B loc d v) (h : tyN M d = some a) : TyX K H v (.type a.name) := by
  have lst : ∀ {p : Addr} {vs : List V}, SqL K H p vs → TyX K H (.ref p) (.type "list") := fun {p vs} s => by
    rcases s with (s | ⟨o, s⟩) | ⟨o, its, n, k, kc, _⟩
    · exact .base (.lst s)
    · exact .base (.frz s)
    · exact .kList k kc
  cases e with
  | non => cases h; exact .base .non
  | bl => cases h; exact .base (.bl _)
  | int => cases h; exact .base (.int _)
  | str => cases h; exact .base (.str _)
  | lst s _ => cases h; exact lst (SqL.of (r.ext _ _ s))
  | scr s => cases h; exact lst (r.ext.seq s)
  | tup s _ =>
    cases h
    rcases same_t r.ext s with (s | ⟨o, s⟩) | ⟨o, its, n, k, kc, _⟩
    · exact .base (.tup s)
    · exact .fTuple s
    · exact .kTuple k kc
  | @ref i p hi =>
    unfold tyN at h
    cases q : M[i]? with
    | none => simp only [q] at h; cases h
    | some o =>
      simp only [q] at h
      cases o with
      | lst ys =>
        cases h
        obtain ⟨_, vs, h1, _⟩ := r.obj i p _ hi q trivial
        exact .base (.lst h1)
      | dic ys =>
        cases h
        obtain ⟨_, vs, h1, _⟩ := r.obj i p _ hi q trivial
        exact .base (.dK h1)
      | rcd ks ys =>
        cases h
        obtain ⟨_, _, vs, h1, _⟩ := r.obj i p _ hi q trivial
        exact .base (.dK h1)
      | _ => cases h
theorem je_isi {c : JC} {X : Cx} {e : Expr} {p p2 pos : Pos} {x : Str} {se : SE} (T : Ty) (hg : Gl X "isinstance") (hm : X.mg "isinstance" = none) (hgT : Gl X x) (hmT : X.mg x = none) (hv : bootBuiltins x = some (.type T.name)) (he : JE c X e se) (hn : x ≠ "__name__" := by decide) (hd : (x == ("__debug__" : Str)) = false := by decide)
    (h1 : starEach [e, .Name x p2] X.env = (false, eval e X.env) :: starEach [.Name x p2] X.env := by rfl) (h2 : starEach [.Name x p2] X.env = (false, eval (.Name x p2) X.env) :: starEach [] X.env := by rfl) (h3 : (backTo pos (starEach [.Name x p2] X.env)).any (·.1) = false := by rfl) :
    JE c X (.Call (.Name "isinstance" p) [e, .Name x p2] [] pos) (sIsi T se) := by
  obtain ⟨t, pe, z⟩ := he
  refine ⟨_, pe_callB call_isi hg hm boot_isinstance (pa_cons pe (pa_cons (pe_bltn (v := .ty T.name) hgT hmT hv rfl hn hd) pa_nil h2) h1) (by decide) (by decide) h1 h3, fun B loc M H σ ρ Q Qd A hs t => z B loc M H σ ρ _ _ A hs fun d M' v B' l' H' g r e h => ?_⟩
  obtain ⟨a, q, h⟩ := h
  exact ⟨v, .ty T.name, _, _, isB a T, rfl, .ty _, tyN_ok r e q, kit_ty (kit_all a T), t _ _ _ _ _ _ g r .bl h⟩
/-- a short list is short enough -/
theorem le_line {n : Nat} (h : Nat.ble n 1000 = true) : n ≤ sizeLine := Nat.le_trans (Nat.le_of_ble_eq_true h) (by decide)
theorem lt_line {n : Nat} (h : n ≤ 1000) : n < sizeLine := Nat.lt_of_le_of_lt h (by decide)
theorem log9000 {i : Int} (h : i.natAbs < 2 ^ 64) : i.natAbs.log2 < 9000 := by
  have : i.natAbs.log2 < 64 := PySem.Flt.log2_lt_of (by decide) h
  omega
/-- a def keeps its contract, is called by these names -/
def Ok (P : Program) (w : World) (K : PySem.W.Frag) (mg : Str → Option Value) (base : Heap) (k : Nat) (f : Addr) (ps : List Str) (n : Nat) (ct : Ct) : Prop :=
  ∃ fd, FnOk P w K mg base (L2.CX P w) k f fd ps (spD K n ct) ∧ Binds K fd ps [] ∧ PySem.W.keepIn K (.ref f) = true
theorem Ok.of {P : Program} {w : World} {K : PySem.W.Frag} {mg : Str → Option Value} {base : Heap} {x qual : Str} {params : Arguments} {body : List Stmt} {scope : Scope} {f : Addr} {fd : FuncData} {N ps : List Str} {k n : Nat} {ct : Ct}
    (F : FunD K x qual params body scope [] [] f fd) (b : Binds K fd ps []) (S : FnScope N ps scope) (hn : n = ps.length)
    (hbody : ∀ (cdv : Value) (A : Around) (outer : List Env) (s : Shared) (c : JC), JX c (defX P w K mg base N qual scope f cdv A outer s c.H c.E) → Takes (defX P w K mg base N qual scope f cdv A outer s c.H c.E) (fun cls d _ H => c.E cls d H) →
      PassesOwn (model P w) (defX P w K mg base N qual scope f cdv A outer s c.H c.E).A (defX P w K mg base N qual scope f cdv A outer s c.H c.E).env (defX P w K mg base N qual scope f cdv A outer s c.H c.E).xe →
      Room k (defX P w K mg base N qual scope f cdv A outer s c.H c.E).A →
      ∃ ss, JSs c (defX P w K mg base N qual scope f cdv A outer s c.H c.E) body ss ∧ ∀ ds M Qd, ct ds M Qd c.Ed → ss (endK M Qd) (startR N.length ds) M) : Ok P w K mg base (k + 1) f ps n ct :=
  ⟨fd, defJ F S hn hbody, b, F.kp⟩
/-- the facts of an own exception class -/
structure Exc (K : PySem.W.Frag) (mg : Str → Option Value) (x : Str) : Prop where
  g : mg x = some (.ref (He.ga K x))
  e : PySem.W.excIn K (He.ga K x) He.veBase "ValueError.__new__" = true
  k : PySem.W.keepIn K (.ref (He.ga K x)) = true
  s : PySem.W.subIn K (.ref (He.ga K x)) (.type "BaseException") = some true
  t : PySem.W.typeIn K (.ref (He.ga K x)) = some (.type "type")
theorem room_units {k : Nat} {A : Around} (r : Room k A) : A.units + 64 < cLine := r.units
end J

namespace J
open PySem PySem.Spec PyProof.Rows L2
/-! ### loops by what holds before each round -/
theorem loop_inv {st : Mem → Prop} {sg : SG} {sb : SS} {k : SK} (l : List D) (I : Nat → Rho → Mem → Prop)
    (hs : ∀ i d, l[i]? = some d → ∀ ρ M, I i ρ M → st M ∧ ∀ go : Rho → Mem → Prop, (∀ ρ M, I (i + 1) ρ M → go ρ M) → sg d ρ M fun ρ1 M1 => sb { nx := go, rt := k.rt, bk := k.nx, ct := go } ρ1 M1)
    (he : ∀ ρ M, I l.length ρ M → st M ∧ k.nx ρ M) {ρ : Rho} {M : Mem} (h : I 0 ρ M) : loopS st sg sb k l ρ M := by
  have key : ∀ (r : List D) (i : Nat), l.drop i = r → i ≤ l.length → ∀ ρ M, I i ρ M → loopS st sg sb k r ρ M := by
    intro r
    induction r with
    | nil =>
      intro i hd hi ρ M h
      have : i = l.length := by
        have := List.drop_eq_nil_iff.mp hd
        omega
      subst this
      exact he ρ M h
    | cons d r ih =>
      intro i hd hi ρ M h
      have hi2 : i < l.length := by
        by_cases q : i < l.length
        · exact q
        · rw [List.drop_eq_nil_of_le (by omega)] at hd; cases hd
      rw [List.drop_eq_getElem_cons hi2] at hd
      obtain ⟨e1, e2⟩ := List.cons.inj hd
      obtain ⟨h1, h2⟩ := hs i d (by rw [List.getElem?_eq_getElem hi2, e1]) ρ M h
      exact ⟨h1, h2 _ fun ρ' M' h' => ih (i + 1) e2 hi2 ρ' M' h'⟩
  exact key l 0 rfl (Nat.zero_le _) ρ M h
theorem comp_inv {st : Mem → Prop} {sg : SG} {tt : ST} {se : SE} {ρ0 : Rho} {fin : List D → Mem → Prop} (l : List D) (I : Nat → List D → Mem → Prop) (hl : l.length ≤ sizeLine)
    (hs : ∀ i d, l[i]? = some d → ∀ acc M, acc.length ≤ i → I i acc M → st M ∧ ∀ (yes : D → Mem → Prop) (no : Mem → Prop), (∀ y M', I (i + 1) (acc ++ [y]) M' → yes y M') → (∀ M', I (i + 1) acc M' → no M') → sg d ρ0 M fun ρ1 M1 => tt ρ1 M1 fun b M2 => (b = true → se ρ1 M2 yes) ∧ (b = false → no M2))
    (he : ∀ acc M, I l.length acc M → st M ∧ fin acc M) {M : Mem} (h : I 0 [] M) : compS st sg tt se ρ0 fin l [] M := by
  have key : ∀ (r : List D) (i : Nat) (acc : List D), l.drop i = r → i ≤ l.length → acc.length ≤ i → ∀ M, I i acc M → compS st sg tt se ρ0 fin r acc M := by
    intro r
    induction r with
    | nil =>
      intro i acc hd hi ha M h
      have : i = l.length := by
        have := List.drop_eq_nil_iff.mp hd
        omega
      subst this
      exact he acc M h
    | cons d r ih =>
      intro i acc hd hi ha M h
      have hi2 : i < l.length := by
        by_cases q : i < l.length
        · exact q
        · rw [List.drop_eq_nil_of_le (by omega)] at hd; cases hd
      rw [List.drop_eq_getElem_cons hi2] at hd
      obtain ⟨e1, e2⟩ := List.cons.inj hd
      obtain ⟨h1, h2⟩ := hs i d (by rw [List.getElem?_eq_getElem hi2, e1]) acc M ha h
      refine ⟨h1, h2 _ _ (fun y M' h' => ⟨by omega, ih (i + 1) _ e2 hi2 ?_ M' h'⟩) fun M' h' => ih (i + 1) _ e2 hi2 (by omega) M' h'⟩
      rw [List.length_append]; show acc.length + 1 ≤ i + 1; omega
  exact key l 0 [] rfl (Nat.zero_le _) (Nat.le_refl 0) M h
theorem upTo_len {lo : Int} {n : Nat} : (upTo lo n).length = n := by
  unfold upTo
  rw [List.length_map, List.length_range]
theorem atI_of {α : Type} {xs : List α} {i : Int} {d : α} (h0 : 0 ≤ i) (h : xs[i.toNat]? = some d) : atI xs i = some d := by
  have hl := (List.getElem?_eq_some_iff.mp h).1
  unfold atI ixN
  rw [if_pos h0, if_pos (by omega)]
  exact h
theorem atI_zero {α : Type} {x : α} {xs : List α} : atI (x :: xs) 0 = some x := atI_of (Int.le_refl 0) rfl
theorem ix_nat {α : Type} {xs : List α} {n : Nat} {d : α} (h : xs[n]? = some d) : atI xs (n : Int) = some d := atI_of (Int.natCast_nonneg n) h
theorem atI_has {α : Type} {xs : List α} {i : Int} (h0 : 0 ≤ i) (h : i < xs.length) : ∃ d, d ∈ xs ∧ atI xs i = some d :=
  ⟨xs[i.toNat]'(by omega), List.getElem_mem _, atI_of h0 (List.getElem?_eq_getElem (by omega))⟩
theorem tt {p q : Prop} (h : p) : (true = true → p) ∧ (true = false → q) := ⟨fun _ => h, fun z => Bool.noConfusion z⟩
theorem ff {p q : Prop} (h : q) : (false = true → p) ∧ (false = false → q) := ⟨fun z => Bool.noConfusion z, fun _ => h⟩
theorem g_var {i : Nat} {d : D} {ρ : Rho} {M : Mem} {Q : Rho → Mem → Prop} (h : Q (ρ.set i (some d)) M) : gVar i d ρ M Q := h
/-- what a statement leaves, said once for all its ways -/
theorem seq_via {s u : SS} {k : SK} {ρ : Rho} {M : Mem} (I : Rho → Mem → Prop) (h1 : ∀ go : Rho → Mem → Prop, (∀ ρ' M', I ρ' M' → go ρ' M') → s { k with nx := go } ρ M) (h2 : ∀ ρ' M', I ρ' M' → u k ρ' M') : sSeq s u k ρ M := h1 _ h2
theorem eqv_pair (a b c d : Int) : PyData.eqv (.tuple [.int a, .int b]) (.tuple [.int c, .int d]) = (decide (a = c) && decide (b = d)) := by
  show (PyData.eqv (.int a) (.int c) && (PyData.eqv (.int b) (.int d) && true)) = _
  rw [eqv_int, eqv_int, Bool.and_true]
theorem dep_pair {a b c d : Int} : min (PyData.tuple [.int a, .int b]).depth (PyData.tuple [.int c, .int d]).depth ≤ 60 := by
  have e : ∀ a b : Int, (PyData.tuple [.int a, .int b]).depth = 1 := fun _ _ => rfl
  rw [e, e]; decide
theorem ne_pair (a b c d : Int) : (if true = true then !PyData.eqv (.tuple [.int a, .int b]) (.tuple [.int c, .int d]) else PyData.eqv (.tuple [.int a, .int b]) (.tuple [.int c, .int d])) = !(decide (a = c) && decide (b = d)) := by
  rw [if_pos rfl, eqv_pair]
theorem ne_pair_same (a b : Int) : (if true = true then !PyData.eqv (.tuple [.int a, .int b]) (.tuple [.int a, .int b]) else PyData.eqv (.tuple [.int a, .int b]) (.tuple [.int a, .int b])) = false := by
  rw [ne_pair]; simp
/-- a def that takes the script, at the law's start -/
theorem sp_start {K : PySem.W.Frag} {H : Hp} {a : Addr} {ns : List Int} {ct : Ct} (hS : SqL K H a (ns.map V.int)) (h : ct [.scr ns] [] (fun d _ => d = .bl true) fun _ _ => False) : spD K 1 ct [.ref a] H (fun v _ => v = .bl true) fun _ _ _ => False :=
  ⟨rfl, [.scr ns], H, [], [], fun d _ => d = .bl true, fun _ _ => False, ⟨fun _ _ e => e, rfl, fun _ _ _ e => (nomatch e), fun _ _ _ _ _ e => (nomatch e), fun _ q => (nomatch q)⟩, .cons (.scr hS) .nil, h, fun d M' v B' l' H' g r e q => by subst q; cases e; rfl, fun _ _ _ _ _ _ _ q => q.elim⟩
end J

namespace Fl
open PySem PySem.Spec PyProof.Rows L2 J

/-! one step of a reading; as many as go -/
local macro_rules
  | `(tactic| tm_at "j") => `(tactic| first
      | exact .inl (by assumption)
      | (refine ⟨le_line rfl, ?_⟩)
      | (refine ⟨⟨by decide, by decide⟩, ?_⟩)
      | (refine ⟨.inl (.inl ⟨by decide, by decide⟩), ?_⟩)
      | (refine ⟨.inl (.inr ⟨by decide, by decide⟩), ?_⟩)
      | (refine ⟨by decide, ?_⟩)
      | (refine ⟨fun _ => ?_, fun z => Bool.noConfusion z⟩)
      | (refine ⟨fun z => Bool.noConfusion z, fun _ => ?_⟩)
      | (refine ⟨fun hb => ?_, fun hb => ?_⟩)
      | (refine ⟨rfl, ?_⟩)
      | (refine ⟨_, rfl, ?_⟩)
      | (refine ⟨_, (by assumption), ?_⟩)
      | (refine ⟨_, _, rfl, rfl, ?_⟩)
      | (refine ⟨_, _, _, (by assumption), rfl, rfl, ?_⟩))
  | `(tactic| tm_at "js") => `(tactic| repeat' (tm_at "j"))

def top (i : Nat) : Stmt := PySem.Challenge.pw_floorrun_k20_whole_lifts.main.body.getD i (.Pass ⟨0, 0, 0, 0⟩)
abbrev s_is_count : Stmt := (top 4)
abbrev s_is_lift : Stmt := (top 7)
abbrev s_need_lift : Stmt := (top 8)
abbrev s_way_gone : Stmt := (top 9)
abbrev s_place : Stmt := (top 10)
abbrev s_lift_at : Stmt := (top 11)
abbrev s__law_cell : Stmt := (top 13)
abbrev s__law_drawn : Stmt := (top 14)
abbrev s__law_lift : Stmt := (top 15)
abbrev s__law_lift_at : Stmt := (top 16)
abbrev s_law : Stmt := (top 17)
def d_is_count : He.DefD := ⟨("is_count", none), "is_count", "is_count", defArgs s_is_count, defBody s_is_count, defScope s_is_count, [], []⟩
def d_is_lift : He.DefD := ⟨("is_lift", none), "is_lift", "is_lift", defArgs s_is_lift, defBody s_is_lift, defScope s_is_lift, [], []⟩
def d_need_lift : He.DefD := ⟨("need_lift", none), "need_lift", "need_lift", defArgs s_need_lift, defBody s_need_lift, defScope s_need_lift, [], []⟩
def d_way_gone : He.DefD := ⟨("way_gone", none), "way_gone", "way_gone", defArgs s_way_gone, defBody s_way_gone, defScope s_way_gone, [], []⟩
def d_place : He.DefD := ⟨("place", none), "place", "place", defArgs s_place, defBody s_place, defScope s_place, [], []⟩
def d_lift_at : He.DefD := ⟨("lift_at", none), "lift_at", "lift_at", defArgs s_lift_at, defBody s_lift_at, defScope s_lift_at, [], []⟩
def d__law_cell : He.DefD := ⟨("_law_cell", none), "_law_cell", "_law_cell", defArgs s__law_cell, defBody s__law_cell, defScope s__law_cell, [], []⟩
def d__law_drawn : He.DefD := ⟨("_law_drawn", none), "_law_drawn", "_law_drawn", defArgs s__law_drawn, defBody s__law_drawn, defScope s__law_drawn, [], []⟩
def d__law_lift : He.DefD := ⟨("_law_lift", none), "_law_lift", "_law_lift", defArgs s__law_lift, defBody s__law_lift, defScope s__law_lift, [], []⟩
def d__law_lift_at : He.DefD := ⟨("_law_lift_at", none), "_law_lift_at", "_law_lift_at", defArgs s__law_lift_at, defBody s__law_lift_at, defScope s__law_lift_at, [], []⟩
def d_law : He.DefD := ⟨("law", none), "law", "law", defArgs s_law, defBody s_law, defScope s_law, [], []⟩
def fn : List He.DefD := [d_is_count, d_is_lift, d_need_lift, d_way_gone, d_place, d_lift_at, d__law_cell, d__law_drawn, d__law_lift, d__law_lift_at, d_law]
def fa : List He.Fa := [.glo "is_count",
  .glo "is_lift",
  .glo "need_lift",
  .glo "way_gone",
  .glo "place",
  .glo "lift_at",
  .glo "_law_cell",
  .glo "_law_drawn",
  .glo "_law_lift",
  .glo "_law_lift_at",
  .glo "law",
  .free "abs",
  .free "bool",
  .free "int",
  .free "isinstance",
  .free "len",
  .free "max",
  .free "min",
  .free "range",
  .free "str",
  .free "tuple",
  .int "MOST" 400,
  .glo "RunError",
  .exc "RunError",
  .glo "BadLift",
  .exc "BadLift"]
def loose : List PySem.Str := ["is_count", "is_lift", "need_lift", "way_gone", "place", "lift_at", "_law_cell", "_law_drawn", "_law_lift", "_law_lift_at", "RunError", "BadLift", "MOST"]

structure Txt (K : PySem.W.Frag) (mg : Str → Option Value) : Prop where
  f_is_count : ∃ fd, FunD K "is_count" "is_count" (defArgs s_is_count) (defBody s_is_count) (defScope s_is_count) [] [] (He.fAd K ("is_count", none)) fd
  f_is_lift : ∃ fd, FunD K "is_lift" "is_lift" (defArgs s_is_lift) (defBody s_is_lift) (defScope s_is_lift) [] [] (He.fAd K ("is_lift", none)) fd
  f_need_lift : ∃ fd, FunD K "need_lift" "need_lift" (defArgs s_need_lift) (defBody s_need_lift) (defScope s_need_lift) [] [] (He.fAd K ("need_lift", none)) fd
  f_way_gone : ∃ fd, FunD K "way_gone" "way_gone" (defArgs s_way_gone) (defBody s_way_gone) (defScope s_way_gone) [] [] (He.fAd K ("way_gone", none)) fd
  f_place : ∃ fd, FunD K "place" "place" (defArgs s_place) (defBody s_place) (defScope s_place) [] [] (He.fAd K ("place", none)) fd
  f_lift_at : ∃ fd, FunD K "lift_at" "lift_at" (defArgs s_lift_at) (defBody s_lift_at) (defScope s_lift_at) [] [] (He.fAd K ("lift_at", none)) fd
  f__law_cell : ∃ fd, FunD K "_law_cell" "_law_cell" (defArgs s__law_cell) (defBody s__law_cell) (defScope s__law_cell) [] [] (He.fAd K ("_law_cell", none)) fd
  f__law_drawn : ∃ fd, FunD K "_law_drawn" "_law_drawn" (defArgs s__law_drawn) (defBody s__law_drawn) (defScope s__law_drawn) [] [] (He.fAd K ("_law_drawn", none)) fd
  f__law_lift : ∃ fd, FunD K "_law_lift" "_law_lift" (defArgs s__law_lift) (defBody s__law_lift) (defScope s__law_lift) [] [] (He.fAd K ("_law_lift", none)) fd
  f__law_lift_at : ∃ fd, FunD K "_law_lift_at" "_law_lift_at" (defArgs s__law_lift_at) (defBody s__law_lift_at) (defScope s__law_lift_at) [] [] (He.fAd K ("_law_lift_at", none)) fd
  f_law : ∃ fd, FunD K "law" "law" (defArgs s_law) (defBody s_law) (defScope s_law) [] [] (He.fAd K ("law", none)) fd
  g_is_count : mg "is_count" = some (.ref (He.ga K "is_count"))
  g_is_lift : mg "is_lift" = some (.ref (He.ga K "is_lift"))
  g_need_lift : mg "need_lift" = some (.ref (He.ga K "need_lift"))
  g_way_gone : mg "way_gone" = some (.ref (He.ga K "way_gone"))
  g_place : mg "place" = some (.ref (He.ga K "place"))
  g_lift_at : mg "lift_at" = some (.ref (He.ga K "lift_at"))
  g__law_cell : mg "_law_cell" = some (.ref (He.ga K "_law_cell"))
  g__law_drawn : mg "_law_drawn" = some (.ref (He.ga K "_law_drawn"))
  g__law_lift : mg "_law_lift" = some (.ref (He.ga K "_law_lift"))
  g__law_lift_at : mg "_law_lift_at" = some (.ref (He.ga K "_law_lift_at"))
  g_law : mg "law" = some (.ref (He.ga K "law"))
  u_abs : mg "abs" = none
  u_bool : mg "bool" = none
  u_int : mg "int" = none
  u_isinstance : mg "isinstance" = none
  u_len : mg "len" = none
  u_max : mg "max" = none
  u_min : mg "min" = none
  u_range : mg "range" = none
  u_str : mg "str" = none
  u_tuple : mg "tuple" = none
  c_MOST : ∃ t, mg "MOST" = some (.int 400 t)
  g_RunError : mg "RunError" = some (.ref (He.ga K "RunError"))
  x_RunError : Exc K mg "RunError"
  g_BadLift : mg "BadLift" = some (.ref (He.ga K "BadLift"))
  x_BadLift : Exc K mg "BadLift"

theorem txt {K : PySem.W.Frag} {mg : Str → Option Value} {h : Heap} (X : K.In h) (G : h.Ns mainGlobals mg) (c : He.SaysD fa fn K) : Txt K mg where
  f_is_count := c.def_ 0 (d := d_is_count) rfl
  f_is_lift := c.def_ 1 (d := d_is_lift) rfl
  f_need_lift := c.def_ 2 (d := d_need_lift) rfl
  f_way_gone := c.def_ 3 (d := d_way_gone) rfl
  f_place := c.def_ 4 (d := d_place) rfl
  f_lift_at := c.def_ 5 (d := d_lift_at) rfl
  f__law_cell := c.def_ 6 (d := d__law_cell) rfl
  f__law_drawn := c.def_ 7 (d := d__law_drawn) rfl
  f__law_lift := c.def_ 8 (d := d__law_lift) rfl
  f__law_lift_at := c.def_ 9 (d := d__law_lift_at) rfl
  f_law := c.def_ 10 (d := d_law) rfl
  g_is_count := He.glo_ok X G (c.fact 0 (f := .glo "is_count") rfl)
  g_is_lift := He.glo_ok X G (c.fact 1 (f := .glo "is_lift") rfl)
  g_need_lift := He.glo_ok X G (c.fact 2 (f := .glo "need_lift") rfl)
  g_way_gone := He.glo_ok X G (c.fact 3 (f := .glo "way_gone") rfl)
  g_place := He.glo_ok X G (c.fact 4 (f := .glo "place") rfl)
  g_lift_at := He.glo_ok X G (c.fact 5 (f := .glo "lift_at") rfl)
  g__law_cell := He.glo_ok X G (c.fact 6 (f := .glo "_law_cell") rfl)
  g__law_drawn := He.glo_ok X G (c.fact 7 (f := .glo "_law_drawn") rfl)
  g__law_lift := He.glo_ok X G (c.fact 8 (f := .glo "_law_lift") rfl)
  g__law_lift_at := He.glo_ok X G (c.fact 9 (f := .glo "_law_lift_at") rfl)
  g_law := He.glo_ok X G (c.fact 10 (f := .glo "law") rfl)
  u_abs := He.free_ok X G (c.fact 11 (f := .free "abs") rfl)
  u_bool := He.free_ok X G (c.fact 12 (f := .free "bool") rfl)
  u_int := He.free_ok X G (c.fact 13 (f := .free "int") rfl)
  u_isinstance := He.free_ok X G (c.fact 14 (f := .free "isinstance") rfl)
  u_len := He.free_ok X G (c.fact 15 (f := .free "len") rfl)
  u_max := He.free_ok X G (c.fact 16 (f := .free "max") rfl)
  u_min := He.free_ok X G (c.fact 17 (f := .free "min") rfl)
  u_range := He.free_ok X G (c.fact 18 (f := .free "range") rfl)
  u_str := He.free_ok X G (c.fact 19 (f := .free "str") rfl)
  u_tuple := He.free_ok X G (c.fact 20 (f := .free "tuple") rfl)
  c_MOST := He.int_ok X G (c.fact 21 (f := .int "MOST" 400) rfl)
  g_RunError := He.glo_ok X G (c.fact 22 (f := .glo "RunError") rfl)
  x_RunError := ⟨He.glo_ok X G (c.fact 22 (f := .glo "RunError") rfl), (He.exc_ok (c.fact 23 (f := .exc "RunError") rfl)).1, (He.exc_ok (c.fact 23 (f := .exc "RunError") rfl)).2.1, (He.exc_ok (c.fact 23 (f := .exc "RunError") rfl)).2.2.1, (He.exc_ok (c.fact 23 (f := .exc "RunError") rfl)).2.2.2⟩
  g_BadLift := He.glo_ok X G (c.fact 24 (f := .glo "BadLift") rfl)
  x_BadLift := ⟨He.glo_ok X G (c.fact 24 (f := .glo "BadLift") rfl), (He.exc_ok (c.fact 25 (f := .exc "BadLift") rfl)).1, (He.exc_ok (c.fact 25 (f := .exc "BadLift") rfl)).2.1, (He.exc_ok (c.fact 25 (f := .exc "BadLift") rfl)).2.2.1, (He.exc_ok (c.fact 25 (f := .exc "BadLift") rfl)).2.2.2⟩

section
variable {P : Program} {w : World} {K : PySem.W.Frag} {mg : Str → Option Value} {base : Heap}

def isCount (d : D) (lo hi : Int) : Bool := match d with
  | .int i => decide (lo ≤ i) && decide (i ≤ hi)
  | _ => false
def ct_is_count : Ct := fun ds M Q _ => ∃ d lo hi, ds = [d, .int lo, .int hi] ∧ (tyN M d).isSome = true ∧ Q (.bl (isCount d lo hi)) M

abbrev N_is_count : List Str := ["thing", "low", "high"]
theorem sc_is_count : FnScope N_is_count ["thing", "low", "high"] (defScope s_is_count) := ⟨rfl, rfl, rfl, by decide +kernel, rfl, by decide +kernel, by decide +kernel⟩
theorem ok_is_count (T : Txt K mg) : Ok P w K mg base 1 (He.fAd K ("is_count", none)) ["thing", "low", "high"] 3 ct_is_count := by
  obtain ⟨fd, F⟩ := T.f_is_count
  have nd := sc_is_count.nd
  refine Ok.of F (F.bindsN fun _ _ _ _ _ _ us hl => match us, hl with | [_, _, _], _ => rfl) sc_is_count rfl fun cdv A outer s c jx tk hp hr => ⟨_, (jss_one (js_ret (je_and (je_isi .int rfl T.u_isinstance rfl T.u_int boot_int (je_var 0 (pv 0))) (je_and (je_not (je_isi .bl rfl T.u_isinstance rfl T.u_bool boot_bool (je_var 0 (pv 0)))) (je_one (je_chain jo_le jo_le (je_var 1 (pv 1)) (je_var 0 (pv 0)) (je_var 2 (pv 2)))))))), fun ds M Q h => ?_⟩
  clear hr hp tk jx nd F T
  obtain ⟨d, lo, hi, rfl, ht, hq⟩ := h
  obtain ⟨a, ha⟩ := Option.isSome_iff_exists.mp ht
  refine ⟨a, ha, ?_⟩
  cases d with
  | int i =>
    cases ha
    refine ⟨fun _ => ⟨_, rfl, ⟨fun _ => ⟨fun h1 => ?_, fun h1 => ?_⟩, fun z => Bool.noConfusion z⟩⟩, fun z => Bool.noConfusion z⟩
    · refine .inl ?_
      have e : isCount (.int i) lo hi = decide (i ≤ hi) := by show (decide (lo ≤ i) && decide (i ≤ hi)) = _; rw [h1]; rfl
      rw [e] at hq; exact hq
    · refine .inl ?_
      have e : isCount (.int i) lo hi = false := by show (decide (lo ≤ i) && decide (i ≤ hi)) = _; rw [h1]; rfl
      rw [e] at hq; exact hq
  | bl b =>
    cases ha
    exact ⟨fun _ => ⟨_, rfl, ⟨fun z => Bool.noConfusion z, fun _ => .inl hq⟩⟩, fun z => Bool.noConfusion z⟩
  | ref r =>
    have e : isB a .int = false := by
      unfold tyN at ha
      dsimp only at ha
      split at ha <;> cases ha <;> rfl
    exact ⟨fun z => (by rw [e] at z; cases z), fun _ => .inl hq⟩
  | _ => cases ha; exact ⟨fun z => Bool.noConfusion z, fun _ => .inl hq⟩

def isLift : D → Bool
  | .tup [.str way, l, t, w, f, p] => (decide (way = "across") || decide (way = "up")) && (isCount l 0 400 && (isCount t 0 400 && (isCount w 1 400 && (isCount f 1 400 && isCount p 1 100))))
  | _ => false
/-- a thing whose kind shows -/
def Plain1 (M : Mem) (d : D) : Prop := (tyN M d).isSome = true ∧ ∀ xs, d = .tup xs → ∀ x ∈ xs, (tyN M x).isSome = true
def ct_is_lift : Ct := fun ds M Q _ => ∃ d, ds = [d] ∧ Plain1 M d ∧ Q (.bl (isLift d)) M

abbrev N_is_lift : List Str := ["thing", "way", "left", "top", "wide", "far", "pace"]
theorem sc_is_lift : FnScope N_is_lift ["thing"] (defScope s_is_lift) := ⟨rfl, rfl, rfl, by decide +kernel, rfl, by decide +kernel, by decide +kernel⟩
theorem ok_is_lift (T : Txt K mg) : Ok P w K mg base 2 (He.fAd K ("is_lift", none)) ["thing"] 1 ct_is_lift := by
  obtain ⟨fd, F⟩ := T.f_is_lift
  obtain ⟨fd_is_count, F_is_count, b_is_count, k_is_count⟩ := ok_is_count (P := P) (w := w) (base := base) T
  have nd := sc_is_lift.nd
  refine Ok.of F (F.bindsN fun _ _ _ _ _ _ us hl => match us, hl with | [_], _ => rfl) sc_is_lift rfl fun cdv A outer s c jx tk hp hr => ⟨_, (jss_cons (js_if (JW.pt (jw_or (jt_not (jt_val (je_isi .tup rfl T.u_isinstance rfl T.u_tuple boot_tuple (je_var 0 (pv 0))))) (jw_or (jt_cmp (jo_ne (room_units hr)) (je_callB jc_len rfl T.u_len boot_len (ja_cons (je_var 0 (pv 0)) ja_nil)) je_int) (jw_or1 (jt_not (jt_val (je_isi .str rfl T.u_isinstance rfl T.u_str boot_str (je_ix ji_seq (je_var 0 (pv 0)) je_int))))))))
    (jss_one (js_ret je_bl))
    jss_nil)
    (jss_cons (js_if (jt_cmp (jo_notInL (room_units hr)) (je_ix ji_seq (je_var 0 (pv 0)) je_int) (je_tup (ja_cons je_str (ja_cons je_str ja_nil))))
    (jss_one (js_ret je_bl))
    jss_nil)
    (jss_cons (js_asg (je_var 0 (pv 0)) (jg_tup rfl (jgs_cons (jg_name (i := 1) nd rfl (by first | exact Or.inl rfl | exact Or.inr rfl)) (jgs_cons (jg_name (i := 2) nd rfl (by first | exact Or.inl rfl | exact Or.inr rfl)) (jgs_cons (jg_name (i := 3) nd rfl (by first | exact Or.inl rfl | exact Or.inr rfl)) (jgs_cons (jg_name (i := 4) nd rfl (by first | exact Or.inl rfl | exact Or.inr rfl)) (jgs_cons (jg_name (i := 5) nd rfl (by first | exact Or.inl rfl | exact Or.inr rfl)) (jgs_cons (jg_name (i := 6) nd rfl (by first | exact Or.inl rfl | exact Or.inr rfl)) jgs_nil))))))))
    (jss_cons (js_if (JW.pt (jw_or (jt_not (jt_val (je_call jx F_is_count (hr.mono (by decide)) rfl T.g_is_count k_is_count b_is_count (ja_cons (je_var 2 (pv 2)) (ja_cons je_int (ja_cons (je_gint rfl T.c_MOST) ja_nil)))))) (jw_or1 (jt_not (jt_val (je_call jx F_is_count (hr.mono (by decide)) rfl T.g_is_count k_is_count b_is_count (ja_cons (je_var 3 (pv 3)) (ja_cons je_int (ja_cons (je_gint rfl T.c_MOST) ja_nil)))))))))
    (jss_one (js_ret je_bl))
    jss_nil)
    (jss_one (js_ret (je_and (je_call jx F_is_count (hr.mono (by decide)) rfl T.g_is_count k_is_count b_is_count (ja_cons (je_var 4 (pv 4)) (ja_cons je_int (ja_cons (je_gint rfl T.c_MOST) ja_nil)))) (je_and (je_call jx F_is_count (hr.mono (by decide)) rfl T.g_is_count k_is_count b_is_count (ja_cons (je_var 5 (pv 5)) (ja_cons je_int (ja_cons (je_gint rfl T.c_MOST) ja_nil)))) (je_one (je_call jx F_is_count (hr.mono (by decide)) rfl T.g_is_count k_is_count b_is_count (ja_cons (je_var 6 (pv 6)) (ja_cons je_int (ja_cons je_int ja_nil))))))))))))), fun ds M Q h => ?_⟩
  clear hr hp tk jx nd F_is_count b_is_count k_is_count fd_is_count F T
  obtain ⟨d, rfl, ⟨ht, hx⟩, hq⟩ := h
  obtain ⟨a, ha⟩ := Option.isSome_iff_exists.mp ht
  have no : (∀ xs, d ≠ .tup xs) → isB a .tup = false := fun hn => by
    cases d with
    | tup xs => exact absurd rfl (hn xs)
    | ref r =>
      unfold tyN at ha
      dsimp only at ha
      split at ha <;> cases ha <;> rfl
    | _ => cases ha; rfl
  by_cases hd : ∃ xs, d = .tup xs
  · obtain ⟨xs, rfl⟩ := hd
    refine ⟨.tup, rfl, ⟨fun z => Bool.noConfusion z, fun _ => ?_⟩⟩
    refine ⟨fun h6 => ⟨fun _ => ?_, fun z => Bool.noConfusion z⟩, fun h6 => ?_⟩
    · have hn : xs.length ≠ 6 := fun z => by rw [z] at h6; cases h6
      have e : isLift (.tup xs) = false := by
        unfold isLift
        split
        · rename_i q
          cases q
          exact absurd rfl hn
        · rfl
      rw [e] at hq
      exact .inl hq
    · have hn : xs.length = 6 := by
        by_cases z : xs.length = 6
        · exact z
        · rw [show decide ((xs.length : Int) = 6) = false from decide_eq_false (by omega)] at h6
          cases h6
      obtain ⟨d0, d1, d2, d3, d4, d5, rfl⟩ : ∃ d0 d1 d2 d3 d4 d5, xs = [d0, d1, d2, d3, d4, d5] := by
        match xs, hn with
        | [a0, a1, a2, a3, a4, a5], _ => exact ⟨a0, a1, a2, a3, a4, a5, rfl⟩
      have hx := hx _ rfl
      obtain ⟨b0, hb0⟩ := Option.isSome_iff_exists.mp (hx d0 (by simp))
      refine ⟨d0, rfl, b0, hb0, ⟨fun z => ?_, fun z => ?_⟩⟩
      · have e : isLift (.tup [d0, d1, d2, d3, d4, d5]) = false := by
          unfold isLift
          split
          · rename_i q
            cases q
            cases hb0
            cases z
          · rfl
        rw [e] at hq
        exact .inl hq
      · obtain ⟨way, rfl⟩ : ∃ way, d0 = .str way := by
          cases d0 with
          | str way => exact ⟨way, rfl⟩
          | ref r =>
            unfold tyN at hb0
            dsimp only at hb0
            split at hb0 <;> cases hb0 <;> cases z
          | _ => cases hb0; cases z
        refine ⟨.str way, rfl, le_line rfl, _, _, _, rfl, .inr rfl, rfl, by show 0 ≤ 60; omega, ?_⟩
        have ew : ([PyData.str "across", PyData.str "up"].any fun y => PyData.eqv y (.str way)) = (decide (way = "across") || decide (way = "up")) := by
          show (PyData.eqv (.str "across") (.str way) || (PyData.eqv (.str "up") (.str way) || false)) = _
          rw [eqv_str, eqv_str, Bool.or_false]
          congr 1
          · exact decide_eq_decide.mpr ⟨Eq.symm, Eq.symm⟩
          · exact decide_eq_decide.mpr ⟨Eq.symm, Eq.symm⟩
        have el : isLift (.tup [.str way, d1, d2, d3, d4, d5]) = ((decide (way = "across") || decide (way = "up")) && (isCount d1 0 400 && (isCount d2 0 400 && (isCount d3 1 400 && (isCount d4 1 400 && isCount d5 1 100))))) := rfl
        rw [el] at hq
        refine ⟨fun z => ?_, fun z => ?_⟩
        · have z2 : (!(decide (way = "across") || decide (way = "up"))) = true := by rw [← ew]; exact z
          rw [Bool.not_eq_true'] at z2
          rw [z2] at hq
          exact .inl hq
        · have z2 : (!(decide (way = "across") || decide (way = "up"))) = false := by rw [← ew]; exact z
          rw [Bool.not_eq_false'] at z2
          rw [z2, Bool.true_and] at hq
          refine ⟨rfl, ?_⟩
          have cnt : ∀ {x : D} {lo hi : Int} {R : SQ}, x ∈ [D.str way, d1, d2, d3, d4, d5] → R (.bl (isCount x lo hi)) M → [x, D.int lo, D.int hi].length = 3 ∧ ct_is_count [x, .int lo, .int hi] M R c.Ed := fun {x lo hi R} hm r => ⟨rfl, x, lo, hi, rfl, hx x hm, r⟩
          refine cnt (by simp) ⟨fun z => ⟨fun _ => ?_, fun z => Bool.noConfusion z⟩, fun z => cnt (by simp) ⟨fun z2 => ?_, fun z2 => ?_⟩⟩
          · rw [Bool.not_eq_true'] at z
            rw [z] at hq
            exact .inl hq
          · rw [Bool.not_eq_false'] at z
            rw [Bool.not_eq_true'] at z2
            rw [z, z2] at hq
            exact .inl hq
          · rw [Bool.not_eq_false'] at z z2
            rw [z, z2, Bool.true_and, Bool.true_and] at hq
            refine cnt (by simp) ⟨fun z3 => cnt (by simp) ⟨fun z4 => cnt (by simp) (.inl ?_), fun z4 => .inl ?_⟩, fun z3 => .inl ?_⟩
            · rw [z3, z4] at hq
              exact hq
            · rw [z3, z4] at hq
              exact hq
            · rw [z3] at hq
              exact hq
  · refine ⟨a, ha, ?_⟩
    have hn : ∀ xs, d ≠ .tup xs := fun xs e => hd ⟨xs, e⟩
    have e : isLift d = false := by
      unfold isLift
      split
      · exact absurd rfl (hn _)
      · rfl
    rw [e] at hq
    rw [no hn]
    exact ⟨fun _ => ⟨fun _ => .inl hq, fun z => Bool.noConfusion z⟩, fun z => Bool.noConfusion z⟩

def ct_need_lift (K : PySem.W.Frag) : Ct := fun ds M Q E => ∃ d, ds = [d] ∧ Plain1 M d ∧ (isLift d = true → Q .non M) ∧ (isLift d = false → E (He.ga K "BadLift") M)

abbrev N_need_lift : List Str := ["lift"]
theorem sc_need_lift : FnScope N_need_lift ["lift"] (defScope s_need_lift) := ⟨rfl, rfl, rfl, by decide +kernel, rfl, by decide +kernel, by decide +kernel⟩
theorem ok_need_lift (T : Txt K mg) : Ok P w K mg base 3 (He.fAd K ("need_lift", none)) ["lift"] 1 (ct_need_lift K) := by
  obtain ⟨fd, F⟩ := T.f_need_lift
  obtain ⟨fd_is_lift, F_is_lift, b_is_lift, k_is_lift⟩ := ok_is_lift (P := P) (w := w) (base := base) T
  have nd := sc_need_lift.nd
  refine Ok.of F (F.bindsN fun _ _ _ _ _ _ us hl => match us, hl with | [_], _ => rfl) sc_need_lift rfl fun cdv A outer s c jx tk hp hr => ⟨_, (jss_one (js_if (jt_not (jt_val (je_call jx F_is_lift (hr.mono (by decide)) rfl T.g_is_lift k_is_lift b_is_lift (ja_cons (je_var 0 (pv 0)) ja_nil))))
    (jss_one (js_raise jx tk rfl T.x_BadLift.e T.x_BadLift.g T.x_BadLift.k T.x_BadLift.s T.x_BadLift.t rfl))
    jss_nil)), fun ds M Q h => ?_⟩
  clear hr hp tk jx nd F_is_lift b_is_lift k_is_lift fd_is_lift F T
  obtain ⟨d, rfl, hp1, hq, he⟩ := h
  refine ⟨rfl, d, rfl, hp1, ⟨fun z => he (Bool.not_eq_true' _ ▸ z), fun z => .inl (hq (Bool.not_eq_false' _ ▸ z))⟩⟩

/-- how far a lift has gone -/
def wayGone (far pace t : Int) : Int := if t / pace % (2 * far) ≤ far then t / pace % (2 * far) else 2 * far - t / pace % (2 * far)
def liftD (way : Str) (l t w f p : Int) : D := .tup [.str way, .int l, .int t, .int w, .int f, .int p]
def ct_way_gone : Ct := fun ds M Q _ => ∃ way l t w f p n, ds = [liftD way l t w f p, .int n] ∧ 1 ≤ f ∧ f ≤ 400 ∧ 1 ≤ p ∧ p ≤ 100 ∧ Q (.int (wayGone f p n)) M

abbrev N_way_gone : List Str := ["lift", "time", "way", "left", "top", "wide", "far", "pace", "phase"]
theorem sc_way_gone : FnScope N_way_gone ["lift", "time"] (defScope s_way_gone) := ⟨rfl, rfl, rfl, by decide +kernel, rfl, by decide +kernel, by decide +kernel⟩
theorem ok_way_gone (T : Txt K mg) : Ok P w K mg base 1 (He.fAd K ("way_gone", none)) ["lift", "time"] 2 ct_way_gone := by
  obtain ⟨fd, F⟩ := T.f_way_gone
  have nd := sc_way_gone.nd
  refine Ok.of F (F.bindsN fun _ _ _ _ _ _ us hl => match us, hl with | [_, _], _ => rfl) sc_way_gone rfl fun cdv A outer s c jx tk hp hr => ⟨_, (jss_cons (js_asg (je_var 0 (pv 0)) (jg_tup rfl (jgs_cons (jg_name (i := 2) nd rfl (by first | exact Or.inl rfl | exact Or.inr rfl)) (jgs_cons (jg_name (i := 3) nd rfl (by first | exact Or.inl rfl | exact Or.inr rfl)) (jgs_cons (jg_name (i := 4) nd rfl (by first | exact Or.inl rfl | exact Or.inr rfl)) (jgs_cons (jg_name (i := 5) nd rfl (by first | exact Or.inl rfl | exact Or.inr rfl)) (jgs_cons (jg_name (i := 6) nd rfl (by first | exact Or.inl rfl | exact Or.inr rfl)) (jgs_cons (jg_name (i := 7) nd rfl (by first | exact Or.inl rfl | exact Or.inr rfl)) jgs_nil))))))))
    (jss_cons (js_set (i := 8) nd rfl (by first | exact Or.inl rfl | exact Or.inr rfl) (je_op jo_mod (je_op jo_div (je_var 1 (pv 1)) (je_var 7 (pv 7))) (je_op jo_mul je_int (je_var 6 (pv 6)))))
    (jss_one (js_ret (je_if (jt_cmp jo_le (je_var 8 (pv 8)) (je_var 6 (pv 6))) (je_var 8 (pv 8)) (je_op jo_sub (je_op jo_mul je_int (je_var 6 (pv 6))) (je_var 8 (pv 8)))))))), fun ds M Q h => ?_⟩
  clear hr hp tk jx nd F T
  obtain ⟨way, l, t, wi, f, p, n, rfl, f1, f2, p1, p2, hq⟩ := h
  refine ⟨rfl, ⟨⟨by omega, log9000 (by omega)⟩, .inl (.inl ⟨by decide, by decide⟩), by omega, fun h1 => ?_, fun h1 => ?_⟩⟩
  · refine .inl ?_
    have e : wayGone f p n = n / p % (2 * f) := if_pos (of_decide_eq_true h1)
    rw [e] at hq; exact hq
  · refine ⟨.inl (.inl ⟨by decide, by decide⟩), .inl ?_⟩
    have e : wayGone f p n = 2 * f - n / p % (2 * f) := if_neg (of_decide_eq_false h1)
    rw [e] at hq; exact hq

/-- where a lift is -/
def placeL (way : Str) (l t f p n : Int) : Int × Int := if way = "across" then (l + wayGone f p n, t) else (l, t - wayGone f p n)
def ct_place : Ct := fun ds M Q _ => ∃ way l t w f p n, ds = [liftD way l t w f p, .int n] ∧ 1 ≤ f ∧ f ≤ 400 ∧ 1 ≤ p ∧ p ≤ 100 ∧ Q (.tup [.int (placeL way l t f p n).1, .int (placeL way l t f p n).2]) M

abbrev N_place : List Str := ["lift", "time", "way", "left", "top"]
theorem sc_place : FnScope N_place ["lift", "time"] (defScope s_place) := ⟨rfl, rfl, rfl, by decide +kernel, rfl, by decide +kernel, by decide +kernel⟩
theorem ok_place (T : Txt K mg) : Ok P w K mg base 2 (He.fAd K ("place", none)) ["lift", "time"] 2 ct_place := by
  obtain ⟨fd, F⟩ := T.f_place
  obtain ⟨fd_way_gone, F_way_gone, b_way_gone, k_way_gone⟩ := ok_way_gone (P := P) (w := w) (base := base) T
  have nd := sc_place.nd
  refine Ok.of F (F.bindsN fun _ _ _ _ _ _ us hl => match us, hl with | [_, _], _ => rfl) sc_place rfl fun cdv A outer s c jx tk hp hr => ⟨_, (jss_cons (js_asg (je_slice (je_var 0 (pv 0)) jo_none (jo_some je_int)) (jg_tup rfl (jgs_cons (jg_name (i := 2) nd rfl (by first | exact Or.inl rfl | exact Or.inr rfl)) (jgs_cons (jg_name (i := 3) nd rfl (by first | exact Or.inl rfl | exact Or.inr rfl)) (jgs_cons (jg_name (i := 4) nd rfl (by first | exact Or.inl rfl | exact Or.inr rfl)) jgs_nil)))))
    (jss_cons (js_if (jt_cmp (jo_eq (room_units hr)) (je_var 2 (pv 2)) je_str)
    (jss_one (js_ret (je_tup (ja_cons (je_op jo_add (je_var 3 (pv 3)) (je_call jx F_way_gone (hr.mono (by decide)) rfl T.g_way_gone k_way_gone b_way_gone (ja_cons (je_var 0 (pv 0)) (ja_cons (je_var 1 (pv 1)) ja_nil)))) (ja_cons (je_var 4 (pv 4)) ja_nil)))))
    jss_nil)
    (jss_one (js_ret (je_tup (ja_cons (je_var 3 (pv 3)) (ja_cons (je_op jo_sub (je_var 4 (pv 4)) (je_call jx F_way_gone (hr.mono (by decide)) rfl T.g_way_gone k_way_gone b_way_gone (ja_cons (je_var 0 (pv 0)) (ja_cons (je_var 1 (pv 1)) ja_nil)))) ja_nil))))))), fun ds M Q h => ?_⟩
  clear hr hp tk jx nd F_way_gone b_way_gone k_way_gone fd_way_gone F T
  obtain ⟨way, l, t, wi, f, p, n, rfl, f1, f2, p1, p2, hq⟩ := h
  tm_at "j"
  tm_at "j"
  refine ⟨fun hb => ?_, fun hb => ?_⟩
  · refine ⟨rfl, way, l, t, wi, f, p, n, rfl, f1, f2, p1, p2, le_line rfl, .inl ?_⟩
    have e : placeL way l t f p n = (l + wayGone f p n, t) := if_pos (of_decide_eq_true hb)
    rw [e] at hq; exact hq
  · refine ⟨rfl, way, l, t, wi, f, p, n, rfl, f1, f2, p1, p2, le_line rfl, .inl ?_⟩
    have e : placeL way l t f p n = (l, t - wayGone f p n) := if_neg (of_decide_eq_false hb)
    rw [e] at hq; exact hq

def ct_lift_at (K : PySem.W.Frag) : Ct := fun ds M Q _ => ∃ way l t w f p n, ds = [liftD way l t w f p, .int n] ∧ isLift (liftD way l t w f p) = true ∧ Q (.tup [.int (placeL way l t f p n).1, .int (placeL way l t f p n).2]) M
theorem isCount_int {i lo hi : Int} : isCount (.int i) lo hi = true ↔ lo ≤ i ∧ i ≤ hi := by
  show (decide (lo ≤ i) && decide (i ≤ hi)) = true ↔ _
  rw [Bool.and_eq_true, decide_eq_true_iff, decide_eq_true_iff]
theorem isLift_iff {way : Str} {l t w f p : Int} : isLift (liftD way l t w f p) = true ↔ (way = "across" ∨ way = "up") ∧ (0 ≤ l ∧ l ≤ 400) ∧ (0 ≤ t ∧ t ≤ 400) ∧ (1 ≤ w ∧ w ≤ 400) ∧ (1 ≤ f ∧ f ≤ 400) ∧ (1 ≤ p ∧ p ≤ 100) := by
  show ((decide (way = "across") || decide (way = "up")) && (isCount (.int l) 0 400 && (isCount (.int t) 0 400 && (isCount (.int w) 1 400 && (isCount (.int f) 1 400 && isCount (.int p) 1 100))))) = true ↔ _
  rw [Bool.and_eq_true, Bool.and_eq_true, Bool.and_eq_true, Bool.and_eq_true, Bool.and_eq_true, Bool.or_eq_true, decide_eq_true_iff, decide_eq_true_iff, isCount_int, isCount_int, isCount_int, isCount_int, isCount_int]
theorem plain_lift {M : Mem} {way : Str} {l t w f p : Int} : Plain1 M (liftD way l t w f p) := ⟨rfl, fun xs e x hx => by
  cases e
  rcases List.mem_cons.mp hx with rfl | hx
  · rfl
  rcases List.mem_cons.mp hx with rfl | hx
  · rfl
  rcases List.mem_cons.mp hx with rfl | hx
  · rfl
  rcases List.mem_cons.mp hx with rfl | hx
  · rfl
  rcases List.mem_cons.mp hx with rfl | hx
  · rfl
  rcases List.mem_cons.mp hx with rfl | hx
  · rfl
  cases hx⟩

abbrev N_lift_at : List Str := ["lift", "time"]
theorem sc_lift_at : FnScope N_lift_at ["lift", "time"] (defScope s_lift_at) := ⟨rfl, rfl, rfl, by decide +kernel, rfl, by decide +kernel, by decide +kernel⟩
theorem ok_lift_at (T : Txt K mg) : Ok P w K mg base 4 (He.fAd K ("lift_at", none)) ["lift", "time"] 2 (ct_lift_at K) := by
  obtain ⟨fd, F⟩ := T.f_lift_at
  obtain ⟨fd_place, F_place, b_place, k_place⟩ := ok_place (P := P) (w := w) (base := base) T
  obtain ⟨fd_need_lift, F_need_lift, b_need_lift, k_need_lift⟩ := ok_need_lift (P := P) (w := w) (base := base) T
  have nd := sc_lift_at.nd
  refine Ok.of F (F.bindsN fun _ _ _ _ _ _ us hl => match us, hl with | [_, _], _ => rfl) sc_lift_at rfl fun cdv A outer s c jx tk hp hr => ⟨_, (jss_cons (js_expr (je_call jx F_need_lift (hr.mono (by decide)) rfl T.g_need_lift k_need_lift b_need_lift (ja_cons (je_var 0 (pv 0)) ja_nil)))
    (jss_one (js_ret (je_call jx F_place (hr.mono (by decide)) rfl T.g_place k_place b_place (ja_cons (je_var 0 (pv 0)) (ja_cons (je_var 1 (pv 1)) ja_nil)))))), fun ds M Q h => ?_⟩
  clear hr hp tk jx nd F_place b_place k_place fd_place F_need_lift b_need_lift k_need_lift fd_need_lift F T
  obtain ⟨way, l, t, wi, f, p, n, rfl, hl, hq⟩ := h
  obtain ⟨-, -, -, -, ⟨f1, f2⟩, p1, p2⟩ := isLift_iff.mp hl
  refine ⟨rfl, _, rfl, plain_lift, fun _ => ⟨rfl, way, l, t, wi, f, p, n, rfl, f1, f2, p1, p2, .inl hq⟩, fun z => ?_⟩
  rw [hl] at z
  cases z

def ct__law_cell : Ct := fun ds M Q _ => ∃ ns k, ds = [.scr ns, .int k] ∧ 0 ≤ k ∧ k < 2 ^ 60 ∧ ns.length ≤ 63 ∧ ∀ i, Q (.int i) M

abbrev N__law_cell : List Str := ["_law_script", "_law_k"]
theorem sc__law_cell : FnScope N__law_cell ["_law_script", "_law_k"] (defScope s__law_cell) := ⟨rfl, rfl, rfl, by decide +kernel, rfl, by decide +kernel, by decide +kernel⟩
theorem ok__law_cell (T : Txt K mg) : Ok P w K mg base 1 (He.fAd K ("_law_cell", none)) ["_law_script", "_law_k"] 2 ct__law_cell := by
  obtain ⟨fd, F⟩ := T.f__law_cell
  have nd := sc__law_cell.nd
  refine Ok.of F (F.bindsN fun _ _ _ _ _ _ us hl => match us, hl with | [_, _], _ => rfl) sc__law_cell rfl fun cdv A outer s c jx tk hp hr => ⟨_, (jss_cons (js_if (jt_cmp (jo_eq (room_units hr)) (je_var 0 (pv 0)) (je_lst ja_nil))
    (jss_one (js_ret (je_op jo_mul (je_var 1 (pv 1)) je_int)))
    jss_nil)
    (jss_one (js_ret (je_op jo_add (je_ix ji_seq (je_var 0 (pv 0)) (je_op jo_mod (je_var 1 (pv 1)) (je_callB jc_len rfl T.u_len boot_len (ja_cons (je_var 0 (pv 0)) ja_nil)))) (je_op jo_mul (je_op jo_div (je_var 1 (pv 1)) (je_callB jc_len rfl T.u_len boot_len (ja_cons (je_var 0 (pv 0)) ja_nil))) je_int))))), fun ds M Q h => ?_⟩
  clear hr hp tk jx nd F T
  obtain ⟨ns, k, rfl, k0, k1, hn, hq⟩ := h
  refine ⟨le_line rfl, _, _, rfl, rfl, by show min _ 1 ≤ 60; omega, fun h1 => ?_, fun h1 => ?_⟩
  · exact ⟨.inl (.inr ⟨by decide, by decide⟩), .inl (hq _)⟩
  · have hne : ns ≠ [] := fun z => by rw [z] at h1; cases h1
    have hl : 0 < ns.length := List.length_pos_iff.mpr hne
    have hL : ((ns.map D.int).length : Int) = (ns.length : Int) := by rw [List.length_map]
    have m0 : 0 ≤ k % (ns.length : Int) := Int.emod_nonneg _ (by omega)
    have m1 : k % (ns.length : Int) < (ns.length : Int) := Int.emod_lt_of_pos _ (by omega)
    refine ⟨_, rfl, ?_⟩
    rw [hL]
    obtain ⟨j, hj⟩ := Int.eq_ofNat_of_zero_le m0
    have hj2 : j < ns.length := by omega
    refine ⟨by omega, _, .int ns[j], rfl, ?_, _, rfl, ?_⟩
    · rw [hj]
      exact atI_nat (by rw [List.getElem?_map, List.getElem?_eq_getElem hj2]; rfl)
    · rw [hL]
      exact ⟨⟨by omega, log9000 (by omega)⟩, .inl (.inr ⟨by decide, by decide⟩), .inl (hq _)⟩

def ct__law_drawn : Ct := fun ds M Q _ => ∃ c k, ds = [.int c, .int k] ∧ ∀ i, 0 ≤ i → Q (.int i) M

abbrev N__law_drawn : List Str := ["_law_cell_here", "_law_k", "_law_more"]
theorem sc__law_drawn : FnScope N__law_drawn ["_law_cell_here", "_law_k"] (defScope s__law_drawn) := ⟨rfl, rfl, rfl, by decide +kernel, rfl, by decide +kernel, by decide +kernel⟩
theorem ok__law_drawn (T : Txt K mg) : Ok P w K mg base 1 (He.fAd K ("_law_drawn", none)) ["_law_cell_here", "_law_k"] 2 ct__law_drawn := by
  obtain ⟨fd, F⟩ := T.f__law_drawn
  have nd := sc__law_drawn.nd
  refine Ok.of F (F.bindsN fun _ _ _ _ _ _ us hl => match us, hl with | [_, _], _ => rfl) sc__law_drawn rfl fun cdv A outer s c jx tk hp hr => ⟨_, (jss_cons (js_set (i := 2) nd rfl (by first | exact Or.inl rfl | exact Or.inr rfl) (je_op jo_mod (je_op jo_add (je_op jo_mul (je_var 0 (pv 0)) je_int) (je_op jo_mul (je_op jo_add (je_var 1 (pv 1)) je_int) je_int)) je_int))
    (jss_cons (js_set (i := 2) nd rfl (by first | exact Or.inl rfl | exact Or.inr rfl) (je_op jo_mod (je_op jo_mul (je_var 2 (pv 2)) (je_var 2 (pv 2))) je_int))
    (jss_cons (js_set (i := 2) nd rfl (by first | exact Or.inl rfl | exact Or.inr rfl) (je_op jo_mul (je_op jo_mul (je_op jo_add (je_op jo_mod (je_var 2 (pv 2)) je_int) je_int) (je_op jo_add (je_op jo_div (je_var 2 (pv 2)) je_int) je_int)) (je_var 2 (pv 2))))
    (jss_one (js_ret (je_op jo_mod (je_var 2 (pv 2)) je_int)))))), fun ds M Q h => ?_⟩
  clear hr hp tk jx nd F T
  obtain ⟨c0, k, rfl, hq⟩ := h
  have b1 : ∀ x : Int, 0 ≤ x % 340282366920938463463374607431768211507 ∧ (x % 340282366920938463463374607431768211507).natAbs < 2 ^ 129 := fun x => by
    have h0 := Int.emod_nonneg x (b := 340282366920938463463374607431768211507) (by decide)
    have h1 := Int.emod_lt_of_pos x (b := 340282366920938463463374607431768211507) (by decide)
    exact ⟨h0, by omega⟩
  refine ⟨.inl (.inr ⟨by decide, by decide⟩), .inl (.inr ⟨by decide, by decide⟩), by decide, ?_⟩
  generalize hx : (c0 * 6364136223846793005 + (k + 1) * 1442695040888963407) % 340282366920938463463374607431768211507 = x
  have bx := hx ▸ b1 (c0 * 6364136223846793005 + (k + 1) * 1442695040888963407)
  refine ⟨.inr (wide_mul bx.2 bx.2 (by decide) (by decide) (by decide)), by decide, ?_⟩
  have y0 := Int.emod_nonneg (x * x) (b := 340282366920938463463374607431768211297) (by decide)
  have y1 := Int.emod_lt_of_pos (x * x) (b := 340282366920938463463374607431768211297) (by decide)
  generalize hy : x * x % 340282366920938463463374607431768211297 = y at y0 y1
  have z0 := Int.emod_nonneg y (b := 18446744073709551557) (by decide)
  have z1 := Int.emod_lt_of_pos y (b := 18446744073709551557) (by decide)
  have w0 : 0 ≤ y / 18446744073709551557 := Int.ediv_nonneg y0 (by decide)
  have w1 : y / 18446744073709551557 < 2 ^ 70 := Int.ediv_lt_of_lt_mul (by decide) (by omega)
  refine ⟨by decide, ⟨by decide, by decide⟩, .inl (.inl ⟨by omega, by omega⟩), ?_⟩
  have a1 : (y % 18446744073709551557 + 1).natAbs < 2 ^ 65 := by omega
  have a2 : (y / 18446744073709551557 + 1).natAbs < 2 ^ 71 := by omega
  refine ⟨.inr (wide_mul (wide_lt a1 a2) (b := 129) (by omega) (by decide) (by decide) (by decide)), by decide, .inl (hq _ (b1 _).1)⟩

def ct__law_lift : Ct := fun ds M Q _ => ∃ (more : Int) (r : Str) (xs : List D), ds = [.int more, .lst (.str r :: xs)] ∧ 0 ≤ more ∧ 1 ≤ r.length ∧ r.length ≤ 400 ∧ xs.length ≤ 400 ∧
  ∀ (way : Str) (l t w f p : Int), (way = "across" ∨ way = "up") → (0 ≤ l ∧ l < 8 * (r.length : Int)) → (0 ≤ t ∧ t < 8 * ((xs.length + 1 : Nat) : Int)) → (4 ≤ w ∧ w ≤ 23) → (1 ≤ f ∧ f ≤ 30) → (1 ≤ p ∧ p ≤ 4) → Q (liftD way l t w f p) M

abbrev N__law_lift : List Str := ["_law_more", "_law_rows", "_law_way", "_law_left", "_law_top"]
theorem sc__law_lift : FnScope N__law_lift ["_law_more", "_law_rows"] (defScope s__law_lift) := ⟨rfl, rfl, rfl, by decide +kernel, rfl, by decide +kernel, by decide +kernel⟩
theorem ok__law_lift (T : Txt K mg) : Ok P w K mg base 1 (He.fAd K ("_law_lift", none)) ["_law_more", "_law_rows"] 2 ct__law_lift := by
  obtain ⟨fd, F⟩ := T.f__law_lift
  have nd := sc__law_lift.nd
  refine Ok.of F (F.bindsN fun _ _ _ _ _ _ us hl => match us, hl with | [_, _], _ => rfl) sc__law_lift rfl fun cdv A outer s c jx tk hp hr => ⟨_, (jss_cons (js_set (i := 2) nd rfl (by first | exact Or.inl rfl | exact Or.inr rfl) (je_ix ji_seq (je_lst (ja_cons je_str (ja_cons je_str ja_nil))) (je_op jo_mod (je_var 0 (pv 0)) je_int)))
    (jss_cons (js_par (i := 3) (j := 4) rfl nd rfl rfl (by decide) rfl rfl (ja_cons (je_op jo_mod (je_op jo_div (je_var 0 (pv 0)) je_int) (je_op jo_mul je_int (je_callB jc_len rfl T.u_len boot_len (ja_cons (je_ix ji_seq (je_var 1 (pv 1)) je_int) ja_nil)))) (ja_cons (je_op jo_mod (je_op jo_div (je_var 0 (pv 0)) je_int) (je_op jo_mul je_int (je_callB jc_len rfl T.u_len boot_len (ja_cons (je_var 1 (pv 1)) ja_nil)))) ja_nil)) (by rfl))
    (jss_one (js_ret (je_tup (ja_cons (je_var 2 (pv 2)) (ja_cons (je_var 3 (pv 3)) (ja_cons (je_var 4 (pv 4)) (ja_cons (je_op jo_add je_int (je_op jo_mod (je_op jo_div (je_var 0 (pv 0)) (je_op jo_pow je_int je_int)) je_int)) (ja_cons (je_op jo_add je_int (je_op jo_mod (je_op jo_div (je_var 0 (pv 0)) (je_op jo_pow je_int je_int)) je_int)) (ja_cons (je_op jo_add je_int (je_op jo_mod (je_op jo_div (je_var 0 (pv 0)) (je_op jo_pow je_int je_int)) je_int)) ja_nil))))))))))), fun ds M Q h => ?_⟩
  clear hr hp tk jx nd F T
  obtain ⟨more, r, xs, rfl, m0, r1, r2, r3, hq⟩ := h
  have eL : ((D.str r :: xs).length : Int) = ((xs.length + 1 : Nat) : Int) := rfl
  have key : ∃ way, (way = ("across" : Str) ∨ way = ("up" : Str)) ∧ atI [D.str ("across" : Str), D.str ("up" : Str)] (more % 2) = some (.str way) := by
    rcases Int.emod_two_eq more with e | e
    · exact ⟨"across", .inl rfl, by rw [e]; rfl⟩
    · exact ⟨"up", .inr rfl, by rw [e]; rfl⟩
  obtain ⟨way, hw, e⟩ := key
  have dm : ∀ (x y : Int), 0 < y → 0 ≤ x % y ∧ x % y < y := fun x y h => ⟨Int.emod_nonneg _ (by omega), Int.emod_lt_of_pos _ h⟩
  refine ⟨le_line rfl, by decide, _, _, rfl, e, by decide, _, .str r, rfl, atI_zero, show r.length ≤ sizeLine from Nat.le_trans r2 (by decide), .inl (.inl ⟨by decide, by decide⟩), by omega, by decide, D.str r :: xs, rfl, .inl (.inl ⟨by decide, by decide⟩), by omega,
    ⟨by decide, by decide, by decide⟩, by decide, by decide, ⟨by decide, by decide, by decide⟩, by decide, by decide, ⟨by decide, by decide, by decide⟩, by decide, by decide, le_line rfl, .inl ?_⟩
  have d1 := dm (more / 2) (8 * (r.length : Int)) (by omega)
  have d2 := dm (more / 512) (8 * ((xs.length + 1 : Nat) : Int)) (by omega)
  have d3 := dm (more / 2 ^ 18) 20 (by omega)
  have d4 := dm (more / 2 ^ 24) 30 (by omega)
  have d5 := dm (more / 2 ^ 30) 4 (by omega)
  exact hq way _ _ _ _ _ hw d1 d2 ⟨by omega, by omega⟩ ⟨by omega, by omega⟩ ⟨by omega, by omega⟩

def ct__law_lift_at : Ct := fun ds M Q _ => ∃ way l t w f p n, ds = [liftD way l t w f p, .int n] ∧ 1 ≤ f ∧ f ≤ 400 ∧ 1 ≤ p ∧ p ≤ 100 ∧ 0 ≤ n ∧ n < 2 ^ 60 ∧ Q (.tup [.int (placeL way l t f p n).1, .int (placeL way l t f p n).2]) M
/-- what holds of a step by step walk to and fro -/
def SwI (f : Int) (k : Nat) (g b : Int) : Prop := ∃ q : Int, q = (k : Int) % (2 * f) ∧ 0 ≤ q ∧ q < 2 * f ∧ (q ≤ f → g = q) ∧ (f < q → g = 2 * f - q) ∧ (0 < q → q < f → b = 1) ∧ (f < q → b = -1) ∧ (b = 1 ∨ b = -1)
theorem swI_step {f : Int} {k : Nat} {g b : Int} (hf : 1 ≤ f) (h : SwI f k g b) : SwI f (k + 1) (g + (if g + b < 0 ∨ f < g + b then 0 - b else b)) (if g + b < 0 ∨ f < g + b then 0 - b else b) := by
  obtain ⟨q, e, q0, q1, h1, h2, h3, h4, h5⟩ := h
  have e2 : ((k + 1 : Nat) : Int) % (2 * f) = if q + 1 = 2 * f then 0 else q + 1 := by
    rw [e]
    have hd := Int.mul_ediv_add_emod (k : Int) (2 * f)
    have h0 := Int.emod_nonneg (k : Int) (b := 2 * f) (by omega)
    have h1 := Int.emod_lt_of_pos (k : Int) (b := 2 * f) (by omega)
    generalize hx : (k : Int) / (2 * f) = x at hd
    generalize hy : (k : Int) % (2 * f) = y at hd h0 h1
    rw [show ((k + 1 : Nat) : Int) = (y + 1) + 2 * f * x by omega, Int.add_mul_emod_self_left]
    split
    · rename_i z
      rw [z, Int.emod_self]
    · exact Int.emod_eq_of_lt (by omega) (by omega)
  refine ⟨_, rfl, ?_⟩
  rw [e2]
  split <;> split <;> omega
theorem swI_gone {f : Int} {k : Nat} {g b : Int} (hf : 1 ≤ f) (h : SwI f k g b) {p n : Int} (hn : n / p = (k : Int)) : g = wayGone f p n := by
  obtain ⟨q, e, q0, q1, h1, h2, -⟩ := h
  unfold wayGone
  rw [hn, ← e]
  split
  · rename_i z; exact h1 z
  · rename_i z; exact h2 (by omega)

abbrev N__law_lift_at : List Str := ["_law_lift_here", "_law_time", "_law_way", "_law_left", "_law_top", "_law_wide", "_law_far", "_law_pace", "_law_gone", "_law_by", "_law_step"]
theorem sc__law_lift_at : FnScope N__law_lift_at ["_law_lift_here", "_law_time"] (defScope s__law_lift_at) := ⟨rfl, rfl, rfl, by decide +kernel, rfl, by decide +kernel, by decide +kernel⟩
theorem ok__law_lift_at (T : Txt K mg) : Ok P w K mg base 1 (He.fAd K ("_law_lift_at", none)) ["_law_lift_here", "_law_time"] 2 ct__law_lift_at := by
  obtain ⟨fd, F⟩ := T.f__law_lift_at
  have nd := sc__law_lift_at.nd
  refine Ok.of F (F.bindsN fun _ _ _ _ _ _ us hl => match us, hl with | [_, _], _ => rfl) sc__law_lift_at rfl fun cdv A outer s c jx tk hp hr => ⟨_, (jss_cons (js_asg (je_var 0 (pv 0)) (jg_tup rfl (jgs_cons (jg_name (i := 2) nd rfl (by first | exact Or.inl rfl | exact Or.inr rfl)) (jgs_cons (jg_name (i := 3) nd rfl (by first | exact Or.inl rfl | exact Or.inr rfl)) (jgs_cons (jg_name (i := 4) nd rfl (by first | exact Or.inl rfl | exact Or.inr rfl)) (jgs_cons (jg_name (i := 5) nd rfl (by first | exact Or.inl rfl | exact Or.inr rfl)) (jgs_cons (jg_name (i := 6) nd rfl (by first | exact Or.inl rfl | exact Or.inr rfl)) (jgs_cons (jg_name (i := 7) nd rfl (by first | exact Or.inl rfl | exact Or.inr rfl)) jgs_nil))))))))
    (jss_cons (js_asg (je_tup (ja_cons je_int (ja_cons je_int ja_nil))) (jg_tup rfl (jgs_cons (jg_name (i := 8) nd rfl (by first | exact Or.inl rfl | exact Or.inr rfl)) (jgs_cons (jg_name (i := 9) nd rfl (by first | exact Or.inl rfl | exact Or.inr rfl)) jgs_nil))))
    (jss_cons (js_for hp rfl (ji_rng1 rfl T.u_range (ja_cons (je_op jo_div (je_var 1 (pv 1)) (je_var 7 (pv 7))) ja_nil)) (jg_name (i := 10) nd rfl (by first | exact Or.inl rfl | exact Or.inr rfl))
    (jss_cons (js_if (JW.pt (jw_or (jt_cmp jo_lt (je_op jo_add (je_var 8 (pv 8)) (je_var 9 (pv 9))) je_int) (jw_or1 (jt_cmp jo_gt (je_op jo_add (je_var 8 (pv 8)) (je_var 9 (pv 9))) (je_var 6 (pv 6))))))
    (jss_one (js_set (i := 9) nd rfl (by first | exact Or.inl rfl | exact Or.inr rfl) (je_op jo_sub je_int (je_var 9 (pv 9)))))
    jss_nil)
    (jss_one (js_set (i := 8) nd rfl (by first | exact Or.inl rfl | exact Or.inr rfl) (je_op jo_add (je_var 8 (pv 8)) (je_var 9 (pv 9)))))))
    (jss_one (js_ret (je_if (jt_cmp (jo_eq (room_units hr)) (je_var 2 (pv 2)) je_str) (je_tup (ja_cons (je_op jo_add (je_var 3 (pv 3)) (je_var 8 (pv 8))) (ja_cons (je_var 4 (pv 4)) ja_nil))) (je_tup (ja_cons (je_var 3 (pv 3)) (ja_cons (je_op jo_sub (je_var 4 (pv 4)) (je_var 8 (pv 8))) ja_nil))))))))), fun ds M Q h => ?_⟩
  clear hr hp tk jx nd F T
  obtain ⟨way, l, t, wi, f, p, n, rfl, f1, f2, p1, p2, n1, n2, hq⟩ := h
  have e0 : 0 ≤ n / p := Int.ediv_nonneg n1 (by omega)
  have e1 : n / p ≤ n := Int.ediv_le_self _ n1
  refine ⟨rfl, le_line rfl, rfl, ⟨by omega, log9000 (by omega)⟩, ⟨by omega, by omega⟩, ?_⟩
  refine loop_inv _ (fun i ρ M' => M' = M ∧ ∃ g b z, SwI f i g b ∧ ρ = [some (liftD way l t wi f p), some (.int n), some (.str way), some (.int l), some (.int t), some (.int wi), some (.int f), some (.int p), some (.int g), some (.int b), z]) ?_ ?_ ⟨rfl, 0, 1, none, ⟨0, by simp, by omega, by omega, fun _ => rfl, fun _ => by omega, fun _ _ => by omega, fun _ => by omega, .inl rfl⟩, rfl⟩
  · rintro i d hd ρ M' ⟨rfl, g, b, z, hi, rfl⟩
    obtain ⟨-, rfl⟩ := upTo_get hd
    refine ⟨trivial, fun go hgo => ?_⟩
    have st := swI_step f1 hi
    refine ⟨fun h1 => ?_, fun h1 => ⟨fun h2 => ?_, fun h2 => ?_⟩⟩
    · refine tt (hgo _ _ ⟨rfl, _, _, some (.int (0 + (i : Int))), st, ?_⟩)
      rw [if_pos (Or.inl (of_decide_eq_true h1))]
      rfl
    · refine hgo _ _ ⟨rfl, _, _, some (.int (0 + (i : Int))), st, ?_⟩
      rw [if_pos (Or.inr (of_decide_eq_true h2))]
      rfl
    · refine hgo _ _ ⟨rfl, _, _, some (.int (0 + (i : Int))), st, ?_⟩
      rw [if_neg (fun z => z.elim (of_decide_eq_false h1) (of_decide_eq_false h2))]
      rfl
  · rintro ρ M' ⟨rfl, g, b, z, hi, rfl⟩
    rw [upTo_len] at hi
    have hg := swI_gone f1 hi (p := p) (n := n) (by omega)
    refine ⟨trivial, ?_⟩
    refine ⟨fun hb => ?_, fun hb => ?_⟩
    · have e : placeL way l t f p n = (l + wayGone f p n, t) := if_pos (of_decide_eq_true hb)
      rw [e, ← hg] at hq
      exact ⟨le_line rfl, .inl hq⟩
    · have e : placeL way l t f p n = (l, t - wayGone f p n) := if_neg (of_decide_eq_false hb)
      rw [e, ← hg] at hq
      exact ⟨le_line rfl, .inl hq⟩

theorem wg_range {f p n : Int} (hf : 1 ≤ f) : 0 ≤ wayGone f p n ∧ wayGone f p n ≤ f := by
  unfold wayGone
  have h0 := Int.emod_nonneg (n / p) (b := 2 * f) (by omega)
  have h1 := Int.emod_lt_of_pos (n / p) (b := 2 * f) (by omega)
  split <;> omega
theorem wg_zero {f p : Int} (hf : 1 ≤ f) : wayGone f p 0 = 0 := by
  unfold wayGone
  rw [Int.zero_ediv, Int.zero_emod, if_pos (by omega)]
theorem wg_per {f p n : Int} (hp : 1 ≤ p) : wayGone f p (n + 2 * f * p) = wayGone f p n := by
  unfold wayGone
  rw [Int.add_mul_ediv_right _ _ (by omega), Int.add_emod_right]
theorem wg_next {f q x : Int} (hf : 1 ≤ f) (hx : x = q ∨ x = q + 1) : ∃ r s, q % (2 * f) = r ∧ x % (2 * f) = s ∧ 0 ≤ r ∧ r < 2 * f ∧ (s = r ∨ s = r + 1 ∧ s < 2 * f ∨ s = 0 ∧ r = 2 * f - 1) := by
  have h0 := Int.emod_nonneg q (b := 2 * f) (by omega)
  have h1 := Int.emod_lt_of_pos q (b := 2 * f) (by omega)
  rcases hx with rfl | rfl
  · exact ⟨_, _, rfl, rfl, h0, h1, .inl rfl⟩
  · have hd := Int.mul_ediv_add_emod q (2 * f)
    refine ⟨_, _, rfl, rfl, h0, h1, .inr ?_⟩
    generalize q / (2 * f) = y at hd
    generalize q % (2 * f) = r at hd h0 h1
    rw [show q + 1 = (r + 1) + 2 * f * y by omega, Int.add_mul_emod_self_left]
    by_cases z : r + 1 = 2 * f
    · rw [z, Int.emod_self]; omega
    · rw [Int.emod_eq_of_lt (by omega) (by omega)]; omega
theorem wg_step {f p n : Int} (hf : 1 ≤ f) (hp : 1 ≤ p) : -1 ≤ wayGone f p n - wayGone f p (n + 1) ∧ wayGone f p n - wayGone f p (n + 1) ≤ 1 := by
  have hx : (n + 1) / p = n / p ∨ (n + 1) / p = n / p + 1 := by
    have a1 : n / p ≤ (n + 1) / p := Int.ediv_le_ediv (by omega) (by omega)
    have a2 : (n + 1) / p ≤ (n + p) / p := Int.ediv_le_ediv (by omega) (by omega)
    have a3 : (n + p) / p = n / p + 1 := by
      have := Int.add_mul_ediv_right n 1 (c := p) (by omega)
      rw [Int.one_mul] at this
      exact this
    omega
  obtain ⟨r, s, e1, e2, h0, h1, h2⟩ := wg_next hf hx
  unfold wayGone
  rw [e1, e2]
  split <;> split <;> omega
theorem pl_zero {way : Str} {l t f p : Int} (hf : 1 ≤ f) : placeL way l t f p 0 = (l, t) := by
  unfold placeL
  rw [wg_zero hf]
  split
  · rw [Int.add_zero]
  · rw [Int.sub_zero]
theorem pl_per {way : Str} {l t f p n : Int} (hp : 1 ≤ p) : placeL way l t f p (n + 2 * f * p) = placeL way l t f p n := by
  unfold placeL
  rw [wg_per hp]
theorem pl_step {way : Str} {l t f p n : Int} (hf : 1 ≤ f) (hp : 1 ≤ p) : ((placeL way l t f p n).1 - (placeL way l t f p (n + 1)).1).natAbs + ((placeL way l t f p n).2 - (placeL way l t f p (n + 1)).2).natAbs ≤ 1 := by
  have := wg_step (n := n) hf hp
  unfold placeL
  split <;> dsimp only <;> omega
theorem pl_range {way : Str} {l t f p n : Int} (hf : 1 ≤ f) : (((placeL way l t f p n).1 - l).natAbs : Int) + ((placeL way l t f p n).2 - t).natAbs ≤ f := by
  have := wg_range (n := n) (p := p) hf
  unfold placeL
  split <;> dsimp only <;> omega
def ct_law : Ct := fun ds M Q _ => ∃ ns : List Int, ds = [.scr ns] ∧ ns.length ≤ 63 ∧ Q (.bl true) M

abbrev N_law : List Str := ["_law_script", "_law_k", "_law_more", "_law_lift_here", "_law_before", "_law_times", "_law_j", "_law_time", "_law_here", "_law_after"]
theorem sc_law : FnScope N_law ["_law_script"] (defScope s_law) := ⟨rfl, rfl, rfl, by decide +kernel, rfl, by decide +kernel, by decide +kernel⟩
theorem ok_law (T : Txt K mg) {fd : FuncData} (F : FunD K "law" "law" (defArgs s_law) (defBody s_law) (defScope s_law) [] [] (He.fAd K ("law", none)) fd) : FnOk P w K mg base (L2.CX P w) 5 (He.fAd K ("law", none)) fd ["_law_script"] (spD K 1 ct_law) := by
  obtain ⟨fd_lift_at, F_lift_at, b_lift_at, k_lift_at⟩ := ok_lift_at (P := P) (w := w) (base := base) T
  obtain ⟨fd__law_lift_at, F__law_lift_at, b__law_lift_at, k__law_lift_at⟩ := ok__law_lift_at (P := P) (w := w) (base := base) T
  obtain ⟨fd__law_drawn, F__law_drawn, b__law_drawn, k__law_drawn⟩ := ok__law_drawn (P := P) (w := w) (base := base) T
  obtain ⟨fd__law_lift, F__law_lift, b__law_lift, k__law_lift⟩ := ok__law_lift (P := P) (w := w) (base := base) T
  obtain ⟨fd__law_cell, F__law_cell, b__law_cell, k__law_cell⟩ := ok__law_cell (P := P) (w := w) (base := base) T
  have nd := sc_law.nd
  refine defJ F sc_law rfl fun cdv A outer s c jx tk hp hr => ⟨_, (jss_cons (js_for hp rfl (ji_rng1 rfl T.u_range (ja_cons (je_callB (jc_max2 rfl) rfl T.u_max boot_max (ja_cons je_int (ja_cons (je_callB (jc_min2 rfl) rfl T.u_min boot_min (ja_cons je_int (ja_cons (je_callB jc_len rfl T.u_len boot_len (ja_cons (je_var 0 (pv 0)) ja_nil)) ja_nil))) ja_nil))) ja_nil)) (jg_name (i := 1) nd rfl (by first | exact Or.inl rfl | exact Or.inr rfl))
    (jss_cons (js_set (i := 2) nd rfl (by first | exact Or.inl rfl | exact Or.inr rfl) (je_call jx F__law_drawn (hr.mono (by decide)) rfl T.g__law_drawn k__law_drawn b__law_drawn (ja_cons (je_call jx F__law_cell (hr.mono (by decide)) rfl T.g__law_cell k__law_cell b__law_cell (ja_cons (je_var 0 (pv 0)) (ja_cons (je_var 1 (pv 1)) ja_nil))) (ja_cons (je_var 1 (pv 1)) ja_nil))))
    (jss_cons (js_set (i := 3) nd rfl (by first | exact Or.inl rfl | exact Or.inr rfl) (je_call jx F__law_lift (hr.mono (by decide)) rfl T.g__law_lift k__law_lift b__law_lift (ja_cons (je_op jo_div (je_var 2 (pv 2)) je_int) (ja_cons (je_op jo_mul (je_lst (ja_cons (je_op jo_mul je_str je_int) ja_nil)) je_int) ja_nil))))
    (jss_cons (js_if (jt_cmp (jo_eq (room_units hr)) (je_op jo_mod (je_var 2 (pv 2)) je_int) je_int)
    (jss_one (js_set (i := 3) nd rfl (by first | exact Or.inl rfl | exact Or.inr rfl) (je_op jo_add (je_slice (je_var 3 (pv 3)) jo_none (jo_some je_int)) (je_tup (ja_cons (je_op jo_sub je_int (je_op jo_mod (je_op jo_div (je_var 2 (pv 2)) je_int) je_int)) (ja_cons je_int ja_nil))))))
    jss_nil)
    (jss_cons (js_if (jt_cmp (jo_eq (room_units hr)) (je_op jo_mod (je_var 2 (pv 2)) je_int) je_int)
    (jss_one (js_set (i := 3) nd rfl (by first | exact Or.inl rfl | exact Or.inr rfl) (je_op jo_add (je_slice (je_var 3 (pv 3)) jo_none (jo_some je_int)) (je_tup (ja_cons (je_op jo_add je_int (je_op jo_mod (je_op jo_div (je_var 2 (pv 2)) je_int) je_int)) (ja_cons (je_op jo_sub je_int (je_op jo_mod (je_op jo_div (je_var 2 (pv 2)) je_int) je_int)) ja_nil))))))
    jss_nil)
    (jss_cons (js_set (i := 4) nd rfl (by first | exact Or.inl rfl | exact Or.inr rfl) (je_call jx F_lift_at (hr.mono (by decide)) rfl T.g_lift_at k_lift_at b_lift_at (ja_cons (je_var 3 (pv 3)) (ja_cons je_int ja_nil))))
    (jss_cons (js_if (jt_cmp (jo_ne (room_units hr)) (je_var 4 (pv 4)) (je_slice (je_var 3 (pv 3)) (jo_some je_int) (jo_some je_int)))
    (jss_one (js_ret je_bl))
    jss_nil)
    (jss_cons (js_setLc (i := 5) (own := [("_law_j", 6)]) rfl nd rfl rfl (sw_true rfl rfl rfl (by decide +kernel)) (ji_rng1 rfl T.u_range (ja_cons je_int ja_nil)) (blkOk_by (N := N_law) (sc := (defScope s_law)) (own := [("_law_j", 6)]) (by decide +kernel)) (fun _ _ _ _ _ => (jgc_name (i := 6) nd rfl (by first | exact Or.inl rfl | exact Or.inr rfl))) (fun _ _ _ _ _ => jts_nil) (fun _ _ _ _ _ => (je_op jo_mod (je_call (JX.in _ _) F__law_drawn (hr.mono (by decide)) rfl T.g__law_drawn k__law_drawn b__law_drawn (ja_cons (je_var 2 (pv 2)) (ja_cons (je_var 6 (pv 6)) ja_nil))) (je_ix ji_seq (je_lst (ja_cons je_int (ja_cons je_int (ja_cons je_int ja_nil)))) (je_op jo_mod (je_var 6 (pv 6)) je_int)))))
    (jss_one (js_for hp rfl (ji_list (je_var 5 (pv 5))) (jg_name (i := 7) nd rfl (by first | exact Or.inl rfl | exact Or.inr rfl))
    (jss_cons (js_par (i := 8) (j := 9) rfl nd rfl rfl (by decide) rfl rfl (ja_cons (je_call jx F_lift_at (hr.mono (by decide)) rfl T.g_lift_at k_lift_at b_lift_at (ja_cons (je_var 3 (pv 3)) (ja_cons (je_var 7 (pv 7)) ja_nil))) (ja_cons (je_call jx F_lift_at (hr.mono (by decide)) rfl T.g_lift_at k_lift_at b_lift_at (ja_cons (je_var 3 (pv 3)) (ja_cons (je_op jo_add (je_var 7 (pv 7)) je_int) ja_nil))) ja_nil)) (by rfl))
    (jss_cons (js_if (JW.pt (jw_or (jt_cmp (jo_ne (room_units hr)) (je_var 8 (pv 8)) (je_call jx F__law_lift_at (hr.mono (by decide)) rfl T.g__law_lift_at k__law_lift_at b__law_lift_at (ja_cons (je_var 3 (pv 3)) (ja_cons (je_var 7 (pv 7)) ja_nil)))) (jw_or1 (jt_cmp (jo_ne (room_units hr)) (je_var 9 (pv 9)) (je_call jx F__law_lift_at (hr.mono (by decide)) rfl T.g__law_lift_at k__law_lift_at b__law_lift_at (ja_cons (je_var 3 (pv 3)) (ja_cons (je_op jo_add (je_var 7 (pv 7)) je_int) ja_nil)))))))
    (jss_one (js_ret je_bl))
    jss_nil)
    (jss_cons (js_if (jt_cmp jo_gt (je_op jo_add (je_callB jc_abs rfl T.u_abs boot_abs (ja_cons (je_op jo_sub (je_ix ji_seq (je_var 8 (pv 8)) je_int) (je_ix ji_seq (je_var 9 (pv 9)) je_int)) ja_nil)) (je_callB jc_abs rfl T.u_abs boot_abs (ja_cons (je_op jo_sub (je_ix ji_seq (je_var 8 (pv 8)) je_int) (je_ix ji_seq (je_var 9 (pv 9)) je_int)) ja_nil))) je_int)
    (jss_one (js_ret je_bl))
    jss_nil)
    (jss_cons (js_if (jt_cmp (jo_ne (room_units hr)) (je_call jx F_lift_at (hr.mono (by decide)) rfl T.g_lift_at k_lift_at b_lift_at (ja_cons (je_var 3 (pv 3)) (ja_cons (je_op jo_add (je_var 7 (pv 7)) (je_op jo_mul (je_op jo_mul je_int (je_ix ji_seq (je_var 3 (pv 3)) je_int)) (je_ix ji_seq (je_var 3 (pv 3)) je_int))) ja_nil))) (je_var 8 (pv 8)))
    (jss_one (js_ret je_bl))
    jss_nil)
    (jss_one (js_if (jt_cmp jo_gt (je_op jo_add (je_callB jc_abs rfl T.u_abs boot_abs (ja_cons (je_op jo_sub (je_ix ji_seq (je_var 8 (pv 8)) je_int) (je_ix ji_seq (je_var 3 (pv 3)) je_int)) ja_nil)) (je_callB jc_abs rfl T.u_abs boot_abs (ja_cons (je_op jo_sub (je_ix ji_seq (je_var 8 (pv 8)) je_int) (je_ix ji_seq (je_var 3 (pv 3)) je_int)) ja_nil))) (je_ix ji_seq (je_var 3 (pv 3)) je_int))
    (jss_one (js_ret je_bl))
    jss_nil))))))))))))))))
    (jss_one (js_ret je_bl))), fun ds M Q h => ?_⟩
  clear hr hp tk jx nd F_lift_at b_lift_at k_lift_at fd_lift_at F__law_lift_at b__law_lift_at k__law_lift_at fd__law_lift_at F__law_drawn b__law_drawn k__law_drawn fd__law_drawn F__law_lift b__law_lift k__law_lift fd__law_lift F__law_cell b__law_cell k__law_cell fd__law_cell F T
  obtain ⟨ns, rfl, hn, hq⟩ := h
  refine ⟨_, rfl, ⟨by omega, by omega⟩, ?_⟩
  refine loop_inv _ (fun i ρ M' => M' = M ∧ ∃ a b c d e f g h j, ρ = [some (.scr ns), a, b, c, d, e, f, g, h, j]) ?_ ?_ ⟨rfl, none, none, none, none, none, none, none, none, none, rfl⟩
  · rintro i d hd ρ M' ⟨rfl, a, b, x3, x4, x5, x6, x7, x8, x9, rfl⟩
    obtain ⟨hi, rfl⟩ := upTo_get hd
    refine ⟨trivial, fun go hgo => ?_⟩
    refine ⟨rfl, ns, _, rfl, by omega, by omega, hn, fun cell => ⟨rfl, cell, _, rfl, fun more m0 => g_var ?_⟩⟩
    try dsimp only
    refine seq_via (fun ρ' M2 => M2 = M' ∧ ∃ way l t w f p, isLift (liftD way l t w f p) = true ∧ ρ' = [some (.scr ns), some (.int (0 + (i : Int))), some (.int more), some (liftD way l t w f p), x4, x5, x6, x7, x8, x9]) (fun go2 hgo2 => ?_) ?_
    · refine ⟨by decide, by decide, by decide, by decide, le_line rfl, _, rfl, by decide, by decide, by decide, rfl, _, _, _, rfl, by omega, by decide, by decide, by decide, fun way l t w f p h1 h2 h3 h4 h5 h6 => hgo2 _ _ ⟨rfl, way, l, t, w, f, p, isLift_iff.mpr ⟨h1, ?_, ?_, ⟨by omega, by omega⟩, ⟨by omega, by omega⟩, by omega, by omega⟩, rfl⟩⟩
      · have e : ((repS (Str.ofString ".") (Int.toNat 30)).length : Int) = 30 := by decide
        rw [e] at h2
        omega
      · have e : ((List.replicate 19 [D.str (repS (Str.ofString ".") (Int.toNat 30))]).flatten.length + 1 : Nat) = 20 := by decide
        have h3 : 0 ≤ t ∧ t < 8 * (((List.replicate 19 [D.str (repS (Str.ofString ".") (Int.toNat 30))]).flatten.length + 1 : Nat) : Int) := h3
        rw [e] at h3
        omega
    rintro _ M2 ⟨rfl, way, l, t, w, f, p, hl, rfl⟩
    try dsimp only
    refine seq_via (fun ρ' M3 => M3 = M2 ∧ ∃ way l t w f p, isLift (liftD way l t w f p) = true ∧ ρ' = [some (.scr ns), some (.int (0 + (i : Int))), some (.int more), some (liftD way l t w f p), x4, x5, x6, x7, x8, x9]) (fun go2 hgo2 => ?_) ?_
    · obtain ⟨hw, l1, t1, w1, -, -⟩ := isLift_iff.mp hl
      refine ⟨by decide, fun _ => ⟨rfl, by decide, by decide, le_line rfl, List.cons_ne_nil _ _, le_line rfl, ?_⟩, fun _ => hgo2 _ _ ⟨rfl, way, l, t, w, f, p, hl, rfl⟩⟩
      have m := Int.emod_nonneg (more / 8) (b := 3) (by decide)
      have m2 := Int.emod_lt_of_pos (more / 8) (b := 3) (by decide)
      exact hgo2 _ _ ⟨rfl, way, l, t, w, 400 - more / 8 % 3, 1, isLift_iff.mpr ⟨hw, l1, t1, w1, by omega, by omega⟩, rfl⟩
    clear hl
    rintro _ M3 ⟨rfl, way, l, t, w, f, p, hl, rfl⟩
    try dsimp only
    refine seq_via (fun ρ' M4 => M4 = M3 ∧ ∃ way l t w f p, isLift (liftD way l t w f p) = true ∧ ρ' = [some (.scr ns), some (.int (0 + (i : Int))), some (.int more), some (liftD way l t w f p), x4, x5, x6, x7, x8, x9]) (fun go2 hgo2 => ?_) ?_
    · obtain ⟨hw, l1, t1, w1, -, -⟩ := isLift_iff.mp hl
      refine ⟨by decide, fun _ => ⟨rfl, by decide, by decide, by decide, by decide, le_line rfl, List.cons_ne_nil _ _, le_line rfl, ?_⟩, fun _ => hgo2 _ _ ⟨rfl, way, l, t, w, f, p, hl, rfl⟩⟩
      have m := Int.emod_nonneg (more / 8) (b := 9) (by decide)
      have m2 := Int.emod_lt_of_pos (more / 8) (b := 9) (by decide)
      have m3 := Int.emod_nonneg (more / 128) (b := 4) (by decide)
      have m4 := Int.emod_lt_of_pos (more / 128) (b := 4) (by decide)
      exact hgo2 _ _ ⟨rfl, way, l, t, w, 1 + more / 8 % 9, 100 - more / 128 % 4, isLift_iff.mpr ⟨hw, l1, t1, w1, by omega, by omega⟩, rfl⟩
    clear hl
    rintro _ M4 ⟨rfl, way, l, t, w, f, p, hl, rfl⟩
    obtain ⟨hw, l1, t1, w1, ⟨f1, f2⟩, p1, p2⟩ := isLift_iff.mp hl
    refine ⟨rfl, way, l, t, w, f, p, _, rfl, hl, ?_⟩
    rw [pl_zero f1]
    refine ⟨rfl, _, _, rfl, rfl, dep_pair, ?_⟩
    dsimp only
    rw [ne_pair_same]
    refine ⟨fun z => Bool.noConfusion z, fun _ => ⟨⟨by omega, by omega⟩, ?_⟩⟩
    refine comp_inv _ (fun i acc M' => M' = M4 ∧ ∃ ts : List Int, acc = ts.map D.int ∧ ∀ n ∈ ts, 0 ≤ n ∧ n < 3000) (by rw [upTo_len]; decide) ?_ ?_ ⟨rfl, [], rfl, fun _ z => nomatch z⟩
    · rintro j d hd acc M' ha ⟨rfl, ts, rfl, hts⟩
      obtain ⟨hj, rfl⟩ := upTo_get hd
      refine ⟨trivial, fun yes no hy hno => ?_⟩
      have key : ∃ k : Int, (k = 30 ∨ k = 300 ∨ k = 3000) ∧ atI [D.int 30, D.int 300, D.int 3000] ((0 + (j : Int)) % 3) = some (.int k) := by
        have : (0 + (j : Int)) % 3 = 0 ∨ (0 + (j : Int)) % 3 = 1 ∨ (0 + (j : Int)) % 3 = 2 := by omega
        rcases this with e | e | e
        · exact ⟨30, .inl rfl, by rw [e]; rfl⟩
        · exact ⟨300, .inr (.inl rfl), by rw [e]; rfl⟩
        · exact ⟨3000, .inr (.inr rfl), by rw [e]; rfl⟩
      obtain ⟨k, hk, ek⟩ := key
      refine tt ⟨rfl, more, _, rfl, fun m2 hm2 => ⟨le_line rfl, by decide, _, _, rfl, ek, by omega, hy _ _ ⟨rfl, ts ++ [m2 % k], by rw [List.map_append]; rfl, fun n hn => ?_⟩⟩⟩
      rcases List.mem_append.mp hn with hn | hn
      · exact hts n hn
      · rw [List.mem_singleton.mp hn]
        have := Int.emod_nonneg m2 (b := k) (by omega)
        have := Int.emod_lt_of_pos m2 (b := k) (by omega)
        omega
    · rintro acc M' ⟨rfl, ts, rfl, hts⟩
      refine ⟨trivial, g_var ?_⟩
      refine loop_inv (ts.map D.int) (fun _ ρ M2 => M2 = M' ∧ ∃ a b c, ρ = [some (.scr ns), some (.int (0 + (i : Int))), some (.int more), some (liftD way l t w f p), some (.tup [.int l, .int t]), some (.lst (ts.map D.int)), x6, a, b, c]) ?_ ?_ ⟨rfl, _, _, _, rfl⟩
      · rintro j d hd ρ M2 ⟨rfl, a, b, c, rfl⟩
        rw [List.getElem?_map] at hd
        obtain ⟨n, hn, rfl⟩ := Option.map_eq_some_iff.mp hd
        have hn := hts n (List.mem_of_getElem? hn)
        refine ⟨trivial, fun go3 hgo3 => ?_⟩
        refine ⟨rfl, way, l, t, w, f, p, n, rfl, hl, rfl, way, l, t, w, f, p, n + 1, rfl, hl, rfl, way, l, t, w, f, p, n, rfl, f1, f2, p1, p2, by omega, by omega, _, _, rfl, rfl, dep_pair, ?_⟩
        dsimp only
        rw [ne_pair_same]
        refine ff ⟨rfl, way, l, t, w, f, p, n + 1, rfl, f1, f2, p1, p2, by omega, by omega, _, _, rfl, rfl, dep_pair, ?_⟩
        dsimp only
        rw [ne_pair_same]
        refine ff ⟨_, rfl, _, rfl, _, rfl, _, rfl, ?_⟩
        have s1 := pl_step (way := way) (l := l) (t := t) (n := n) f1 p1
        refine ⟨fun z => absurd (of_decide_eq_true z) (by omega), fun _ => ?_⟩
        refine ⟨_, rfl, .inl (.inl ⟨by decide, by decide⟩), _, rfl, .inl (.inl ⟨by omega, by omega⟩), rfl, way, l, t, w, f, p, _, rfl, hl, ?_⟩
        rw [pl_per p1]
        refine ⟨_, _, rfl, rfl, dep_pair, ?_⟩
        dsimp only
        rw [ne_pair_same]
        refine ff ⟨_, rfl, _, rfl, _, rfl, _, rfl, _, rfl, ?_⟩
        have s2 := pl_range (way := way) (l := l) (t := t) (p := p) (n := n) f1
        refine ⟨fun z => absurd (of_decide_eq_true z) (by omega), fun _ => hgo3 _ _ ⟨rfl, _, _, _, rfl⟩⟩
      · rintro ρ M' ⟨rfl, a, b, c, rfl⟩
        exact ⟨trivial, hgo _ _ ⟨rfl, _, _, _, _, _, _, _, _, _, rfl⟩⟩
  · rintro ρ M' ⟨rfl, a, b, x3, x4, x5, x6, x7, x8, x9, rfl⟩
    exact ⟨trivial, .inl hq⟩

end

abbrev Rw : PySem.W.OpenRow := PySem.W.OpenLaw.row PySem.Challenge.rw_floorrun_k20_whole_lifts
abbrev hk : PySem.W.Hook := He.hookD 5 fa fn
def ob (s : PySem.W.SharedT) : He.AlD := He.obsDG 5 fa fn (HandSHeadRun.getT s)
theorem ob_eq (s : PySem.W.SharedT) : ob s = hk.obs s.abs := He.obsDG_eq (HandSHeadRun.getT_eq s)
theorem run (w : World) : HandSHeadRun.RunEq Rw (PySem.W.view Rw.prog [17]) hk ob 6000 loose w := by
  intro os
  kernel_rfl
theorem law_ends {P : Program} {w : World} {K : PySem.W.Frag} {h : Heap} {mg : Str → Option Value} {f : Addr} (X : K.In h) (G : h.Ns mainGlobals mg) (hfa : mg ("law" : Str) = some (.ref f)) (c : He.SaysD fa fn K) :
    ∃ fd : FuncData, (∀ (s : Shared) (v : Value), BindsTo s fd ⟨[v], []⟩ [("_law_script", v)]) ∧ ∀ base : Heap, FnOk P w K mg base (L2.CX P w) 5 f fd ["_law_script"] (spD K 1 ct_law) := by
  have T := txt X G c
  have e := hfa.symm.trans T.g_law
  cases e
  obtain ⟨fd, F⟩ := T.f_law
  exact ⟨fd, fun s v => FunD.bindsA (ps := ["_law_script"]) F (fun _ _ _ _ _ _ us hl => match us, hl with | [_], _ => rfl) s [v] rfl, fun base => ok_law (P := P) (w := w) (base := base) T F⟩
end Fl
open PySem PySem.W PySem.Calls PyProof.Rows
theorem PySem.Challenge.cw_floorrun_k20_whole_lifts_holds : PySem.Challenge.rw_floorrun_k20_whole_lifts.Holds := by
  w_on; o_law
  refine HandSHeadRun.head_any (r := OpenLaw.row PySem.Challenge.rw_floorrun_k20_whole_lifts) (q := view (OpenLaw.row PySem.Challenge.rw_floorrun_k20_whole_lifts).prog [17]) (H := Fl.hk) (ob := Fl.ob) (M := 6000) (loose := Fl.loose) (d := HandSHeadRun.topDef (OpenLaw.row PySem.Challenge.rw_floorrun_k20_whole_lifts).prog 17) (kwd := []) Fl.ob_eq
    (by kernel_rfl) (fun s => by kernel_rfl) Fl.run (by kernel_rfl) (by kernel_rfl) (by kernel_rfl) (by rfl) (by first | assumption | decide +kernel) (by decide +kernel) ⟨rfl, rfl, rfl, rfl, rfl, by decide +kernel⟩ ?hw ?hc
  case hw => w_witness2
  case hc =>
    refine LamX.walk_ofTsE (l := PySem.Challenge.rw_floorrun_k20_whole_lifts) (n := 63) (k := 5) (x := "_law_script") (CX := fun w => L2.CX (PySem.Challenge.rw_floorrun_k20_whole_lifts).prog w) rfl (by decide) (by kernel_rfl) ⟨rfl, by decide, by decide⟩ ?F (fun w H s e s' z => by
      obtain ⟨_, _, _, _, _, _, _, _, _, _, _, _, q⟩ := z
      exact q)
    intro w mg fa h Y G hmg0
    obtain ⟨K, KX, c⟩ := Y
    have hmg : mg ("law" : PySem.Str) = some (.ref fa) := by
      have e : (HandSHeadRun.topDef (OpenLaw.row PySem.Challenge.rw_floorrun_k20_whole_lifts).prog 17).name = ("law" : PySem.Str) := by kernel_rfl
      rw [← e]
      exact hmg0
    obtain ⟨fd, hb, hF⟩ := Fl.law_ends (P := (PySem.Challenge.rw_floorrun_k20_whole_lifts).prog) (w := w) KX G hmg c
    refine ⟨K, KX, fd, [], J.spD K 1 Fl.ct_law, (fun _ q => nomatch q), (fun _ q => nomatch q), (fun _ q => nomatch q), hb, fun H a ns hl hbits _ hS => ?_, fun base _ _ _ => hF base⟩
    exact J.sp_start hS ⟨ns, rfl, hl, rfl⟩
