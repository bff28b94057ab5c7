import PyProof.Rows.All
import Wide.All
import OpenK.AllK
import Wide.FinOn
import HandS.ForMost
import HandS.Exc
import HandS.ExcOwn
import HandS.TryOnly
import HandS.WordsExc
import HandS.Wide
import HandS.IsInst
import HandS.Defaults
import HandS.HeadHook1
import HandS.HeadHook2
import HandS.Head0
import HandS.Head1
import HandS.Head2
import HandS.HeadEnd
import HandS.HeadWalk
import KE.DataEq
import HandS.HeadHook3
import HandS.HeadHook4
import HandS.Lambda
import HandS.ExcCtx
import HandS.Style
import HandS.Dict
import HandS.Small
import PyProof.Rows.StrRev
import PyProof.Rows.StrSigns2
import PyProof.ListStr
import HandS.Conv
import HandS.HotCalls
import HandS.ExcIs
import HandS.TupSets
import HandS.WordsDict
import PySem.Challenge.RW_floorrun_k81_courses_refused
set_option Elab.async false
set_option linter.all false
set_option maxRecDepth 100000
set_option maxHeartbeats 40000000

/-! A layer over the hand layer: values as data without addresses (D), objects that change in a store by numbers (Mem), one judgement a construct whose reading speaks of these alone. -/
namespace J
open PySem PySem.Spec PyProof.Rows L2
/-! ### data, the store -/
inductive D where
  | non | bl (b : Bool) | int (i : Int) | str (x : Str) | tup (xs : List D) | lst (xs : List D) | ref (i : Nat) | scr (ns : List Int) | adr (a : Addr)
inductive MO where
  | dead
  | lst (xs : List D)
  | dic (kvs : List (Int × D))
  | rcd (ks : List Str) (ds : List D)
  | ins (C : Addr) (ks : List Str) (ds : List (Option D))
  | tab (P : Addr) (q : Str)
  | lck (ho : HO) (kvs : List (Int × D))
abbrev Mem := List MO
abbrev Rho := List (Option D)
theorem same_trans {H H1 H2 : Hp} (a : Same H H1) (b : Same H1 H2) : Same H H2 := fun x o h => b x o (a x o h)
theorem same_new {H : Hp} {p : Addr} {o : HO} (h : H p = none) : Same H (upd H p o) := fun a u e => by
  rw [upd_ne (ne_of_none e h)]
  exact e
theorem same_t {K : PySem.W.Frag} {H H' : Hp} {a : Addr} {xs : List V} (e : Same H H') (h : SqT K H a xs) : SqT K H' a xs := by
  rcases h with (h | ⟨o, h⟩) | h
  · exact .inl (.inl (e _ _ h))
  · exact .inl (.inr ⟨o, e _ _ h⟩)
  · exact .inr h
mutual
inductive Den (K : PySem.W.Frag) (B : Hp) (loc : List Addr) : D → V → Prop
  | non : Den K B loc .non .non
  | bl {b : Bool} : Den K B loc (.bl b) (.bl b)
  | int {i : Int} : Den K B loc (.int i) (.int i)
  | str {x : Str} : Den K B loc (.str x) (.str x)
  | tup {ds : List D} {vs : List V} {a : Addr} : SqT K B a vs → DenL K B loc ds vs → Den K B loc (.tup ds) (.ref a)
  | lst {ds : List D} {vs : List V} {a : Addr} : B a = some (.lst vs) → DenL K B loc ds vs → Den K B loc (.lst ds) (.ref a)
  | scr {ns : List Int} {a : Addr} : SqL K B a (ns.map V.int) → Den K B loc (.scr ns) (.ref a)
  | ref {i : Nat} {a : Addr} : loc[i]? = some a → Den K B loc (.ref i) (.ref a)
  | adr {a : Addr} : Den K B loc (.adr a) (.ref a)
inductive DenL (K : PySem.W.Frag) (B : Hp) (loc : List Addr) : List D → List V → Prop
  | nil : DenL K B loc [] []
  | cons {d : D} {v : V} {ds : List D} {vs : List V} : Den K B loc d v → DenL K B loc ds vs → DenL K B loc (d :: ds) (v :: vs)
end
theorem pre_get {α : Type} {l l' : List α} (h : l <+: l') {i : Nat} {a : α} (e : l[i]? = some a) : l'[i]? = some a := by
  obtain ⟨t, rfl⟩ := h
  rw [List.getElem?_append_left (List.getElem?_eq_some_iff.mp e).1]
  exact e
section
variable {K : PySem.W.Frag} {B B' : Hp} {loc loc' : List Addr}
mutual
theorem Den.mono (s : Same B B') (p : loc <+: loc') : ∀ {d : D} {v : V}, Den K B loc d v → Den K B' loc' d v
  | _, _, .non => .non
  | _, _, .bl => .bl
  | _, _, .int => .int
  | _, _, .str => .str
  | _, _, .tup h r => .tup (same_t s h) (DenL.mono s p r)
  | _, _, .lst h r => .lst (s _ _ h) (DenL.mono s p r)
  | _, _, .scr h => .scr (s.seq h)
  | _, _, .ref h => .ref (pre_get p h)
  | _, _, .adr => .adr
theorem DenL.mono (s : Same B B') (p : loc <+: loc') : ∀ {ds : List D} {vs : List V}, DenL K B loc ds vs → DenL K B' loc' ds vs
  | _, _, .nil => .nil
  | _, _, .cons h r => .cons (Den.mono s p h) (DenL.mono s p r)
end
theorem DenL.length : ∀ {ds : List D} {vs : List V}, DenL K B loc ds vs → ds.length = vs.length
  | _, _, .nil => rfl
  | _, _, .cons _ r => congrArg Nat.succ (DenL.length r)
theorem DenL.get : ∀ {ds : List D} {vs : List V} {i : Nat} {d : D}, DenL K B loc ds vs → ds[i]? = some d → ∃ v, vs[i]? = some v ∧ Den K B loc d v
  | _, _, _, _, .nil, e => by simp at e
  | _, _, 0, _, .cons h _, e => by simp at e; subst e; exact ⟨_, rfl, h⟩
  | _, _, i + 1, d, .cons _ r, e => by
    obtain ⟨v, h1, h2⟩ := DenL.get (i := i) (d := d) r (by simpa using e)
    exact ⟨v, by simpa using h1, h2⟩
theorem DenL.getV : ∀ {ds : List D} {vs : List V} {i : Nat} {v : V}, DenL K B loc ds vs → vs[i]? = some v → ∃ d, ds[i]? = some d ∧ Den K B loc d v
  | _, _, _, _, .nil, e => by simp at e
  | _, _, 0, _, .cons h _, e => by simp at e; subst e; exact ⟨_, rfl, h⟩
  | _, _, i + 1, v, .cons _ r, e => by
    obtain ⟨d, h1, h2⟩ := DenL.getV (i := i) (v := v) r (by simpa using e)
    exact ⟨d, by simpa using h1, h2⟩
theorem DenL.append : ∀ {xs ys : List D} {us ws : List V}, DenL K B loc xs us → DenL K B loc ys ws → DenL K B loc (xs ++ ys) (us ++ ws)
  | _, _, _, _, .nil, s => s
  | _, _, _, _, .cons h r, s => .cons h (DenL.append r s)
theorem DenL.set {d : D} {v : V} (h : Den K B loc d v) : ∀ {ds : List D} {vs : List V} (i : Nat), DenL K B loc ds vs → DenL K B loc (ds.set i d) (vs.set i v)
  | _, _, _, .nil => .nil
  | _, _, 0, .cons _ r => .cons h r
  | _, _, i + 1, .cons q r => .cons q (DenL.set h i r)
theorem DenL.drop : ∀ {ds : List D} {vs : List V} (n : Nat), DenL K B loc ds vs → DenL K B loc (ds.drop n) (vs.drop n)
  | _, _, 0, r => r
  | _, _, _ + 1, .nil => .nil
  | _, _, n + 1, .cons _ r => DenL.drop n r
theorem DenL.take : ∀ {ds : List D} {vs : List V} (n : Nat), DenL K B loc ds vs → DenL K B loc (ds.take n) (vs.take n)
  | _, _, 0, _ => .nil
  | _, _, _ + 1, .nil => .nil
  | _, _, n + 1, .cons h r => .cons h (DenL.take n r)
theorem DenL.ints : ∀ {ns : List Int} {vs : List V}, DenL K B loc (ns.map D.int) vs → vs = ns.map V.int
  | [], _, .nil => rfl
  | n :: ns, _, .cons h r => by cases h; rw [DenL.ints r]; rfl
theorem denL_ints : ∀ ns : List Int, DenL K B loc (ns.map D.int) (ns.map V.int)
  | [] => .nil
  | n :: ns => .cons .int (denL_ints ns)
theorem DenL.strs : ∀ {ns : List Str} {vs : List V}, DenL K B loc (ns.map D.str) vs → vs = ns.map V.str
  | [], _, .nil => rfl
  | n :: ns, _, .cons h r => by cases h; rw [DenL.strs r]; rfl
theorem denL_strs : ∀ ns : List Str, DenL K B loc (ns.map D.str) (ns.map V.str)
  | [] => .nil
  | n :: ns => .cons .str (denL_strs ns)
theorem DenL.bls : ∀ {ns : List Bool} {vs : List V}, DenL K B loc (ns.map D.bl) vs → vs = ns.map V.bl
  | [], _, .nil => rfl
  | n :: ns, _, .cons h r => by cases h; rw [DenL.bls r]; rfl
end

/-- the fields of an instance (or the entries of a record) by their names -/
def cnt : List (Option D) → Nat
  | [] => 0
  | none :: r => cnt r
  | some _ :: r => cnt r + 1
theorem cnt_le : ∀ ds : List (Option D), cnt ds ≤ ds.length
  | [] => Nat.le_refl _
  | none :: r => Nat.le_succ_of_le (cnt_le r)
  | some _ :: r => Nat.succ_le_succ (cnt_le r)
theorem cnt_set (d : D) : ∀ (ds : List (Option D)) (i : Nat) (o : Option D), ds[i]? = some o → cnt (ds.set i (some d)) = cnt ds + (if o.isSome then 0 else 1)
  | [], _, _, h => by simp at h
  | x :: r, 0, o, h => by
    simp at h
    subst h
    cases x <;> rfl
  | x :: r, i + 1, o, h => by
    have ih := cnt_set d r i o (by simpa using h)
    cases x with
    | none => exact ih
    | some y =>
      show cnt (r.set i (some d)) + 1 = cnt r + 1 + _
      rw [ih]; omega
def DenF (K : PySem.W.Frag) (B : Hp) (loc : List Addr) (ks : List Str) (ds : List (Option D)) (ws : List (Str × V)) : Prop :=
  ds.length = ks.length ∧ ws.length ≤ cnt ds ∧ (∀ (i : Nat) (k : Str) (d : D), ks[i]? = some k → ds[i]? = some (some d) → ∃ v, ws.lookup k = some v ∧ Den K B loc d v) ∧ ∀ k : Str, k ∉ ks → ws.lookup k = none
inductive DenKV (K : PySem.W.Frag) (B : Hp) (loc : List Addr) : List (Int × D) → List (Key × V) → Prop
  | nil : DenKV K B loc [] []
  | cons {k : Int} {d : D} {v : V} {ds : List (Int × D)} {vs : List (Key × V)} : Den K B loc d v → DenKV K B loc ds vs → DenKV K B loc ((k, d) :: ds) ((Sum.inl k, v) :: vs)
inductive DenSV (K : PySem.W.Frag) (B : Hp) (loc : List Addr) : List Str → List D → List (Key × V) → Prop
  | nil : DenSV K B loc [] [] []
  | cons {k : Str} {d : D} {v : V} {ks : List Str} {ds : List D} {vs : List (Key × V)} : Den K B loc d v → DenSV K B loc ks ds vs → DenSV K B loc (k :: ks) (d :: ds) ((Sum.inr k, v) :: vs)
/-- what a store's object is in the heap -/
def DenO (K : PySem.W.Frag) (B : Hp) (loc : List Addr) (a : Addr) (H : Hp) : MO → Prop
  | .dead => True
  | .lst ds => ∃ vs, H a = some (.lst vs) ∧ DenL K B loc ds vs
  | .dic kvs => ∃ ws, H a = some (.dK ws) ∧ DenKV K B loc kvs ws ∧ (kvs.map (·.1)).Nodup
  | .rcd ks ds => ks.Nodup ∧ ∃ ws, H a = some (.dK ws) ∧ DenSV K B loc ks ds ws
  | .ins C ks ds => (ks.length ≤ 900 ∧ ks.Nodup) ∧ ∃ dx ws, H a = some (.ins C dx ws) ∧ DenF K B loc ks ds ws
  | .tab P q => a = P ∧ ∃ ps : Array Value, H a = some (.tbl ps) ∧ TriplesOk ps.toList ∧ ∀ (pos : Pos) (cv : Value), codeAmong pos ps.toList = some cv → ∃ c, cv = .ref c ∧ B c = some (LamX.CodeO c q)
  | .lck ho kvs => H a = some ho ∧ ∃ od ws, ho = .frz od (.dK ws) ∧ DenKV K B loc kvs ws ∧ (kvs.map (·.1)).Nodup
def MO.live : MO → Prop
  | .dead => False
  | _ => True
structure Rel (K : PySem.W.Frag) (B : Hp) (loc : List Addr) (M : Mem) (H : Hp) : Prop where
  ext : Same B H
  len : loc.length = M.length
  obj : ∀ (i : Nat) (a : Addr) (o : MO), loc[i]? = some a → M[i]? = some o → o.live → B a = none ∧ DenO K B loc a H o
  inj : ∀ (i j : Nat) (a : Addr) (o u : MO), loc[i]? = some a → loc[j]? = some a → M[i]? = some o → M[j]? = some u → o.live → u.live → i = j
  all : ∀ a ∈ loc, ∃ o, H a = some o
  nt : ∀ (b : Addr) (ps : Array Value), B b ≠ some (.tbl ps)
  tb : ∀ (i : Nat) (a : Addr) (o : MO) (ps : Array Value), loc[i]? = some a → M[i]? = some o → H a = some (.tbl ps) → ∃ P q, o = .tab P q
theorem nt_upd {B : Hp} {p : Addr} {o : HO} (n : ∀ (b : Addr) (ps : Array Value), B b ≠ some (.tbl ps)) (ho : ∀ ps, o ≠ .tbl ps) : ∀ (b : Addr) (ps : Array Value), upd B p o b ≠ some (.tbl ps) := fun b ps e => by
  by_cases q : b = p
  · rw [q, upd_same] at e
    exact ho _ (Option.some.inj e)
  · rw [upd_ne q] at e
    exact n _ _ e
/-- from one state on to another: what is known stays, the store grows at its end, all else is kept -/
structure Go (B : Hp) (loc : List Addr) (H : Hp) (B' : Hp) (loc' : List Addr) (H' : Hp) : Prop where
  b : Same B B'
  l : loc <+: loc'
  fr : ∀ a o, H a = some o → a ∉ loc → H' a = some o
  nw : ∀ a ∈ loc', a ∈ loc ∨ H a = none
  nb : ∀ a o, B' a = some o → B a = some o ∨ H a = none ∨ a ∈ loc ∨ ∃ φ, o = .ext φ
theorem Go.refl {B : Hp} {loc : List Addr} {H : Hp} : Go B loc H B loc H := ⟨fun _ _ h => h, List.prefix_rfl, fun _ _ h _ => h, fun _ h => .inl h, fun _ _ h => .inl h⟩
theorem Go.trans {B B1 B2 : Hp} {l l1 l2 : List Addr} {H H1 H2 : Hp} (x : Go B l H B1 l1 H1) (y : Go B1 l1 H1 B2 l2 H2) : Go B l H B2 l2 H2 where
  b := same_trans x.b y.b
  l := List.IsPrefix.trans x.l y.l
  fr := fun a o h n => by
    refine y.fr a o (x.fr a o h n) fun hm => ?_
    rcases x.nw a hm with z | z
    · exact n z
    · rw [h] at z; cases z
  nw := fun a hm => by
    rcases y.nw a hm with z | z
    · exact x.nw a z
    · by_cases q : a ∈ l
      · exact .inl q
      · refine .inr ?_
        cases e : H a with
        | none => rfl
        | some o => rw [x.fr a o e q] at z; cases z
  nb := fun a o h => by
    rcases y.nb a o h with z | z | z | z
    · exact x.nb a o z
    · by_cases q : a ∈ l
      · exact .inr (.inr (.inl q))
      · refine .inr (.inl ?_)
        cases e : H a with
        | none => rfl
        | some o => rw [x.fr a o e q] at z; cases z
    · rcases x.nw a z with z | z
      · exact .inr (.inr (.inl z))
      · exact .inr (.inl z)
    · exact .inr (.inr (.inr z))
section
variable {K : PySem.W.Frag} {B B' : Hp} {loc loc' : List Addr} {M : Mem} {H H' : Hp}
theorem Den.go {B' : Hp} {loc' : List Addr} {H' : Hp} {d : D} {v : V} (h : Den K B loc d v) (g : Go B loc H B' loc' H') : Den K B' loc' d v := h.mono g.b g.l
theorem DenL.go {B' : Hp} {loc' : List Addr} {H' : Hp} {d : List D} {v : List V} (h : DenL K B loc d v) (g : Go B loc H B' loc' H') : DenL K B' loc' d v := h.mono g.b g.l
theorem DenKV.mono (s : Same B B') (p : loc <+: loc') : ∀ {ds : List (Int × D)} {vs : List (Key × V)}, DenKV K B loc ds vs → DenKV K B' loc' ds vs
  | _, _, .nil => .nil
  | _, _, .cons h r => .cons (h.mono s p) (DenKV.mono s p r)
theorem DenSV.mono (s : Same B B') (p : loc <+: loc') : ∀ {ks : List Str} {ds : List D} {vs : List (Key × V)}, DenSV K B loc ks ds vs → DenSV K B' loc' ks ds vs
  | _, _, _, .nil => .nil
  | _, _, _, .cons h r => .cons (h.mono s p) (DenSV.mono s p r)
theorem DenF.mono (s : Same B B') (p : loc <+: loc') {ks : List Str} {ds : List (Option D)} {ws : List (Str × V)} (h : DenF K B loc ks ds ws) : DenF K B' loc' ks ds ws :=
  ⟨h.1, h.2.1, fun i k d e1 e2 => let ⟨v, e3, e4⟩ := h.2.2.1 i k d e1 e2; ⟨v, e3, e4.mono s p⟩, h.2.2.2⟩
theorem DenO.mono (s : Same B B') (p : loc <+: loc') {a : Addr} (e : ∀ o, H a = some o → H' a = some o) : ∀ {o : MO}, DenO K B loc a H o → DenO K B' loc' a H' o
  | .dead, _ => trivial
  | .lst _, ⟨vs, h, r⟩ => ⟨vs, e _ h, r.mono s p⟩
  | .dic _, ⟨ws, h, r, n⟩ => ⟨ws, e _ h, r.mono s p, n⟩
  | .rcd _ _, ⟨n, ws, h, r⟩ => ⟨n, ws, e _ h, r.mono s p⟩
  | .ins _ _ _, ⟨z, dx, ws, h, r⟩ => ⟨z, dx, ws, e _ h, r.mono s p⟩
  | .tab _ _, ⟨z, ps, h, t, c⟩ => ⟨z, ps, e _ h, t, fun pos cv h => let ⟨c', z1, z2⟩ := c pos cv h; ⟨c', z1, s _ _ z2⟩⟩
  | .lck _ _, ⟨h, od, ws, eh, r, n⟩ => ⟨e _ h, od, ws, eh, r.mono s p, n⟩
theorem DenO.there {a : Addr} : ∀ {o : MO}, o.live → DenO K B loc a H o → ∃ u, H a = some u
  | .dead, l, _ => l.elim
  | .lst _, _, ⟨vs, h, _⟩ => ⟨_, h⟩
  | .dic _, _, ⟨vs, h, _⟩ => ⟨_, h⟩
  | .rcd _ _, _, ⟨_, ws, h, r⟩ => ⟨_, h⟩
  | .ins _ _ _, _, ⟨_, dx, ws, h, r⟩ => ⟨_, h⟩
  | .tab _ _, _, ⟨_, _, h, _⟩ => ⟨_, h⟩
  | .lck _ _, _, ⟨h, _⟩ => ⟨_, h⟩
theorem Rel.tb_new {p : Addr} {o : HO} (r : Rel K B loc M H) (h : H p = none) (i : Nat) (a : Addr) (u : MO) (ps : Array Value) (e1 : loc[i]? = some a) (e2 : M[i]? = some u) (e3 : upd H p o a = some (.tbl ps)) : ∃ P q, u = .tab P q := by
  have q : a ≠ p := fun z => by
    obtain ⟨w, hw⟩ := r.all a (List.mem_of_getElem? e1)
    rw [z, h] at hw
    cases hw
  rw [upd_ne q] at e3
  exact r.tb i a u ps e1 e2 e3
/-- a new object that never changes -/
theorem Rel.new {p : Addr} {o : HO} (r : Rel K B loc M H) (h : H p = none) (ho : ∀ ps, o ≠ .tbl ps := by intro _ z; cases z) : Rel K (upd B p o) loc M (upd H p o) ∧ Go B loc H (upd B p o) loc (upd H p o) := by
  have bp : B p = none := by
    cases e : B p with
    | none => rfl
    | some u => rw [r.ext p u e] at h; cases h
  have sB : Same B (upd B p o) := same_new bp
  have sH : Same H (upd H p o) := same_new h
  refine ⟨⟨fun a u e => ?_, r.len, fun i a m e1 e2 l => ?_, r.inj, fun a q => let ⟨o, e⟩ := r.all a q; ⟨o, sH a o e⟩, nt_upd r.nt ho, r.tb_new h⟩, ⟨sB, List.prefix_rfl, fun a u e _ => sH a u e, fun a q => .inl q, fun a u e => ?_⟩⟩
  rotate_left 2
  · by_cases q : a = p
    · subst q; exact .inr (.inl h)
    · rw [upd_ne q] at e; exact .inl e
  · by_cases q : a = p
    · subst q; rw [upd_same] at e ⊢; exact e
    · rw [upd_ne q] at e ⊢; exact r.ext a u e
  · obtain ⟨h1, h2⟩ := r.obj i a m e1 e2 l
    obtain ⟨u, hu⟩ := h2.there l
    have q : a ≠ p := fun z => by rw [z, h] at hu; cases hu
    exact ⟨by rw [upd_ne q]; exact h1, h2.mono sB List.prefix_rfl fun o e => sH a o e⟩
/-- a new object of the store -/
theorem Rel.alloc {p : Addr} {ho : HO} {o : MO} (r : Rel K B loc M H) (h : H p = none) (d : ∀ H' : Hp, H' p = some ho → DenO K B (loc ++ [p]) p H' o) (hn : ∀ ps, ho ≠ .tbl ps := by intro _ z; cases z) : Rel K B (loc ++ [p]) (M ++ [o]) (upd H p ho) ∧ Go B loc H B (loc ++ [p]) (upd H p ho) := by
  have sH : Same H (upd H p ho) := same_new h
  have bp : B p = none := by
    cases e : B p with
    | none => rfl
    | some u => rw [r.ext p u e] at h; cases h
  have pl : loc <+: loc ++ [p] := ⟨[p], rfl⟩
  have hl : ∀ (i : Nat) (a : Addr) (m : MO), loc[i]? = some a → M[i]? = some m → m.live → a ≠ p := fun i a m e1 e2 l z => by
    obtain ⟨_, h2⟩ := r.obj i a m e1 e2 l
    obtain ⟨u, hu⟩ := h2.there l
    rw [z, h] at hu; cases hu
  have at_ : ∀ (i : Nat) (a : Addr) (m : MO), (loc ++ [p])[i]? = some a → (M ++ [o])[i]? = some m → (loc[i]? = some a ∧ M[i]? = some m) ∨ (i = loc.length ∧ a = p ∧ m = o) := fun i a m e1 e2 => by
    by_cases hi : i < loc.length
    · rw [List.getElem?_append_left hi] at e1
      rw [List.getElem?_append_left (by rw [← r.len]; exact hi)] at e2
      exact .inl ⟨e1, e2⟩
    · have hi2 : i = loc.length := by
        have := (List.getElem?_eq_some_iff.mp e1).1
        rw [List.length_append, List.length_singleton] at this
        omega
      subst hi2
      rw [List.getElem?_append_right (Nat.le_refl _), Nat.sub_self] at e1
      rw [List.getElem?_append_right (by rw [r.len]; exact Nat.le_refl _), r.len, Nat.sub_self] at e2
      exact .inr ⟨rfl, (Option.some.inj e1).symm, (Option.some.inj e2).symm⟩
  refine ⟨⟨fun a u e => sH a u (r.ext a u e), by rw [List.length_append, List.length_append, r.len]; rfl, fun i a m e1 e2 l => ?_, fun i j a m u e1 e2 e3 e4 l1 l2 => ?_, fun a q => ?_, r.nt, fun i a m ps e1 e2 e3 => by
    rcases at_ i a m e1 e2 with ⟨f1, f2⟩ | ⟨_, rfl, rfl⟩
    · exact r.tb_new h i a m ps f1 f2 e3
    · rw [upd_same] at e3
      exact absurd (Option.some.inj e3) (hn _)⟩, ⟨fun _ _ e => e, pl, fun a u e _ => sH a u e, fun a q => ?_, fun _ _ e => .inl e⟩⟩
  · rcases at_ i a m e1 e2 with ⟨f1, f2⟩ | ⟨_, rfl, rfl⟩
    · obtain ⟨h1, h2⟩ := r.obj i a m f1 f2 l
      exact ⟨h1, h2.mono (fun _ _ e => e) pl fun o e => sH a o e⟩
    · exact ⟨bp, d _ upd_same⟩
  · rcases at_ i a m e1 e3 with ⟨f1, f2⟩ | ⟨f0, f1, f2⟩ <;> rcases at_ j a u e2 e4 with ⟨g1, g2⟩ | ⟨g0, g1, g2⟩
    · exact r.inj i j a m u f1 g1 f2 g2 l1 l2
    · exact absurd g1 (hl i a m f1 f2 l1)
    · exact absurd f1 (hl j a u g1 g2 l2)
    · omega
  · rcases List.mem_append.mp q with q | q
    · obtain ⟨o, e⟩ := r.all a q
      exact ⟨o, sH a o e⟩
    · rw [List.mem_singleton.mp q]; exact ⟨_, upd_same⟩
  · rcases List.mem_append.mp q with q | q
    · exact .inl q
    · rw [List.mem_singleton.mp q]; exact .inr h
/-- an object of the store is changed -/
theorem Rel.put {i : Nat} {a : Addr} {m o : MO} {ho : HO} (r : Rel K B loc M H) (e1 : loc[i]? = some a) (e2 : M[i]? = some m) (l : m.live) (d : ∀ H' : Hp, H' a = some ho → DenO K B loc a H' o) (hn : ∀ ps, ho ≠ .tbl ps := by intro _ z; cases z) :
    Rel K B loc (M.set i o) (upd H a ho) ∧ Go B loc H B loc (upd H a ho) := by
  obtain ⟨b0, d0⟩ := r.obj i a m e1 e2 l
  have hi : i < M.length := (List.getElem?_eq_some_iff.mp e2).1
  have at_ : ∀ (j : Nat) (x : MO), (M.set i o)[j]? = some x → (j = i ∧ x = o) ∨ (j ≠ i ∧ M[j]? = some x) := fun j x e => by
    by_cases hj : j = i
    · subst hj
      rw [List.getElem?_set_self hi] at e
      exact .inl ⟨rfl, (Option.some.inj e).symm⟩
    · rw [List.getElem?_set_ne (Ne.symm hj)] at e
      exact .inr ⟨hj, e⟩
  refine ⟨⟨fun b u e => ?_, by rw [List.length_set]; exact r.len, fun j b x f1 f2 lx => ?_, fun j k b x y f1 f2 f3 f4 l1 l2 => ?_, fun b q => ?_, r.nt, fun j b x ps f1 f2 f3 => by
    by_cases hb : b = a
    · rw [hb, upd_same] at f3
      exact absurd (Option.some.inj f3) (hn _)
    · rw [upd_ne hb] at f3
      rcases at_ j x f2 with ⟨rfl, rfl⟩ | ⟨_, g⟩
      · rw [e1] at f1
        exact absurd (Option.some.inj f1).symm hb
      · exact r.tb j b x ps f1 g f3⟩, ⟨fun _ _ e => e, List.prefix_rfl, fun b u e n => ?_, fun b q => .inl q, fun _ _ e => .inl e⟩⟩
  · have q : b ≠ a := fun z => by rw [z, b0] at e; cases e
    rw [upd_ne q]; exact r.ext b u e
  · rcases at_ j x f2 with ⟨rfl, rfl⟩ | ⟨hj, f3⟩
    · have q : b = a := by rw [e1] at f1; exact (Option.some.inj f1).symm
      subst q
      exact ⟨b0, d _ upd_same⟩
    · obtain ⟨h1, h2⟩ := r.obj j b x f1 f3 lx
      have q : b ≠ a := fun z => hj (r.inj j i a x m (by rw [← z]; exact f1) e1 f3 e2 lx l)
      exact ⟨h1, h2.mono (fun _ _ e => e) List.prefix_rfl fun o e => by rw [upd_ne q]; exact e⟩
  · rcases at_ j x f3 with ⟨rfl, rfl⟩ | ⟨hj, g3⟩ <;> rcases at_ k y f4 with ⟨rfl, rfl⟩ | ⟨hk, g4⟩
    · rfl
    · exact r.inj _ _ b m y (by rw [← f1]) f2 e2 g4 l l2
    · exact r.inj _ _ b x m f1 f2 g3 e2 l1 l
    · exact r.inj _ _ b x y f1 f2 g3 g4 l1 l2
  · by_cases z : b = a
    · rw [z]; exact ⟨_, upd_same⟩
    · rw [upd_ne z]; exact r.all b q
  · have q : b ≠ a := fun z => n (by rw [z]; exact List.mem_of_getElem? e1)
    rw [upd_ne q]; exact e
/-- a list of the store is closed: from now on it never changes -/
theorem Rel.freeze {i : Nat} {a : Addr} {ds : List D} (r : Rel K B loc M H) (e1 : loc[i]? = some a) (e2 : M[i]? = some (.lst ds)) :
    ∃ B', Rel K B' loc (M.set i .dead) H ∧ Go B loc H B' loc H ∧ Den K B' loc (.lst ds) (.ref a) := by
  obtain ⟨b0, vs, hv, dv⟩ := r.obj i a _ e1 e2 trivial
  have sB : Same B (upd B a (.lst vs)) := same_new b0
  have hi : i < M.length := (List.getElem?_eq_some_iff.mp e2).1
  have at_ : ∀ (j : Nat) (x : MO), x.live → (M.set i .dead)[j]? = some x → j ≠ i ∧ M[j]? = some x := fun j x l e => by
    by_cases hj : j = i
    · subst hj
      rw [List.getElem?_set_self hi] at e
      cases e
      exact l.elim
    · rw [List.getElem?_set_ne (Ne.symm hj)] at e
      exact ⟨hj, e⟩
  refine ⟨upd B a (.lst vs), ⟨fun b u e => ?_, by rw [List.length_set]; exact r.len, fun j b x f1 f2 lx => ?_, fun j k b x y f1 f2 f3 f4 l1 l2 => ?_, r.all, nt_upd r.nt (fun _ z => by cases z), fun j b x ps f1 f2 f3 => by
    by_cases hj : j = i
    · rw [hj, e1] at f1
      rw [← Option.some.inj f1, hv] at f3
      cases f3
    · rw [List.getElem?_set_ne (Ne.symm hj)] at f2
      exact r.tb j b x ps f1 f2 f3⟩, ⟨sB, List.prefix_rfl, fun _ _ e _ => e, fun _ q => .inl q, fun b u e => ?_⟩, .lst upd_same (dv.mono sB List.prefix_rfl)⟩
  · by_cases q : b = a
    · subst q; rw [upd_same] at e; cases e; exact hv
    · rw [upd_ne q] at e; exact r.ext b u e
  · obtain ⟨hj, f3⟩ := at_ j x lx f2
    obtain ⟨h1, h2⟩ := r.obj j b x f1 f3 lx
    have q : b ≠ a := fun z => hj (r.inj j i a x _ (by rw [← z]; exact f1) e1 f3 e2 lx trivial)
    exact ⟨by rw [upd_ne q]; exact h1, h2.mono sB List.prefix_rfl fun _ e => e⟩
  · exact r.inj j k b x y f1 f2 (at_ j x l1 f3).2 (at_ k y l2 f4).2 l1 l2
  · by_cases q : b = a
    · subst q; exact .inr (.inr (.inl (List.mem_of_getElem? e1)))
    · rw [upd_ne q] at e; exact .inl e
end
end J

namespace J
open PySem PySem.Spec PyProof.Rows L2
/-! ### slots -/
structure EnvOk (K : PySem.W.Frag) (B : Hp) (loc : List Addr) (σ : L2.St) (ρ : Rho) : Prop where
  len : σ.length = ρ.length
  get : ∀ (i : Nat) (d : D), ρ[i]? = some (some d) → ∃ v, σ[i]? = some (some v) ∧ Den K B loc d v
section
variable {K : PySem.W.Frag} {B B' : Hp} {loc loc' : List Addr} {H H' : Hp} {σ : L2.St} {ρ : Rho}
theorem EnvOk.go (e : EnvOk K B loc σ ρ) (g : Go B loc H B' loc' H') : EnvOk K B' loc' σ ρ := ⟨e.len, fun i d h => let ⟨v, h1, h2⟩ := e.get i d h; ⟨v, h1, h2.go g⟩⟩
theorem EnvOk.set (e : EnvOk K B loc σ ρ) {d : D} {v : V} (h : Den K B loc d v) (i : Nat) : EnvOk K B loc (σ.set i (some v)) (ρ.set i (some d)) := by
  refine ⟨by rw [List.length_set, List.length_set]; exact e.len, fun j x q => ?_⟩
  by_cases hj : i = j
  · subst hj
    by_cases hi : i < ρ.length
    · rw [List.getElem?_set_self hi] at q
      cases q
      exact ⟨v, by rw [List.getElem?_set_self (by rw [e.len]; exact hi)], h⟩
    · rw [List.getElem?_eq_none (by rw [List.length_set]; omega)] at q
      cases q
  · rw [List.getElem?_set_ne hj] at q
    obtain ⟨w, h1, h2⟩ := e.get j x q
    exact ⟨w, by rw [List.getElem?_set_ne hj]; exact h1, h2⟩
def wipeR (ρ : Rho) : List Nat → Rho
  | [] => ρ
  | v :: vs => (wipeR ρ vs).set v none
theorem wipeR_length (ρ : Rho) : ∀ vs : List Nat, (wipeR ρ vs).length = ρ.length
  | [] => rfl
  | v :: vs => by unfold wipeR; rw [List.length_set, wipeR_length ρ vs]
theorem EnvOk.wipe (e : EnvOk K B loc σ ρ) : ∀ vs : List Nat, EnvOk K B loc (L2.wipe σ vs) (wipeR ρ vs)
  | [] => e
  | v :: vs => by
    have z := EnvOk.wipe e vs
    refine ⟨by rw [L2.wipe_length, wipeR_length]; exact e.len, fun i d q => ?_⟩
    unfold wipeR at q
    by_cases hv : v = i
    · subst hv
      by_cases hi : v < (wipeR ρ vs).length
      · rw [List.getElem?_set_self hi] at q; cases q
      · rw [List.getElem?_eq_none (by rw [List.length_set]; omega)] at q; cases q
    · rw [List.getElem?_set_ne hv] at q
      obtain ⟨w, h1, h2⟩ := z.get i d q
      exact ⟨w, by unfold L2.wipe; rw [List.getElem?_set_ne hv]; exact h1, h2⟩
end
/-! ### readings over data -/
abbrev SQ := D → Mem → Prop
abbrev SE := Rho → Mem → SQ → Prop
abbrev ST := Rho → Mem → (Bool → Mem → Prop) → Prop
abbrev SA := Rho → Mem → (List D → Mem → Prop) → Prop
structure SK where
  nx : Rho → Mem → Prop
  rt : SQ
  bk : Rho → Mem → Prop := fun _ _ => False
  ct : Rho → Mem → Prop := fun _ _ => False
abbrev SS := SK → Rho → Mem → Prop
abbrev SG := D → Rho → Mem → (Rho → Mem → Prop) → Prop
/-- what an iterable gives: its items, what must hold of the store meanwhile -/
abbrev SI := Rho → Mem → (List D → (Mem → Prop) → Mem → Prop) → Prop
abbrev S2 := D → D → Mem → SQ → Prop
abbrev S1 := D → Mem → SQ → Prop
abbrev SN := List D → Mem → SQ → Prop
/-- where one stands: the entry's state; E, Ed: what is wished of an exception -/
structure JC where
  B : Hp
  loc : List Addr
  H : Hp
  E : XK
  Ed : Addr → Mem → Prop
structure JX (c : JC) (X : Cx) : Prop where
  ok : ∀ cl M' B' loc' H', Go c.B c.loc c.H B' loc' H' → Rel X.K B' loc' M' H' → c.Ed cl M' → c.E (.ref cl) none H'
  pass : Passes (L2N.CX X.prog X.w) X c.E
/-- within a comprehension nothing is raised -/
def JC.in (c : JC) : JC := { c with E := E0, Ed := fun _ _ => False }
theorem passN {X : Cx} : Passes (L2N.CX X.prog X.w) X E0 := fun _ _ _ _ _ _ _ h => by
  obtain ⟨_, _, _, _, _, _, _, _, _, _, _, _, z⟩ := h
  exact z.elim
theorem JX.in (c : JC) (X : Cx) : JX c.in X := ⟨fun _ _ _ _ _ _ _ h => h.elim, passN⟩
structure At (c : JC) (K : PySem.W.Frag) (B : Hp) (loc : List Addr) (M : Mem) (H : Hp) (σ : L2.St) (ρ : Rho) : Prop where
  go : Go c.B c.loc c.H B loc H
  rel : Rel K B loc M H
  env : EnvOk K B loc σ ρ
theorem At.on {c : JC} {K : PySem.W.Frag} {B : Hp} {loc : List Addr} {M : Mem} {H : Hp} {σ : L2.St} {ρ : Rho} (a : At c K B loc M H σ ρ) {B' : Hp} {loc' : List Addr} {M' : Mem} {H' : Hp} (g : Go B loc H B' loc' H') (r : Rel K B' loc' M' H') : At c K B' loc' M' H' σ ρ :=
  ⟨a.go.trans g, r, a.env.go g⟩
/-- what follows a value: Qd of the data is Q of the value -/
abbrev To (K : PySem.W.Frag) (B : Hp) (loc : List Addr) (H : Hp) (Qd : SQ) (Q : VK) : Prop := ∀ d M' v B' loc' H', Go B loc H B' loc' H' → Rel K B' loc' M' H' → Den K B' loc' d v → Qd d M' → Q v H'
def JE (c : JC) (X : Cx) (e : Expr) (se : SE) : Prop :=
  ∃ te, PE X e te ∧ ∀ B loc M H σ ρ Q Qd, At c X.K B loc M H σ ρ → se ρ M Qd → To X.K B loc H Qd Q → te σ H Q
def JT (c : JC) (X : Cx) (e : Expr) (st : ST) : Prop :=
  ∃ tt, PT X e tt ∧ ∀ B loc M H σ ρ (Q : Bool → Hp → Prop) (Qd : Bool → Mem → Prop), At c X.K B loc M H σ ρ → st ρ M Qd →
    (∀ b M' B' loc' H', Go B loc H B' loc' H' → Rel X.K B' loc' M' H' → Qd b M' → Q b H') → tt σ H Q
def JA (c : JC) (X : Cx) (es : List Expr) (sa : SA) : Prop :=
  ∃ ta, PA X es ta ∧ ∀ B loc M H σ ρ (Q : List V → Hp → Prop) (Qd : List D → Mem → Prop), At c X.K B loc M H σ ρ → sa ρ M Qd →
    (∀ ds M' vs B' loc' H', Go B loc H B' loc' H' → Rel X.K B' loc' M' H' → DenL X.K B' loc' ds vs → Qd ds M' → Q vs H') → ta σ H Q
/-- a rule by values, told by data -/
def Sim2 (K : PySem.W.Frag) (r : R2) (s : S2) : Prop := ∀ B loc M H x y v w Q Qd, Rel K B loc M H → Den K B loc x v → Den K B loc y w → s x y M Qd → To K B loc H Qd Q → r v w H Q
def Sim1 (K : PySem.W.Frag) (r : V → Hp → VK → Prop) (s : S1) : Prop := ∀ B loc M H x v Q Qd, Rel K B loc M H → Den K B loc x v → s x M Qd → To K B loc H Qd Q → r v H Q
def SimN (K : PySem.W.Frag) (r : List V → Hp → VK → Prop) (s : SN) : Prop := ∀ B loc M H xs vs Q Qd, Rel K B loc M H → DenL K B loc xs vs → s xs M Qd → To K B loc H Qd Q → r vs H Q
/-- the same two, told to be one rule -/
def JOp (X : Cx) (f : Value → Value → Sem Value) (s : S2) : Prop := ∃ r, OpR X f r ∧ Sim2 X.K r s
def JCall (X : Cx) (f : Value) (s : SN) : Prop := ∃ r, CallR X f r ∧ SimN X.K r s
theorem JOp.or {X : Cx} {f : Value → Value → Sem Value} {s s' : S2} (h : JOp X f s) (h' : JOp X f s') : JOp X f fun x y M Q => s x y M Q ∨ s' x y M Q := by
  obtain ⟨r, o, z⟩ := h
  obtain ⟨r', o', z'⟩ := h'
  exact ⟨_, o.or o', fun B loc M H x y v w Q Qd R d1 d2 hs t => hs.elim (fun q => .inl (z B loc M H x y v w Q Qd R d1 d2 q t)) fun q => .inr (z' B loc M H x y v w Q Qd R d1 d2 q t)⟩
theorem JOp.imp {X : Cx} {f : Value → Value → Sem Value} {s s' : S2} (h : JOp X f s) (i : ∀ x y M Q, s' x y M Q → s x y M Q) : JOp X f s' := by
  obtain ⟨r, o, z⟩ := h
  exact ⟨r, o, fun B loc M H x y v w Q Qd R d1 d2 hs t => z B loc M H x y v w Q Qd R d1 d2 (i _ _ _ _ hs) t⟩
theorem JCall.or {X : Cx} {f : Value} {s s' : SN} (h : JCall X f s) (h' : JCall X f s') : JCall X f fun x M Q => s x M Q ∨ s' x M Q := by
  obtain ⟨r, o, z⟩ := h
  obtain ⟨r', o', z'⟩ := h'
  exact ⟨_, o.or o', fun B loc M H xs vs Q Qd R d hs t => hs.elim (fun q => .inl (z B loc M H xs vs Q Qd R d q t)) fun q => .inr (z' B loc M H xs vs Q Qd R d q t)⟩
theorem JCall.imp {X : Cx} {f : Value} {s s' : SN} (h : JCall X f s) (i : ∀ xs M Q, s' xs M Q → s xs M Q) : JCall X f s' := by
  obtain ⟨r, o, z⟩ := h
  exact ⟨r, o, fun B loc M H xs vs Q Qd R d hs t => z B loc M H xs vs Q Qd R d (i _ _ _ hs) t⟩
/-! ### expressions -/
section
variable {c : JC} {X : Cx} {a b e : Expr} {es : List Expr} {pos p : Pos} {sa sb se : SE}
def sVar (i : Nat) : SE := fun ρ M Q => match ρ[i]? with
  | some (some d) => Q d M
  | _ => False
def sC (d : D) : SE := fun _ M Q => Q d M
theorem je_var (i : Nat) {x : Str} (h : PE X (.Name x p) (tVar i)) : JE c X (.Name x p) (sVar i) := by
  refine ⟨_, h, fun B loc M H σ ρ Q Qd A hs t => ?_⟩
  unfold sVar at hs
  split at hs
  · rename_i d hd
    obtain ⟨v, h1, h2⟩ := A.env.get i d hd
    exact ⟨v, h1, t d M v B loc H .refl A.rel h2 hs⟩
  · exact hs.elim
theorem je_c {v : V} {d : D} (h : PE X e (tC v)) (hd : ∀ K B loc, Den K B loc d v) : JE c X e (sC d) :=
  ⟨_, h, fun B loc M H σ ρ Q Qd A hs t => t d M v B loc H .refl A.rel (hd _ _ _) hs⟩
theorem je_int {i : Int} {j : Nat} : JE c X (.Constant (.int i) j p) (sC (.int i)) := je_c pe_int fun _ _ _ => .int
theorem je_bl {i : Bool} {j : Nat} : JE c X (.Constant (.bool i) j p) (sC (.bl i)) := je_c pe_bl fun _ _ _ => .bl
theorem je_str {i : Str} {j : Nat} : JE c X (.Constant (.str i) j p) (sC (.str i)) := je_c pe_str fun _ _ _ => .str
theorem je_non {j : Nat} : JE c X (.Constant .none j p) (sC .non) := je_c pe_non fun _ _ _ => .non
theorem je_gint {x : Str} {i : Int} (hg : Gl X x) (hm : ∃ t, X.mg x = some (.int i t)) (hd : (x == ("__debug__" : Str)) = false := by decide) : JE c X (.Name x p) (sC (.int i)) := by
  obtain ⟨t, hm⟩ := hm
  exact je_c (pe_glob (v := .int i) hg hm ⟨t, rfl⟩ hd) fun _ _ _ => .int
theorem je_gstr {x : Str} {i : Str} (hg : Gl X x) (hm : ∃ t, X.mg x = some (.str i t)) (hd : (x == ("__debug__" : Str)) = false := by decide) : JE c X (.Name x p) (sC (.str i)) := by
  obtain ⟨t, hm⟩ := hm
  exact je_c (pe_glob (v := .str i) hg hm ⟨t, rfl⟩ hd) fun _ _ _ => .str
def sOp (s : S2) (sa sb : SE) : SE := fun ρ M Q => sa ρ M fun x M1 => sb ρ M1 fun y M2 => s x y M2 Q
theorem two {c : JC} {K : PySem.W.Frag} {ta tb : TE} {r : R2} {s : S2} (ha : ∀ B loc M H σ ρ Q Qd, At c K B loc M H σ ρ → sa ρ M Qd → To K B loc H Qd Q → ta σ H Q)
    (hb : ∀ B loc M H σ ρ Q Qd, At c K B loc M H σ ρ → sb ρ M Qd → To K B loc H Qd Q → tb σ H Q) (z : Sim2 K r s) {B : Hp} {loc : List Addr} {M : Mem} {H : Hp} {σ : L2.St} {ρ : Rho} {Q : VK} {Qd : SQ} (A : At c K B loc M H σ ρ) (hs : sOp s sa sb ρ M Qd) (t : To K B loc H Qd Q) : tOp r ta tb σ H Q :=
  ha B loc M H σ ρ _ _ A hs fun d1 M1 v1 B1 l1 H1 g1 r1 e1 h1 => hb B1 l1 M1 H1 σ ρ _ _ (A.on g1 r1) h1 fun d2 M2 v2 B2 l2 H2 g2 r2 e2 h2 =>
    z B2 l2 M2 H2 d1 d2 v1 v2 Q Qd r2 (e1.go g2) e2 h2 fun d3 M3 v3 B3 l3 H3 g3 r3 e3 h3 => t d3 M3 v3 B3 l3 H3 ((g1.trans g2).trans g3) r3 e3 h3
theorem je_op {op : Operator} {s : S2} (ho : JOp X (binaryOp op) s) (ha : JE c X a sa) (hb : JE c X b sb) : JE c X (.BinOp a op b pos) (sOp s sa sb) := by
  obtain ⟨ta, pa, za⟩ := ha
  obtain ⟨tb, pb, zb⟩ := hb
  obtain ⟨r, o, z⟩ := ho
  exact ⟨_, pe_op o pa pb, fun B loc M H σ ρ Q Qd A hs t => two za zb z A hs t⟩
theorem je_cmp {op : CmpOp} {s : S2} (ho : JOp X (compareOp op) s) (ha : JE c X a sa) (hb : JE c X b sb) (hm : behindInMarks op b = false := by first | exact nomark _ | rfl) : JE c X (.Compare a [op] [b] pos) (sOp s sa sb) := by
  obtain ⟨ta, pa, za⟩ := ha
  obtain ⟨tb, pb, zb⟩ := hb
  obtain ⟨r, o, z⟩ := ho
  exact ⟨_, pe_cmpR o pa pb hm, fun B loc M H σ ρ Q Qd A hs t => two za zb z A hs t⟩
/-- a < b < c -/
def sChain (s s' : S2) (sa sb sd : SE) : SE := fun ρ M Q => sa ρ M fun x M1 => sb ρ M1 fun y M2 => s x y M2 fun z M3 => match z with
  | .bl k => (k = true → sd ρ M3 fun w M4 => s' y w M4 Q) ∧ (k = false → Q (.bl false) M3)
  | _ => False
theorem chain_ok {K : PySem.W.Frag} {ta tb td : TE} {sd : SE} {r r' : R2} {s s' : S2} (ha : ∀ B loc M H σ ρ Q Qd, At c K B loc M H σ ρ → sa ρ M Qd → To K B loc H Qd Q → ta σ H Q)
    (hb : ∀ B loc M H σ ρ Q Qd, At c K B loc M H σ ρ → sb ρ M Qd → To K B loc H Qd Q → tb σ H Q) (hd : ∀ B loc M H σ ρ Q Qd, At c K B loc M H σ ρ → sd ρ M Qd → To K B loc H Qd Q → td σ H Q)
    (z : Sim2 K r s) (z' : Sim2 K r' s') {B : Hp} {loc : List Addr} {M : Mem} {H : Hp} {σ : L2.St} {ρ : Rho} {Q : VK} {Qd : SQ} (A : At c K B loc M H σ ρ) (hs : sChain s s' sa sb sd ρ M Qd) (t : To K B loc H Qd Q) : tChain r r' ta tb td σ H Q := by
  refine ha B loc M H σ ρ _ _ A hs fun d1 M1 v1 B1 l1 H1 g1 r1 e1 h1 => hb B1 l1 M1 H1 σ ρ _ _ (A.on g1 r1) h1 fun d2 M2 v2 B2 l2 H2 g2 r2 e2 h2 => ?_
  refine z B2 l2 M2 H2 d1 d2 v1 v2 _ _ r2 (e1.go g2) e2 h2 fun d3 M3 v3 B3 l3 H3 g3 r3 e3 h3 => ?_
  cases e3 with
  | bl =>
    rename_i k
    refine ⟨k, rfl, ?_⟩
    cases k with
    | true =>
      refine iteT (hd B3 l3 M3 H3 σ ρ _ _ (A.on ((g1.trans g2).trans g3) r3) (h3.1 rfl) fun d4 M4 v4 B4 l4 H4 g4 r4 e4 h4 => ?_)
      refine z' B4 l4 M4 H4 d2 d4 v2 v4 Q Qd r4 (e2.go (g3.trans g4)) e4 h4 fun d5 M5 v5 B5 l5 H5 g5 r5 e5 h5 => t d5 M5 v5 B5 l5 H5 ((((g1.trans g2).trans g3).trans g4).trans g5) r5 e5 h5
    | false => exact iteF (t _ _ _ _ _ _ ((g1.trans g2).trans g3) r3 .bl (h3.2 rfl))
  | _ => exact h3.elim
theorem je_chain {op op' : CmpOp} {s s' : S2} {d : Expr} {sd : SE} (ho : JOp X (compareOp op) s) (ho' : JOp X (compareOp op') s') (ha : JE c X a sa) (hb : JE c X b sb) (hd : JE c X d sd) (hm : lastMarks [op, op'] [b, d] = false := by with_unfolding_all rfl) :
    JE c X (.Compare a [op, op'] [b, d] pos) (sChain s s' sa sb sd) := by
  obtain ⟨ta, pa, za⟩ := ha
  obtain ⟨tb, pb, zb⟩ := hb
  obtain ⟨td, pd, zd⟩ := hd
  obtain ⟨r, o, z⟩ := ho
  obtain ⟨r', o', z'⟩ := ho'
  exact ⟨_, pe_chain o o' pa pb pd hm, fun B loc M H σ ρ Q Qd A hs t => chain_ok za zb zd z z' A hs t⟩
/-! ### tests -/
abbrev Tt (K : PySem.W.Frag) (B : Hp) (loc : List Addr) (H : Hp) (Qd : Bool → Mem → Prop) (Q : Bool → Hp → Prop) : Prop := ∀ b M' B' loc' H', Go B loc H B' loc' H' → Rel K B' loc' M' H' → Qd b M' → Q b H'
def JW (c : JC) (X : Cx) (e : Expr) (st : ST) : Prop :=
  ∃ tt, PW X e tt ∧ ∀ B loc M H σ ρ (Q : Bool → Hp → Prop) (Qd : Bool → Mem → Prop), At c X.K B loc M H σ ρ → st ρ M Qd → Tt X.K B loc H Qd Q → tt σ H Q
/-- the value is a truth -/
def sTst (se : SE) : ST := fun ρ M Q => se ρ M fun d M' => match d with
  | .bl b => Q b M'
  | _ => False
theorem tst_to {K : PySem.W.Frag} {B : Hp} {loc : List Addr} {H : Hp} {Qd : Bool → Mem → Prop} {Q : Bool → Hp → Prop} (t : Tt K B loc H Qd Q) : To K B loc H (fun d M' => match d with
  | .bl b => Qd b M'
  | _ => False) (fun x H' => ∃ k, x = .bl k ∧ Q k H') := fun d M' v B' loc' H' g r e h => by
  cases e with
  | bl => exact ⟨_, rfl, t _ _ _ _ _ g r h⟩
  | _ => exact h.elim
theorem jt_cmp {op : CmpOp} {s : S2} (ho : JOp X (compareOp op) s) (ha : JE c X a sa) (hb : JE c X b sb) (hm : behindInMarks op b = false := by first | exact nomark _ | rfl) : JT c X (.Compare a [op] [b] pos) (sTst (sOp s sa sb)) := by
  obtain ⟨ta, pa, za⟩ := ha
  obtain ⟨tb, pb, zb⟩ := hb
  obtain ⟨r, o, z⟩ := ho
  exact ⟨_, pt_cmpR o pa pb hm, fun B loc M H σ ρ Q Qd A hs t => two za zb z A hs (tst_to t)⟩
theorem jt_chain {op op' : CmpOp} {s s' : S2} {d : Expr} {sd : SE} (ho : JOp X (compareOp op) s) (ho' : JOp X (compareOp op') s') (ha : JE c X a sa) (hb : JE c X b sb) (hd : JE c X d sd) (hm : lastMarks [op, op'] [b, d] = false := by with_unfolding_all rfl) :
    JT c X (.Compare a [op, op'] [b, d] pos) (sTst (sChain s s' sa sb sd)) := by
  obtain ⟨ta, pa, za⟩ := ha
  obtain ⟨tb, pb, zb⟩ := hb
  obtain ⟨td, pd, zd⟩ := hd
  obtain ⟨r, o, z⟩ := ho
  obtain ⟨r', o', z'⟩ := ho'
  exact ⟨_, pt_chain o o' pa pb pd hm, fun B loc M H σ ρ Q Qd A hs t => chain_ok za zb zd z z' A hs (tst_to t)⟩
/-- any other expression whose value is a truth: a name, a call, a subscript -/
theorem jt_val (he : JE c X e se) (hw : ∀ whole, isTrue e X.env whole = (do let v ← whole; standAt e.pos; holding [v] (truthy v)) := by intro _; rfl) : JT c X e (sTst se) := by
  obtain ⟨te, pe, ze⟩ := he
  exact ⟨_, pt_val pe hw, fun B loc M H σ ρ Q Qd A hs t => ze B loc M H σ ρ _ _ A hs (tst_to t)⟩
variable {ta tb : ST} {rest : List Expr}
def sNot (t : ST) : ST := fun ρ M Q => t ρ M fun b M' => Q (!b) M'
/-- two ways: by the test's answer -/
def sAndT (t u : ST) : ST := fun ρ M Q => t ρ M fun b M1 => (b = true → u ρ M1 Q) ∧ (b = false → Q false M1)
def sOrT (t u : ST) : ST := fun ρ M Q => t ρ M fun b M1 => (b = true → Q true M1) ∧ (b = false → u ρ M1 Q)
theorem jt_not (ha : JT c X a ta) : JT c X (.UnaryOp .Not a pos) (sNot ta) := by
  obtain ⟨t, pa, za⟩ := ha
  exact ⟨_, pt_not pa, fun B loc M H σ ρ Q Qd A hs t => za B loc M H σ ρ _ _ A hs fun b M' B' l' H' g r h => t _ _ _ _ _ g r h⟩
theorem JW.pt (h : JW c X e ta) : JT c X e ta := by
  obtain ⟨t, p, z⟩ := h
  exact ⟨t, p.pt, z⟩
theorem jw_and1 (ha : JT c X a ta) : JW c X (.BoolOp .And [a] pos) ta := by
  obtain ⟨t, p, z⟩ := ha
  exact ⟨t, pw_and1 p, z⟩
theorem jw_or1 (ha : JT c X a ta) : JW c X (.BoolOp .Or [a] pos) ta := by
  obtain ⟨t, p, z⟩ := ha
  exact ⟨t, pw_or1 p, z⟩
theorem jw_and (ha : JT c X a ta) (hb : JW c X (.BoolOp .And (b :: rest) pos) tb) : JW c X (.BoolOp .And (a :: b :: rest) pos) (sAndT ta tb) := by
  obtain ⟨t, p, z⟩ := ha
  obtain ⟨u, p', z'⟩ := hb
  refine ⟨_, pw_and p p', fun B loc M H σ ρ Q Qd A hs t => z B loc M H σ ρ _ _ A hs fun b M' B' l' H' g r h => ?_⟩
  cases b with
  | true => exact iteT (z' B' l' M' H' σ ρ Q Qd (A.on g r) (h.1 rfl) fun b2 M2 B2 l2 H2 g2 r2 h2 => t _ _ _ _ _ (g.trans g2) r2 h2)
  | false => exact iteF (t _ _ _ _ _ g r (h.2 rfl))
theorem jw_or (ha : JT c X a ta) (hb : JW c X (.BoolOp .Or (b :: rest) pos) tb) : JW c X (.BoolOp .Or (a :: b :: rest) pos) (sOrT ta tb) := by
  obtain ⟨t, p, z⟩ := ha
  obtain ⟨u, p', z'⟩ := hb
  refine ⟨_, pw_or p p', fun B loc M H σ ρ Q Qd A hs t => z B loc M H σ ρ _ _ A hs fun b M' B' l' H' g r h => ?_⟩
  cases b with
  | true => exact iteT (t _ _ _ _ _ g r (h.1 rfl))
  | false => exact iteF (z' B' l' M' H' σ ρ Q Qd (A.on g r) (h.2 rfl) fun b2 M2 B2 l2 H2 g2 r2 h2 => t _ _ _ _ _ (g.trans g2) r2 h2)
/-! ### and, or, not as values -/
def sAndV (sa sb : SE) : SE := fun ρ M Q => sa ρ M fun d M1 => match d with
  | .bl k => (k = true → sb ρ M1 Q) ∧ (k = false → Q (.bl false) M1)
  | _ => False
def sOrV (sa sb : SE) : SE := fun ρ M Q => sa ρ M fun d M1 => match d with
  | .bl k => (k = true → Q (.bl true) M1) ∧ (k = false → sb ρ M1 Q)
  | _ => False
def sNotV (sa : SE) : SE := fun ρ M Q => sa ρ M fun d M1 => match d with
  | .bl k => Q (.bl (!k)) M1
  | _ => False
theorem je_one {op : BoolOp} (h : JE c X a sa) : JE c X (.BoolOp op [a] pos) sa := by
  obtain ⟨t, p, z⟩ := h
  exact ⟨t, pe_one p, z⟩
theorem je_and (ha : JE c X a sa) (hb : JE c X (.BoolOp .And (b :: rest) pos) sb) : JE c X (.BoolOp .And (a :: b :: rest) pos) (sAndV sa sb) := by
  obtain ⟨t, p, z⟩ := ha
  obtain ⟨u, p', z'⟩ := hb
  refine ⟨_, pe_and p p', fun B loc M H σ ρ Q Qd A hs t => z B loc M H σ ρ _ _ A hs fun d M' v B' l' H' g r e h => ?_⟩
  cases e with
  | bl =>
    rename_i k
    refine ⟨k, rfl, ?_⟩
    cases k with
    | true => exact iteT (z' B' l' M' H' σ ρ Q Qd (A.on g r) (h.1 rfl) fun d2 M2 v2 B2 l2 H2 g2 r2 e2 h2 => t _ _ _ _ _ _ (g.trans g2) r2 e2 h2)
    | false => exact iteF (t _ _ _ _ _ _ g r .bl (h.2 rfl))
  | _ => exact h.elim
theorem je_or (ha : JE c X a sa) (hb : JE c X (.BoolOp .Or (b :: rest) pos) sb) : JE c X (.BoolOp .Or (a :: b :: rest) pos) (sOrV sa sb) := by
  obtain ⟨t, p, z⟩ := ha
  obtain ⟨u, p', z'⟩ := hb
  refine ⟨_, pe_or p p', fun B loc M H σ ρ Q Qd A hs t => z B loc M H σ ρ _ _ A hs fun d M' v B' l' H' g r e h => ?_⟩
  cases e with
  | bl =>
    rename_i k
    refine ⟨k, rfl, ?_⟩
    cases k with
    | true => exact iteT (t _ _ _ _ _ _ g r .bl (h.1 rfl))
    | false => exact iteF (z' B' l' M' H' σ ρ Q Qd (A.on g r) (h.2 rfl) fun d2 M2 v2 B2 l2 H2 g2 r2 e2 h2 => t _ _ _ _ _ _ (g.trans g2) r2 e2 h2)
  | _ => exact h.elim
theorem je_not (ha : JE c X a sa) : JE c X (.UnaryOp .Not a pos) (sNotV sa) := by
  obtain ⟨t, p, z⟩ := ha
  refine ⟨_, pe_not p, fun B loc M H σ ρ Q Qd A hs t => z B loc M H σ ρ _ _ A hs fun d M' v B' l' H' g r e h => ?_⟩
  cases e with
  | bl => exact ⟨_, rfl, t _ _ _ _ _ _ g r .bl h⟩
  | _ => exact h.elim
/-- a if t else b -/
def sIf (t : ST) (sa sb : SE) : SE := fun ρ M Q => t ρ M fun k M1 => (k = true → sa ρ M1 Q) ∧ (k = false → sb ρ M1 Q)
theorem je_if {d : Expr} (hd : JT c X d ta) (ha : JE c X a sa) (hb : JE c X b sb) : JE c X (.IfExp d a b pos) (sIf ta sa sb) := by
  obtain ⟨t, p, z⟩ := hd
  obtain ⟨u, p', z'⟩ := ha
  obtain ⟨w, p2, z2⟩ := hb
  refine ⟨_, pe_ifExp p p' p2, fun B loc M H σ ρ Q Qd A hs t => z B loc M H σ ρ _ _ A hs fun k M' B' l' H' g r h => ?_⟩
  cases k with
  | true => exact iteT (z' B' l' M' H' σ ρ Q Qd (A.on g r) (h.1 rfl) fun d2 M2 v2 B2 l2 H2 g2 r2 e2 h2 => t _ _ _ _ _ _ (g.trans g2) r2 e2 h2)
  | false => exact iteF (z2 B' l' M' H' σ ρ Q Qd (A.on g r) (h.2 rfl) fun d2 M2 v2 B2 l2 H2 g2 r2 e2 h2 => t _ _ _ _ _ _ (g.trans g2) r2 e2 h2)
/-! ### arguments, displays -/
abbrev Ta (K : PySem.W.Frag) (B : Hp) (loc : List Addr) (H : Hp) (Qd : List D → Mem → Prop) (Q : List V → Hp → Prop) : Prop := ∀ ds M' vs B' loc' H', Go B loc H B' loc' H' → Rel K B' loc' M' H' → DenL K B' loc' ds vs → Qd ds M' → Q vs H'
def sNil : SA := fun _ M Q => Q [] M
def sCons (se : SE) (sr : SA) : SA := fun ρ M Q => se ρ M fun d M1 => sr ρ M1 fun ds M2 => Q (d :: ds) M2
theorem ja_nil : JA c X [] sNil := ⟨_, pa_nil, fun B loc M H σ ρ Q Qd A hs t => t [] M [] B loc H .refl A.rel .nil hs⟩
theorem ja_cons {sr : SA} (he : JE c X e se) (hr : JA c X es sr) (hst : starEach (e :: es) X.env = (false, eval e X.env) :: starEach es X.env := by rfl) : JA c X (e :: es) (sCons se sr) := by
  obtain ⟨t, p, z⟩ := he
  obtain ⟨u, p', z'⟩ := hr
  refine ⟨_, pa_cons p p' hst, fun B loc M H σ ρ Q Qd A hs t => z B loc M H σ ρ _ _ A hs fun d M' v B' l' H' g r e h => ?_⟩
  exact z' B' l' M' H' σ ρ _ _ (A.on g r) h fun ds M2 vs B2 l2 H2 g2 r2 e2 h2 => t _ _ _ _ _ _ (g.trans g2) r2 (.cons (e.go g2) e2) h2
def sTup (sr : SA) : SE := fun ρ M Q => sr ρ M fun ds M1 => ds.length ≤ sizeLine ∧ Q (.tup ds) M1
def sLst (sr : SA) : SE := fun ρ M Q => sr ρ M fun ds M1 => ds.length ≤ sizeLine ∧ Q (.lst ds) M1
/-- a list that will be changed -/
def sLstM (sr : SA) : SE := fun ρ M Q => sr ρ M fun ds M1 => ds.length ≤ sizeLine ∧ Q (.ref M1.length) (M1 ++ [.lst ds])
theorem get_snoc {α : Type} (l : List α) (x : α) : (l ++ [x])[l.length]? = some x := by
  rw [List.getElem?_append_right (Nat.le_refl _), Nat.sub_self]; rfl
theorem je_tup {sr : SA} {n : Nat} (h : JA c X es sr) : JE c X (.Tuple es n pos) (sTup sr) := by
  obtain ⟨t, p, z⟩ := h
  refine ⟨_, pe_tup p, fun B loc M H σ ρ Q Qd A hs t => z B loc M H σ ρ _ _ A hs fun ds M' vs B' l' H' g r e h => ⟨by rw [← e.length]; exact h.1, fun q hq => ?_⟩⟩
  obtain ⟨r1, g1⟩ := r.new (o := .tup vs) hq
  exact t _ _ _ _ _ _ (g.trans g1) r1 (.tup (SqT.of upd_same) (e.go g1)) h.2
theorem je_lst {sr : SA} (h : JA c X es sr) : JE c X (.List es pos) (sLst sr) := by
  obtain ⟨t, p, z⟩ := h
  refine ⟨_, pe_lst p, fun B loc M H σ ρ Q Qd A hs t => z B loc M H σ ρ _ _ A hs fun ds M' vs B' l' H' g r e h => ⟨by rw [← e.length]; exact h.1, fun q hq => ?_⟩⟩
  obtain ⟨r1, g1⟩ := r.new (o := .lst vs) hq
  exact t _ _ _ _ _ _ (g.trans g1) r1 (.lst upd_same (e.go g1)) h.2
/-- a new list of the store -/
theorem newM {K : PySem.W.Frag} {B : Hp} {loc : List Addr} {M : Mem} {H : Hp} {q : Addr} {ds : List D} {vs : List V} (r : Rel K B loc M H) (hq : H q = none) (e : DenL K B loc ds vs) :
    Rel K B (loc ++ [q]) (M ++ [.lst ds]) (upd H q (.lst vs)) ∧ Go B loc H B (loc ++ [q]) (upd H q (.lst vs)) ∧ Den K B (loc ++ [q]) (.ref M.length) (.ref q) := by
  obtain ⟨r1, g1⟩ := r.alloc (o := .lst ds) (ho := .lst vs) hq fun H' h' => ⟨vs, h', e.mono (fun _ _ z => z) ⟨[q], rfl⟩⟩
  exact ⟨r1, g1, .ref (by rw [← r.len]; exact get_snoc loc q)⟩
theorem je_lstM {sr : SA} (h : JA c X es sr) : JE c X (.List es pos) (sLstM sr) := by
  obtain ⟨t, p, z⟩ := h
  refine ⟨_, pe_lst p, fun B loc M H σ ρ Q Qd A hs t => z B loc M H σ ρ _ _ A hs fun ds M' vs B' l' H' g r e h => ⟨by rw [← e.length]; exact h.1, fun q hq => ?_⟩⟩
  obtain ⟨r1, g1, d1⟩ := newM r hq e
  exact t _ _ _ _ _ _ (g.trans g1) r1 d1 h.2
/-- a list of the store is closed for good -/
def sFrz (se : SE) : SE := fun ρ M Q => se ρ M fun d M1 => match d with
  | .ref i => ∃ ds, M1[i]? = some (.lst ds) ∧ Q (.lst ds) (M1.set i .dead)
  | _ => False
theorem je_frz (h : JE c X e se) : JE c X e (sFrz se) := by
  obtain ⟨t, p, z⟩ := h
  refine ⟨_, p, fun B loc M H σ ρ Q Qd A hs t => z B loc M H σ ρ _ _ A hs fun d M' v B' l' H' g r e h => ?_⟩
  cases e with
  | ref hl =>
    obtain ⟨ds, h1, h2⟩ := h
    obtain ⟨B2, r2, g2, d2⟩ := r.freeze hl h1
    exact t _ _ _ _ _ _ (g.trans g2) r2 d2 h2
  | _ => exact h.elim
end
end J

namespace J
open PySem PySem.Spec PyProof.Rows L2
/-! ### what a value is, by the store -/
def asL (M : Mem) : D → Option (List D)
  | .scr ns => some (ns.map D.int)
  | .lst xs => some xs
  | .ref i => match M[i]? with
    | some (.lst xs) => some xs
    | _ => none
  | _ => none
/-- .. but the script -/
def asR (M : Mem) : D → Option (List D)
  | .lst xs => some xs
  | .ref i => match M[i]? with
    | some (.lst xs) => some xs
    | _ => none
  | _ => none
def asT : D → Option (List D)
  | .tup xs => some xs
  | _ => none
section
variable {K : PySem.W.Frag} {B : Hp} {loc : List Addr} {M : Mem} {H : Hp} {d : D} {v : V} {xs : List D}
theorem asL_ok (r : Rel K B loc M H) (e : Den K B loc d v) (h : asL M d = some xs) : ∃ a vs, v = .ref a ∧ SqL K H a vs ∧ DenL K B loc xs vs := by
  cases e with
  | lst hs hl =>
    cases h
    exact ⟨_, _, rfl, SqL.of (r.ext _ _ hs), hl⟩
  | scr hs =>
    cases h
    exact ⟨_, _, rfl, r.ext.seq hs, denL_ints _⟩
  | @ref i a hi =>
    unfold asL at h
    cases q : M[i]? with
    | none => simp only [q] at h; cases h
    | some o =>
      simp only [q] at h
      cases o with
      | lst ys =>
        cases h
        obtain ⟨_, vs, h1, h2⟩ := r.obj i a _ hi q trivial
        exact ⟨a, vs, rfl, SqL.of h1, h2⟩
      | _ => cases h
  | _ => cases h
theorem asR_ok (r : Rel K B loc M H) (e : Den K B loc d v) (h : asR M d = some xs) : ∃ a vs, v = .ref a ∧ H a = some (.lst vs) ∧ DenL K B loc xs vs := by
  cases e with
  | lst hs hl =>
    cases h
    exact ⟨_, _, rfl, r.ext _ _ hs, hl⟩
  | @ref i a hi =>
    unfold asR at h
    cases q : M[i]? with
    | none => simp only [q] at h; cases h
    | some o =>
      simp only [q] at h
      cases o with
      | lst ys =>
        cases h
        obtain ⟨_, vs, h1, h2⟩ := r.obj i a _ hi q trivial
        exact ⟨a, vs, rfl, h1, h2⟩
      | _ => cases h
  | _ => cases h
theorem asT_ok (r : Rel K B loc M H) (e : Den K B loc d v) (h : asT d = some xs) : ∃ a vs, v = .ref a ∧ SqT K H a vs ∧ DenL K B loc xs vs := by
  cases e with
  | tup hs hl =>
    cases h
    exact ⟨_, _, rfl, same_t r.ext hs, hl⟩
  | _ => cases h
/-- a list that may be changed -/
theorem memL_ok {i : Nat} (r : Rel K B loc M H) (e : Den K B loc (.ref i) v) (h : M[i]? = some (.lst xs)) : ∃ a vs, v = .ref a ∧ loc[i]? = some a ∧ H a = some (.lst vs) ∧ DenL K B loc xs vs := by
  cases e with
  | ref hi =>
    obtain ⟨_, vs, h1, h2⟩ := r.obj i _ _ hi h trivial
    exact ⟨_, vs, rfl, hi, h1, h2⟩
end
/-! ### data compared -/
mutual
def pyD : D → Option PyData
  | .non => some .none
  | .bl b => some (.bool b)
  | .int i => some (.int i)
  | .str x => some (.str x)
  | .tup xs => (pyL xs).map .tuple
  | .lst xs => (pyL xs).map .list
  | .scr ns => some (.list (ns.map PyData.int))
  | .ref _ => none
  | .adr _ => none
def pyL : List D → Option (List PyData)
  | [] => some []
  | x :: xs => match pyD x, pyL xs with
    | some d, some ds => some (d :: ds)
    | _, _ => none
end
/-- .. a changing list, too -/
def pyM (M : Mem) : D → Option PyData
  | .ref i => match M[i]? with
    | some (.lst xs) => (pyL xs).map .list
    | _ => none
  | d => pyD d
section
variable {K : PySem.W.Frag} {B : Hp} {loc : List Addr} {H : Hp}
theorem dpAll_ints : ∀ ns : List Int, DpAll K H (ns.map V.int) (ns.map PyData.int)
  | [] => .nil
  | n :: ns => .cons (.int n) (dpAll_ints ns)
mutual
theorem pyD_ok (s : Same B H) : ∀ {d : D} {v : V} {p : PyData}, Den K B loc d v → pyD d = some p → Dp K H v p
  | .non, _, _, .non, h => by cases h; exact .non
  | .bl _, _, _, .bl, h => by cases h; exact .bl _
  | .int _, _, _, .int, h => by cases h; exact .int _
  | .str _, _, _, .str, h => by cases h; exact .str _
  | .tup xs, _, _, .tup hs hl, h => by
    unfold pyD at h
    obtain ⟨ps, h1, h2⟩ := Option.map_eq_some_iff.mp h
    subst h2
    exact .tup (same_t s hs) (pyL_ok s hl h1)
  | .lst xs, _, _, .lst hs hl, h => by
    unfold pyD at h
    obtain ⟨ps, h1, h2⟩ := Option.map_eq_some_iff.mp h
    subst h2
    exact .lst (SqL.of (s _ _ hs)) (pyL_ok s hl h1)
  | .scr ns, _, _, .scr hs, h => by
    cases h
    exact .lst (s.seq hs) (dpAll_ints ns)
  | .ref _, _, _, .ref _, h => by cases h
  | .adr _, _, _, .adr, h => by cases h
theorem pyL_ok (s : Same B H) : ∀ {ds : List D} {vs : List V} {ps : List PyData}, DenL K B loc ds vs → pyL ds = some ps → DpAll K H vs ps
  | [], _, _, .nil, h => by cases h; exact .nil
  | d :: ds, _, _, .cons e r, h => by
    unfold pyL at h
    split at h
    · rename_i p q h1 h2
      cases h
      exact .cons (pyD_ok s e h1) (pyL_ok s r h2)
    · cases h
end
theorem pyM_ok {M : Mem} {d : D} {v : V} {p : PyData} (r : Rel K B loc M H) (e : Den K B loc d v) (h : pyM M d = some p) : Dp K H v p := by
  cases e with
  | @ref i a hi =>
    unfold pyM at h
    cases q : M[i]? with
    | none => simp only [q] at h; cases h
    | some o =>
      simp only [q] at h
      cases o with
      | lst ys =>
        obtain ⟨ps, h1, h2⟩ := Option.map_eq_some_iff.mp h
        subst h2
        obtain ⟨_, vs, h3, h4⟩ := r.obj i a _ hi q trivial
        exact .lst (SqL.of h3) (pyL_ok r.ext h4 h1)
      | _ => cases h
  | non => exact pyD_ok (loc := loc) r.ext .non h
  | adr => cases h
  | bl => exact pyD_ok (loc := loc) r.ext .bl h
  | int => exact pyD_ok (loc := loc) r.ext .int h
  | str => exact pyD_ok (loc := loc) r.ext .str h
  | scr a => exact pyD_ok (loc := loc) r.ext (.scr a) h
  | tup a b => exact pyD_ok r.ext (.tup a b) h
  | lst a b => exact pyD_ok r.ext (.lst a b) h
end
theorem ints_plain : ∀ ns : List Int, PyData.plainAll (ns.map PyData.int) = true
  | [] => rfl
  | n :: ns => ints_plain ns
mutual
theorem pyD_plain : ∀ {d : D} {p : PyData}, pyD d = some p → p.plain = true
  | .non, _, h => by cases h; rfl
  | .bl _, _, h => by cases h; rfl
  | .int _, _, h => by cases h; rfl
  | .str _, _, h => by cases h; rfl
  | .tup xs, _, h => by
    unfold pyD at h
    obtain ⟨ps, h1, h2⟩ := Option.map_eq_some_iff.mp h
    subst h2
    exact pyL_plain h1
  | .lst xs, _, h => by
    unfold pyD at h
    obtain ⟨ps, h1, h2⟩ := Option.map_eq_some_iff.mp h
    subst h2
    exact pyL_plain h1
  | .scr ns, _, h => by cases h; exact ints_plain ns
  | .ref _, _, h => by cases h
  | .adr _, _, h => by cases h
theorem pyL_plain : ∀ {ds : List D} {ps : List PyData}, pyL ds = some ps → PyData.plainAll ps = true
  | [], _, h => by cases h; rfl
  | d :: ds, _, h => by
    unfold pyL at h
    split at h
    · rename_i p q h1 h2
      cases h
      show (p.plain && PyData.plainAll q) = true
      rw [pyD_plain h1, pyL_plain h2]; rfl
    · cases h
end
theorem pyM_plain {M : Mem} {d : D} {p : PyData} (h : pyM M d = some p) : p.plain = true := by
  cases d with
  | ref i =>
    unfold pyM at h
    dsimp only at h
    split at h
    · obtain ⟨ps, h1, h2⟩ := Option.map_eq_some_iff.mp h
      subst h2
      exact pyL_plain h1
    · cases h
  | _ => exact pyD_plain h
/-- == and != -/
def rEqP (K : PySem.W.Frag) (neg : Bool) : R2 := fun x y H Q => ∃ d e, Dp K H x d ∧ Dp K H y e ∧ d.plain = true ∧ e.plain = true ∧ min d.depth e.depth ≤ 60 ∧ Q (.bl (if neg then !PyData.eqv d e else PyData.eqv d e)) H
section
variable {X : Cx}
theorem op_eqP (hu : X.A.units + 64 < cLine) : OpR X (compareOp .Eq) (rEqP X.K false) := by
  intro pins s σ H x y v u Q I rx ry h
  obtain ⟨d, e, hd, he, sd, se, dp, q⟩ := h
  obtain ⟨as, r1⟩ := Dp.reads I d x v hd rx
  obtain ⟨bs, r2⟩ := Dp.reads I e y u he ry
  exact PySem.SeqAt.eq_plain r1 r2 sd se (by omega) ⟨.bl _, H, I, rfl, q⟩
theorem op_neP (hu : X.A.units + 64 < cLine) : OpR X (compareOp .NotEq) (rEqP X.K true) := by
  intro pins s σ H x y v u Q I rx ry h
  obtain ⟨d, e, hd, he, sd, se, dp, q⟩ := h
  obtain ⟨as, r1⟩ := Dp.reads I d x v hd rx
  obtain ⟨bs, r2⟩ := Dp.reads I e y u he ry
  exact PySem.SeqAt.ne_plain r1 r2 sd se (by omega) ⟨.bl _, H, I, rfl, q⟩
end
def sEqG (neg : Bool) : S2 := fun x y M Q => ∃ d e, pyM M x = some d ∧ pyM M y = some e ∧ min d.depth e.depth ≤ 60 ∧ Q (.bl (if neg then !PyData.eqv d e else PyData.eqv d e)) M
def sEq : S2 := fun x y M Q => match x, y with
  | .int i, .int j => Q (.bl (decide (i = j))) M
  | .str i, .str j => Q (.bl (decide (i = j))) M
  | .bl i, .bl j => Q (.bl (decide (i = j))) M
  | x, y => sEqG false x y M Q
def sNe : S2 := fun x y M Q => match x, y with
  | .int i, .int j => Q (.bl (!decide (i = j))) M
  | .str i, .str j => Q (.bl (!decide (i = j))) M
  | .bl i, .bl j => Q (.bl (!decide (i = j))) M
  | x, y => sEqG true x y M Q
theorem eqG_ok {K : PySem.W.Frag} {neg : Bool} : Sim2 K (rEqP K neg) (sEqG neg) := fun B loc M H x y v w Q Qd r d1 d2 h t => by
  obtain ⟨d, e, h1, h2, h3, h4⟩ := h
  exact ⟨d, e, pyM_ok r d1 h1, pyM_ok r d2 h2, pyM_plain h1, pyM_plain h2, h3, t _ _ _ _ _ _ .refl r .bl h4⟩
theorem eqv_str (a b : Str) : PyData.eqv (.str a) (.str b) = decide (a = b) := by
  show (a == b) = _
  by_cases h : a = b
  · subst h; rw [beq_self_eq_true]; exact (decide_eq_true rfl).symm
  · rw [beq_eq_false_iff_ne.mpr h]; exact (decide_eq_false h).symm
theorem eqv_int (a b : Int) : PyData.eqv (.int a) (.int b) = decide (a = b) := by
  show (a == b) = _
  by_cases h : a = b
  · subst h; rw [beq_self_eq_true]; exact (decide_eq_true rfl).symm
  · rw [beq_eq_false_iff_ne.mpr h]; exact (decide_eq_false h).symm
theorem eqv_bl (a b : Bool) : PyData.eqv (.bool a) (.bool b) = decide (a = b) := by cases a <;> cases b <;> rfl
theorem sEq_imp {x y : D} {M : Mem} {Q : SQ} (h : sEq x y M Q) : sEqG false x y M Q := by
  unfold sEq at h
  split at h
  · exact ⟨_, _, rfl, rfl, by show min 0 0 ≤ 60; omega, by rw [if_neg Bool.false_ne_true, eqv_int]; exact h⟩
  · exact ⟨_, _, rfl, rfl, by show min 0 0 ≤ 60; omega, by rw [if_neg Bool.false_ne_true, eqv_str]; exact h⟩
  · exact ⟨_, _, rfl, rfl, by show min 0 0 ≤ 60; omega, by rw [if_neg Bool.false_ne_true, eqv_bl]; exact h⟩
  · exact h
theorem sNe_imp {x y : D} {M : Mem} {Q : SQ} (h : sNe x y M Q) : sEqG true x y M Q := by
  unfold sNe at h
  split at h
  · exact ⟨_, _, rfl, rfl, by show min 0 0 ≤ 60; omega, by rw [if_pos rfl, eqv_int]; exact h⟩
  · exact ⟨_, _, rfl, rfl, by show min 0 0 ≤ 60; omega, by rw [if_pos rfl, eqv_str]; exact h⟩
  · exact ⟨_, _, rfl, rfl, by show min 0 0 ≤ 60; omega, by rw [if_pos rfl, eqv_bl]; exact h⟩
  · exact h
section
variable {X : Cx}
theorem jo_eq (hu : X.A.units + 64 < cLine) : JOp X (compareOp .Eq) sEq := JOp.imp (s := sEqG false) ⟨_, op_eqP hu, eqG_ok⟩ fun _ _ _ _ h => sEq_imp h
theorem jo_ne (hu : X.A.units + 64 < cLine) : JOp X (compareOp .NotEq) sNe := JOp.imp (s := sEqG true) ⟨_, op_neP hu, eqG_ok⟩ fun _ _ _ _ h => sNe_imp h
/-! ### numbers -/
theorem sim_I {K : PySem.W.Frag} {C : Int → Int → Prop} {g : Int → Int → V} {gd : Int → Int → D} (hg : ∀ i j B loc, Den K B loc (gd i j) (g i j)) :
    Sim2 K (rI C g) fun x y M Q => ∃ i j, x = .int i ∧ y = .int j ∧ C i j ∧ Q (gd i j) M := fun B loc M H x y v w Q Qd r d1 d2 h t => by
  obtain ⟨i, j, rfl, rfl, hc, q⟩ := h
  cases d1; cases d2
  exact ⟨i, j, rfl, rfl, hc, t _ _ _ _ _ _ .refl r (hg _ _ _ _) q⟩
theorem sim_I0 {K : PySem.W.Frag} {g : Int → Int → V} {gd : Int → Int → D} (hg : ∀ i j B loc, Den K B loc (gd i j) (g i j)) :
    Sim2 K (rI0 g) fun x y M Q => ∃ i j, x = .int i ∧ y = .int j ∧ Q (gd i j) M := fun B loc M H x y v w Q Qd r d1 d2 h t => by
  obtain ⟨i, j, rfl, rfl, q⟩ := h
  cases d1; cases d2
  exact ⟨i, j, rfl, rfl, t _ _ _ _ _ _ .refl r (hg _ _ _ _) q⟩
def s2I (g : Int → Int → D) : S2 := fun x y M Q => match x, y with
  | .int i, .int j => Q (g i j) M
  | _, _ => False
theorem s2I_imp {g : Int → Int → D} {x y : D} {M : Mem} {Q : SQ} (h : s2I g x y M Q) : ∃ i j, x = .int i ∧ y = .int j ∧ Q (g i j) M := by
  unfold s2I at h
  split at h
  · exact ⟨_, _, rfl, rfl, h⟩
  · exact h.elim
abbrev sSub : S2 := s2I fun i j => .int (i - j)
abbrev sLt : S2 := s2I fun i j => .bl (decide (i < j))
abbrev sLe : S2 := s2I fun i j => .bl (decide (i ≤ j))
abbrev sGt : S2 := s2I fun i j => .bl (decide (j < i))
abbrev sGe : S2 := s2I fun i j => .bl (decide (j ≤ i))
theorem jo_sub : JOp X (binaryOp .Sub) sSub := JOp.imp ⟨_, op_sub, sim_I0 (gd := fun i j => .int (i - j)) fun _ _ _ _ => .int⟩ fun _ _ _ _ h => s2I_imp h
theorem jo_lt : JOp X (compareOp .Lt) sLt := JOp.imp ⟨_, op_lt, sim_I0 (gd := fun i j => .bl (decide (i < j))) fun _ _ _ _ => .bl⟩ fun _ _ _ _ h => s2I_imp h
theorem jo_le : JOp X (compareOp .LtE) sLe := JOp.imp ⟨_, op_le, sim_I0 (gd := fun i j => .bl (decide (i ≤ j))) fun _ _ _ _ => .bl⟩ fun _ _ _ _ h => s2I_imp h
theorem jo_gt : JOp X (compareOp .Gt) sGt := JOp.imp ⟨_, op_gt, sim_I0 (gd := fun i j => .bl (decide (j < i))) fun _ _ _ _ => .bl⟩ fun _ _ _ _ h => s2I_imp h
theorem jo_ge : JOp X (compareOp .GtE) sGe := JOp.imp ⟨_, op_ge, sim_I0 (gd := fun i j => .bl (decide (j ≤ i))) fun _ _ _ _ => .bl⟩ fun _ _ _ _ h => s2I_imp h
/-- // and % by a positive number (// below 2 ^ 9000), ** of small ones -/
def sDiv : S2 := fun x y M Q => match x, y with
  | .int i, .int j => (0 < j ∧ j.natAbs.log2 < 9000) ∧ Q (.int (i / j)) M
  | _, _ => False
def sMod : S2 := fun x y M Q => match x, y with
  | .int i, .int j => 0 < j ∧ Q (.int (i % j)) M
  | _, _ => False
def sPow : S2 := fun x y M Q => match x, y with
  | .int i, .int j => (0 ≤ j ∧ j ≤ 1000000 ∧ i.natAbs < 2 ^ 64) ∧ Q (.int (i ^ j.toNat)) M
  | _, _ => False
theorem jo_div : JOp X (binaryOp .FloorDiv) sDiv := JOp.imp ⟨_, op_fdivW, sim_I (gd := fun i j => .int (i / j)) fun _ _ _ _ => .int⟩ fun x y M Q h => by
  unfold sDiv at h
  split at h
  · exact ⟨_, _, rfl, rfl, h.1, h.2⟩
  · exact h.elim
theorem jo_mod : JOp X (binaryOp .Mod) sMod := JOp.imp ⟨_, op_mod, sim_I (gd := fun i j => .int (i % j)) fun _ _ _ _ => .int⟩ fun x y M Q h => by
  unfold sMod at h
  split at h
  · exact ⟨_, _, rfl, rfl, h.1, h.2⟩
  · exact h.elim
theorem jo_pow : JOp X (binaryOp .Pow) sPow := JOp.imp ⟨_, op_pow, sim_I (gd := fun i j => .int (i ^ j.toNat)) fun _ _ _ _ => .int⟩ fun x y M Q h => by
  unfold sPow at h
  split at h
  · exact ⟨_, _, rfl, rfl, h.1, h.2⟩
  · exact h.elim
end
end J

namespace J
open PySem PySem.Spec PyProof.Rows L2
section
variable {X : Cx}
/-! ### text * int -/
def repS (x : Str) (n : Nat) : Str := ⟨(List.replicate n x.cps.toList).flatten.toArray⟩
theorem fold_rep (x : Array Nat) : ∀ (n : Nat) (acc : List Nat), (List.replicate n x).foldl (· ++ ·) acc.toArray = (acc ++ (List.replicate n x.toList).flatten).toArray
  | 0, acc => by simp
  | n + 1, acc => by
    rw [List.replicate_succ, List.foldl_cons]
    have e : acc.toArray ++ x = (acc ++ x.toList).toArray := by simp
    rw [e, fold_rep x n (acc ++ x.toList), List.replicate_succ, List.flatten_cons, List.append_assoc]
theorem op_repS : OpR X (binaryOp .Mult) (fun x y H Q => ∃ a k, x = .str a ∧ y = .int k ∧ 0 ≤ k ∧ a.length * k.toNat ≤ sizeLine ∧ k ≤ sizeLine ∧ Q (.str (repS a k.toNat)) H) := by
  intro pins s σ H x y v u Q I rx ry h
  obtain ⟨a, k, rfl, rfl, h0, hz, hk, q⟩ := h
  obtain ⟨t, rfl⟩ := rx
  obtain ⟨t', rfl⟩ := ry
  have sl : sizeLine = 16777216 := sizeLine_eq
  have b : a.length = a.cps.size := rfl
  refine PySem.P.mul_str ?_ ?_ ?_ ?_
  · rw [decide_eq_false (by omega), decide_eq_false (by omega)]; rfl
  · intro h1 h2 h3
    have h4 : (1 : Int) ≤ k := by omega
    have h5 : ((a.length : Nat) : Int) * k ≤ 16777216 := by
      have e : (k.toNat : Int) = k := Int.toNat_of_nonneg h0
      have : ((a.length * k.toNat : Nat) : Int) ≤ (sizeLine : Int) := Int.ofNat_le.mpr hz
      rw [Int.natCast_mul, e] at this
      omega
    have h6 : ((a.length : Nat) : Int) ≤ (2 ^ 63 - 1) / k := by
      refine Int.le_ediv_of_mul_le (by omega) ?_
      omega
    omega
  · intro h1 h2
    unfold Builtin.Str.tooLong
    rw [decide_eq_false]
    omega
  · have e1 : k < 1 → repS a k.toNat = Str.empty := fun h => by
      have : k.toNat = 0 := by omega
      rw [this]; rfl
    split
    · rename_i h1
      rw [e1 h1] at q
      exact ⟨by decide, .str Str.empty, H, I.tok _, ⟨_, rfl⟩, q⟩
    · rename_i h1
      have e2 : (⟨(List.replicate k.toNat a.cps).foldl (· ++ ·) #[]⟩ : Str) = repS a k.toNat := by
        unfold repS
        have := fold_rep a.cps k.toNat []
        rw [List.nil_append] at this
        rw [← this]
      split
      · rename_i h2
        have e3 : repS a k.toNat = a := by
          rw [Bool.or_eq_true] at h2
          rcases h2 with h2 | h2
          · have : k.toNat = 1 := by have := eq_of_beq h2; omega
            rw [this]
            unfold repS
            simp
          · have h3 : a.cps.size = 0 := eq_of_beq h2
            have h4 : a.cps.toList = [] := List.eq_nil_of_length_eq_zero (by rw [Array.length_toList]; exact h3)
            unfold repS
            rw [h4]
            obtain ⟨cps⟩ := a
            have h5 : cps = #[] := Array.eq_empty_of_size_eq_zero h3
            subst h5
            have : (List.replicate k.toNat ([] : List Nat)).flatten = [] := by
              generalize k.toNat = m
              induction m with
              | zero => rfl
              | succ m ih => rw [List.replicate_succ, List.flatten_cons, ih]; rfl
            rw [this]
        rw [e3] at q
        exact ⟨.str a, H, I, ⟨t, rfl⟩, q⟩
      · rw [e2]
        refine ⟨?_, .str _, H, I.tok _, ⟨_, rfl⟩, q⟩
        show ((List.replicate k.toNat a.cps.toList).flatten.toArray).size ≤ sizeLine
        rw [List.size_toArray, PyProof.Rows.lm_len_rep_flat, Array.length_toList, Nat.mul_comm]
        exact hz
end
end J

namespace J
open PySem PySem.Spec PyProof.Rows L2
/-! ### + and * -/
def sAdd : S2 := fun x y M Q => match x, y with
  | .int i, .int j => Q (.int (i + j)) M
  | .str a, .str b => a.length + b.length ≤ sizeLine ∧ Q (.str (a ++ b)) M
  | .tup xs, .tup ys => xs ≠ [] ∧ xs.length + ys.length ≤ sizeLine ∧ Q (.tup (xs ++ ys)) M
  | x, y => ∃ xs ys, asR M x = some xs ∧ asR M y = some ys ∧ xs.length + ys.length ≤ sizeLine ∧ Q (.lst (xs ++ ys)) M
def sMul : S2 := fun x y M Q => match x, y with
  | .int i, .int j => (CMul i j ∨ CMulW i j) ∧ Q (.int (i * j)) M
  | .str a, .int k => 0 ≤ k ∧ a.length * k.toNat ≤ sizeLine ∧ k ≤ sizeLine ∧ Q (.str (repS a k.toNat)) M
  | x, .int k => ∃ xs, asR M x = some xs ∧ -(2 ^ 63) ≤ k ∧ k < 2 ^ 63 ∧ xs.length * k.toNat ≤ sizeLine ∧ Q (.lst (List.replicate k.toNat xs).flatten) M
  | _, _ => False
theorem DenL.rep {K : PySem.W.Frag} {B : Hp} {loc : List Addr} {xs : List D} {vs : List V} (h : DenL K B loc xs vs) : ∀ k : Nat, DenL K B loc (List.replicate k xs).flatten (List.replicate k vs).flatten
  | 0 => .nil
  | k + 1 => by rw [List.replicate_succ, List.replicate_succ, List.flatten_cons, List.flatten_cons]; exact h.append (DenL.rep h k)
section
variable {X : Cx}
theorem jo_add : JOp X (binaryOp .Add) sAdd := by
  have h1 : JOp X (binaryOp .Add) (fun x y M Q => ∃ i j, x = .int i ∧ y = .int j ∧ Q (.int (i + j)) M) := ⟨_, op_add, sim_I0 (gd := fun i j => .int (i + j)) fun _ _ _ _ => .int⟩
  have h2 : JOp X (binaryOp .Add) (fun x y M Q => ∃ i j, x = .str i ∧ y = .str j ∧ i.length + j.length ≤ sizeLine ∧ Q (.str (i ++ j)) M) := ⟨_, op_add_str, fun B loc M H x y v w Q Qd r d1 d2 h t => by
    obtain ⟨i, j, rfl, rfl, hz, q⟩ := h
    cases d1; cases d2
    exact ⟨i, j, rfl, rfl, hz, t _ _ _ _ _ _ .refl r .str q⟩⟩
  have h3 : JOp X (binaryOp .Add) (fun x y M Q => ∃ xs ys, x = .tup xs ∧ y = .tup ys ∧ xs ≠ [] ∧ xs.length + ys.length ≤ sizeLine ∧ Q (.tup (xs ++ ys)) M) := ⟨_, op_catT, fun B loc M H x y v w Q Qd r d1 d2 h t => by
    obtain ⟨xs, ys, rfl, rfl, hn, hz, q⟩ := h
    cases d1 with
    | tup s1 l1 =>
      cases d2 with
      | tup s2 l2 =>
        have e1 := l1.length
        have e2 := l2.length
        refine ⟨_, _, _, _, rfl, rfl, same_t r.ext s1, same_t r.ext s2, fun z => ?_, by rw [← e1, ← e2]; exact hz, fun z => ?_, fun z p hp => ?_⟩
        · cases xs with
          | nil => exact hn rfl
          | cons _ _ => rw [z] at e1; cases e1
        · have : ys = [] := by
            cases ys with
            | nil => rfl
            | cons _ _ => rw [z] at e2; cases e2
          subst this
          rw [List.append_nil] at q
          exact t _ _ _ _ _ _ .refl r (.tup s1 l1) q
        · obtain ⟨r1, g1⟩ := r.new (o := .tup (_ ++ _)) hp
          exact t _ _ _ _ _ _ g1 r1 (.tup (SqT.of upd_same) ((l1.append l2).go g1)) q⟩
  have h4 : JOp X (binaryOp .Add) (fun x y M Q => ∃ xs ys, asR M x = some xs ∧ asR M y = some ys ∧ xs.length + ys.length ≤ sizeLine ∧ Q (.lst (xs ++ ys)) M) := ⟨_, op_cat, fun B loc M H x y v w Q Qd r d1 d2 h t => by
    obtain ⟨xs, ys, hx, hy, hz, q⟩ := h
    obtain ⟨a, vs, rfl, s1, l1⟩ := asR_ok r d1 hx
    obtain ⟨b, ws, rfl, s2, l2⟩ := asR_ok r d2 hy
    refine ⟨a, b, vs, ws, rfl, rfl, s1, s2, by rw [← l1.length, ← l2.length]; exact hz, fun p hp => ?_⟩
    obtain ⟨r1, g1⟩ := r.new (o := .lst (_ ++ _)) hp
    exact t _ _ _ _ _ _ g1 r1 (.lst upd_same ((l1.append l2).go g1)) q⟩
  refine (((h1.or h2).or h3).or h4).imp fun x y M Q h => ?_
  unfold sAdd at h
  split at h
  · exact .inl (.inl (.inl ⟨_, _, rfl, rfl, h⟩))
  · exact .inl (.inl (.inr ⟨_, _, rfl, rfl, h⟩))
  · exact .inl (.inr ⟨_, _, rfl, rfl, h⟩)
  · exact .inr h
theorem op_mulC : OpR X (binaryOp .Mult) (rI (fun i j => CMul i j ∨ CMulW i j) fun i j => .int (i * j)) := opI fun _ _ _ _ _ _ _ hc q => mul_int q (hc.elim CMul.ok CMulW.ok)
theorem jo_mul : JOp X (binaryOp .Mult) sMul := by
  have h1 : JOp X (binaryOp .Mult) (fun x y M Q => ∃ i j, x = .int i ∧ y = .int j ∧ (CMul i j ∨ CMulW i j) ∧ Q (.int (i * j)) M) := ⟨_, op_mulC, sim_I (gd := fun i j => .int (i * j)) fun _ _ _ _ => .int⟩
  have h2 : JOp X (binaryOp .Mult) (fun x y M Q => ∃ a k, x = .str a ∧ y = .int k ∧ 0 ≤ k ∧ a.length * k.toNat ≤ sizeLine ∧ k ≤ sizeLine ∧ Q (.str (repS a k.toNat)) M) := ⟨_, op_repS, fun B loc M H x y v w Q Qd r d1 d2 h t => by
    obtain ⟨a, k, rfl, rfl, c1, c2, c3, q⟩ := h
    cases d1; cases d2
    exact ⟨a, k, rfl, rfl, c1, c2, c3, t _ _ _ _ _ _ .refl r .str q⟩⟩
  have h3 : JOp X (binaryOp .Mult) (fun x y M Q => ∃ xs k, asR M x = some xs ∧ y = .int k ∧ -(2 ^ 63) ≤ k ∧ k < 2 ^ 63 ∧ xs.length * k.toNat ≤ sizeLine ∧ Q (.lst (List.replicate k.toNat xs).flatten) M) := ⟨_, op_rep, fun B loc M H x y v w Q Qd r d1 d2 h t => by
    obtain ⟨xs, k, hx, rfl, c1, c2, c3, q⟩ := h
    obtain ⟨a, vs, rfl, s1, l1⟩ := asR_ok r d1 hx
    cases d2
    refine ⟨a, k, vs, rfl, rfl, s1, c1, c2, by rw [← l1.length]; exact c3, fun p hp => ?_⟩
    obtain ⟨r1, g1⟩ := r.new (o := .lst (List.replicate k.toNat vs).flatten) hp
    exact t _ _ _ _ _ _ g1 r1 (.lst upd_same ((l1.rep _).go g1)) q⟩
  refine ((h1.or h2).or h3).imp fun x y M Q h => ?_
  unfold sMul at h
  split at h
  · exact .inl (.inl ⟨_, _, rfl, rfl, h⟩)
  · exact .inl (.inr ⟨_, _, rfl, rfl, h⟩)
  · obtain ⟨xs, h⟩ := h
    exact .inr ⟨xs, _, h.1, rfl, h.2⟩
  · exact h.elim
/-- truth - truth: a number -/
def sSubB : S2 := fun x y M Q => match x, y with
  | .bl a, .bl b => Q (.int (b2i a - b2i b)) M
  | _, _ => False
theorem op_subB : OpR X (binaryOp .Sub) (fun x y H Q => ∃ a b, x = .bl a ∧ y = .bl b ∧ Q (.int (b2i a - b2i b)) H) := by
  intro pins s σ H x y v u Q I rx ry h
  obtain ⟨a, b, rfl, rfl, q⟩ := h
  cases rx; cases ry
  exact PyProof.Rows.sub_bool ⟨.int _, H, I.tok _, ⟨_, rfl⟩, q⟩
theorem jo_subB : JOp X (binaryOp .Sub) sSubB := JOp.imp (s := fun x y M Q => ∃ a b, x = .bl a ∧ y = .bl b ∧ Q (.int (b2i a - b2i b)) M) ⟨_, op_subB, fun B loc M H x y v w Q Qd r d1 d2 h t => by
    obtain ⟨a, b, rfl, rfl, q⟩ := h
    cases d1; cases d2
    exact ⟨a, b, rfl, rfl, t _ _ _ _ _ _ .refl r .int q⟩⟩ fun x y M Q h => by
  unfold sSubB at h
  split at h
  · exact ⟨_, _, rfl, rfl, h⟩
  · exact h.elim
/-! ### in, not in; is None -/
/-- one sign in a text -/
def sInS (neg : Bool) : S2 := fun x y M Q => match x, y with
  | .str a, .str z => ∃ c, a = ⟨#[c]⟩ ∧ Q (.bl (if neg then !decide (c ∈ z.cps.toList) else decide (c ∈ z.cps.toList))) M
  | _, _ => False
/-- data in a list or tuple -/
def sInL (neg : Bool) : S2 := fun x y M Q => ∃ d xs ds, pyM M x = some d ∧ (asL M y = some xs ∨ asT y = some xs) ∧ pyL xs = some ds ∧ d.depth ≤ 60 ∧ Q (.bl (if neg then !ds.any fun y => PyData.eqv y d else ds.any fun y => PyData.eqv y d)) M
def rInP (K : PySem.W.Frag) (neg : Bool) : R2 := fun x y H Q => ∃ d a vs ds, Dp K H x d ∧ y = .ref a ∧ (SqL K H a vs ∨ SqT K H a vs) ∧ DpAll K H vs ds ∧ PyData.plainAll ds = true ∧ d.plain = true ∧ d.depth ≤ 60 ∧
  Q (.bl (if neg then !ds.any fun y => PyData.eqv y d else ds.any fun y => PyData.eqv y d)) H
theorem op_inP (hu : X.A.units + 64 < cLine) : OpR X (compareOp .In) (rInP X.K false) := by
  intro pins s σ H x y v u Q I rx ry h
  obtain ⟨d, a, vs, ds, hd, rfl, hs, ha, p1, p2, dp, q⟩ := h
  obtain ⟨as, r1⟩ := Dp.reads I d x v hd rx
  cases ry
  rcases hs with hs | hs
  · obtain ⟨bs, r2⟩ := Dp.reads I (.list ds) (.ref a) (.ref a) (.lst hs ha) rfl
    exact PySem.SeqAt.in_list_data r2 r1 p1 p2 (by omega) ⟨.bl _, H, I, rfl, q⟩
  · obtain ⟨bs, r2⟩ := Dp.reads I (.tuple ds) (.ref a) (.ref a) (.tup hs ha) rfl
    exact PySem.SeqAt.in_tuple_data r2 r1 p1 p2 (by omega) ⟨.bl _, H, I, rfl, q⟩
theorem op_notInP (hu : X.A.units + 64 < cLine) : OpR X (compareOp .NotIn) (rInP X.K true) := by
  intro pins s σ H x y v u Q I rx ry h
  obtain ⟨d, a, vs, ds, hd, rfl, hs, ha, p1, p2, dp, q⟩ := h
  obtain ⟨as, r1⟩ := Dp.reads I d x v hd rx
  cases ry
  rcases hs with hs | hs
  · obtain ⟨bs, r2⟩ := Dp.reads I (.list ds) (.ref a) (.ref a) (.lst hs ha) rfl
    exact PySem.SeqAt.notIn_list_data r2 r1 p1 p2 (by omega) ⟨.bl _, H, I, rfl, q⟩
  · obtain ⟨bs, r2⟩ := Dp.reads I (.tuple ds) (.ref a) (.ref a) (.tup hs ha) rfl
    exact PySem.SeqAt.notIn_tuple_data r2 r1 p1 p2 (by omega) ⟨.bl _, H, I, rfl, q⟩
theorem inP_ok {K : PySem.W.Frag} {neg : Bool} : Sim2 K (rInP K neg) (sInL neg) := fun B loc M H x y v w Q Qd r d1 d2 h t => by
  obtain ⟨d, xs, ds, h1, h2, h3, h4, q⟩ := h
  have fin : ∀ {a vs}, w = .ref a → (SqL K H a vs ∨ SqT K H a vs) → DenL K B loc xs vs → rInP K neg v w H Q := fun {a vs} e s l =>
    ⟨d, a, vs, ds, pyM_ok r d1 h1, e, s, pyL_ok r.ext l h3, pyL_plain h3, pyM_plain h1, h4, t _ _ _ _ _ _ .refl r .bl q⟩
  rcases h2 with h2 | h2
  · obtain ⟨a, vs, e, s, l⟩ := asL_ok r d2 h2
    exact fin e (.inl s) l
  · obtain ⟨a, vs, e, s, l⟩ := asT_ok r d2 h2
    exact fin e (.inr s) l
theorem jo_inL (hu : X.A.units + 64 < cLine) : JOp X (compareOp .In) (sInL false) := ⟨_, op_inP hu, inP_ok⟩
theorem jo_notInL (hu : X.A.units + 64 < cLine) : JOp X (compareOp .NotIn) (sInL true) := ⟨_, op_notInP hu, inP_ok⟩
theorem jo_inS : JOp X (compareOp .In) (sInS false) := JOp.imp (s := fun x y M Q => ∃ c z, x = .str ⟨#[c]⟩ ∧ y = .str z ∧ Q (.bl (decide (c ∈ z.cps.toList))) M) ⟨_, op_in_sign, fun B loc M H x y v w Q Qd r d1 d2 h t => by
    obtain ⟨c, z, rfl, rfl, q⟩ := h
    cases d1; cases d2
    exact ⟨c, z, rfl, rfl, t _ _ _ _ _ _ .refl r .bl q⟩⟩ fun x y M Q h => by
  unfold sInS at h
  split at h
  · obtain ⟨c, rfl, q⟩ := h
    exact ⟨c, _, rfl, rfl, q⟩
  · exact h.elim
theorem jo_notInS : JOp X (compareOp .NotIn) (sInS true) := JOp.imp (s := fun x y M Q => ∃ c z, x = .str ⟨#[c]⟩ ∧ y = .str z ∧ Q (.bl (!decide (c ∈ z.cps.toList))) M) ⟨_, op_notIn_sign, fun B loc M H x y v w Q Qd r d1 d2 h t => by
    obtain ⟨c, z, rfl, rfl, q⟩ := h
    cases d1; cases d2
    exact ⟨c, z, rfl, rfl, t _ _ _ _ _ _ .refl r .bl q⟩⟩ fun x y M Q h => by
  unfold sInS at h
  split at h
  · obtain ⟨c, rfl, q⟩ := h
    exact ⟨c, _, rfl, rfl, q⟩
  · exact h.elim
def isNonD : D → Bool
  | .non => true
  | _ => false
def sIsN (neg : Bool) : S2 := fun x y M Q => match y with
  | .non => Q (.bl (if neg then !isNonD x else isNonD x)) M
  | _ => False
theorem isNon_den {K : PySem.W.Frag} {B : Hp} {loc : List Addr} {d : D} {v : V} (h : Den K B loc d v) : decide (v = .non) = isNonD d := by
  cases h <;> rfl
theorem jo_isN : JOp X (compareOp .Is) (sIsN false) := ⟨_, op_isN, fun B loc M H x y v w Q Qd r d1 d2 h t => by
  unfold sIsN at h
  split at h
  · cases d2
    exact ⟨rfl, by rw [isNon_den d1]; exact t _ _ _ _ _ _ .refl r .bl h⟩
  · exact h.elim⟩
theorem jo_isNotN : JOp X (compareOp .IsNot) (sIsN true) := ⟨_, op_notN, fun B loc M H x y v w Q Qd r d1 d2 h t => by
  unfold sIsN at h
  split at h
  · cases d2
    exact ⟨rfl, by rw [isNon_den d1]; exact t _ _ _ _ _ _ .refl r .bl h⟩
  · exact h.elim⟩
/-! ### an item, a slice -/
/-- an item of a list, a tuple, a text -/
def sIx : S2 := fun x y M Q => match x, y with
  | .str z, .int i => z.length ≤ sizeLine ∧ ∃ c, atI z.cps.toList i = some c ∧ Q (.str ⟨#[c]⟩) M
  | .tup xs, .int i => ∃ d, atI xs i = some d ∧ Q d M
  | x, .int i => ∃ xs d, asL M x = some xs ∧ atI xs i = some d ∧ Q d M
  | _, _ => False
theorem DenL.atI {K : PySem.W.Frag} {B : Hp} {loc : List Addr} {xs : List D} {vs : List V} {i : Int} {d : D} (h : DenL K B loc xs vs) (e : atI xs i = some d) : ∃ v, L2.atI vs i = some v ∧ Den K B loc d v := by
  unfold L2.atI at e ⊢
  rw [← h.length]
  cases q : ixN xs.length i with
  | none => rw [q] at e; cases e
  | some j =>
    rw [q] at e
    exact h.get e
def JIx (X : Cx) (s : S2) : Prop := ∃ r, IxR X r ∧ Sim2 X.K r s
theorem ji_seq : JIx X sIx := ⟨_, ix_seq, fun B loc M H x y v w Q Qd r d1 d2 h t => by
  unfold sIx at h
  split at h
  · obtain ⟨hz, c, h1, q⟩ := h
    cases d1; cases d2
    exact .inr (.inr ⟨_, _, c, rfl, rfl, hz, h1, t _ _ _ _ _ _ .refl r .str q⟩)
  · obtain ⟨d, h1, q⟩ := h
    cases d2
    cases d1 with
    | tup s1 l1 =>
      obtain ⟨v, h2, h3⟩ := l1.atI h1
      exact .inr (.inl ⟨_, _, _, v, rfl, rfl, same_t r.ext s1, h2, t _ _ _ _ _ _ .refl r h3 q⟩)
  · obtain ⟨xs, d, hx, h1, q⟩ := h
    cases d2
    obtain ⟨a, vs, rfl, s1, l1⟩ := asL_ok r d1 hx
    obtain ⟨v, h2, h3⟩ := l1.atI h1
    exact .inl ⟨_, _, _, v, rfl, rfl, s1, h2, t _ _ _ _ _ _ .refl r h3 q⟩
  · exact h.elim⟩
variable {c : JC} {a b e : Expr} {pos p : Pos} {sa sb se : SE}
theorem je_ix {s : S2} (hr : JIx X s) (ha : JE c X a sa) (hb : JE c X b sb) (hs : PlainIx b := by exact fun _ _ => rfl) : JE c X (.Subscript a b pos) (sOp s sa sb) := by
  obtain ⟨ta, pa, za⟩ := ha
  obtain ⟨tb, pb, zb⟩ := hb
  obtain ⟨r, o, z⟩ := hr
  exact ⟨_, pe_ix o pa pb hs, fun B loc M H σ ρ Q Qd A hs t => two za zb z A hs t⟩
abbrev SO := Rho → Mem → (Option Int → Mem → Prop) → Prop
def JO (c : JC) (X : Cx) (e : Option Expr) (so : SO) : Prop :=
  ∃ to, PO X e to ∧ ∀ B loc M H σ ρ (Q : Option Int → Hp → Prop) (Qd : Option Int → Mem → Prop), At c X.K B loc M H σ ρ → so ρ M Qd →
    (∀ o M' B' loc' H', Go B loc H B' loc' H' → Rel X.K B' loc' M' H' → Qd o M' → Q o H') → to σ H Q
def sNoPart : SO := fun _ M Q => Q none M
def sPart (se : SE) : SO := fun ρ M Q => se ρ M fun d M1 => match d with
  | .int i => Q (some i) M1
  | _ => False
theorem jo_none : JO c X none sNoPart := ⟨_, po_none, fun B loc M H σ ρ Q Qd A hs t => t _ _ _ _ _ .refl A.rel hs⟩
theorem jo_some (h : JE c X e se) : JO c X (some e) (sPart se) := by
  obtain ⟨t, p, z⟩ := h
  refine ⟨_, po_some p, fun B loc M H σ ρ Q Qd A hs t => z B loc M H σ ρ _ _ A hs fun d M' v B' l' H' g r e h => ?_⟩
  cases e with
  | int => exact ⟨_, rfl, t _ _ _ _ _ g r h⟩
  | _ => exact h.elim
def cutD (xs : List D) (lo hi : Option Int) : List D := (xs.drop (HT.sIx xs.length 0 lo)).take (HT.sIx xs.length xs.length hi - HT.sIx xs.length 0 lo)
theorem cut_den {K : PySem.W.Frag} {B : Hp} {loc : List Addr} {xs : List D} {vs : List V} (h : DenL K B loc xs vs) (lo hi : Option Int) : DenL K B loc (cutD xs lo hi) (cutV vs lo hi) := by
  unfold cutD cutV
  rw [← h.length]
  exact (h.drop _).take _
theorem not_whole {a b n : Nat} (h : (Nat.beq a 0 && Nat.beq b n) = false) : ¬ (a = 0 ∧ b = n) := fun z => by
  rw [z.1, z.2, Nat.beq_refl, Nat.beq_refl] at h
  cases h
/-- a slice without a step: of a text, of a tuple (not the whole of it), of a list: a new one -/
def sSl (sa : SE) (l h : SO) : SE := fun ρ M Q => sa ρ M fun x M1 => l ρ M1 fun lo M2 => h ρ M2 fun hi M3 => match x with
  | .str z => z.length ≤ sizeLine ∧ Q (.str (cutS z lo hi)) M3
  | .tup xs => (Nat.beq (HT.sIx xs.length 0 lo) 0 && Nat.beq (HT.sIx xs.length xs.length hi) xs.length) = false ∧ Q (.tup (cutD xs lo hi)) M3
  | x => ∃ xs, asL M3 x = some xs ∧ Q (.lst (cutD xs lo hi)) M3
theorem je_slice {lo hi : Option Expr} {l h : SO} {p2 : Pos} (ha : JE c X a sa) (hl : JO c X lo l) (hh : JO c X hi h) : JE c X (.Subscript a (.Slice lo hi none p2) pos) (sSl sa l h) := by
  obtain ⟨ta, pa, za⟩ := ha
  obtain ⟨tl, pl, zl⟩ := hl
  obtain ⟨th, ph, zh⟩ := hh
  refine ⟨_, pe_slice ((sl_str.or sl_tup).or sl_list) pa pl ph, fun B loc M H σ ρ Q Qd A hs t => za B loc M H σ ρ _ _ A hs fun d1 M1 v1 B1 l1 H1 g1 r1 e1 h1 =>
    zl B1 l1 M1 H1 σ ρ _ _ (A.on g1 r1) h1 fun o1 M2 B2 l2 H2 g2 r2 h2 => zh B2 l2 M2 H2 σ ρ _ _ (A.on (g1.trans g2) r2) h2 fun o2 M3 B3 l3 H3 g3 r3 h3 => ?_⟩
  have e3 := e1.go (g2.trans g3)
  have g := (g1.trans g2).trans g3
  split at h3
  · cases e3
    exact .inl (.inl ⟨_, rfl, h3.1, t _ _ _ _ _ _ g r3 .str h3.2⟩)
  · cases e3 with
    | tup s1 l1 =>
      refine .inl (.inr ⟨_, _, rfl, same_t r3.ext s1, by rw [← l1.length]; exact not_whole h3.1, fun p hp => ?_⟩)
      obtain ⟨r4, g4⟩ := r3.new (o := .tup _) hp
      exact t _ _ _ _ _ _ (g.trans g4) r4 (.tup (SqT.of upd_same) ((cut_den l1 _ _).go g4)) h3.2
  · obtain ⟨xs, hx, q⟩ := h3
    obtain ⟨a, vs, rfl, s1, l1⟩ := asL_ok r3 e3 hx
    refine .inr ⟨_, _, rfl, s1, fun p hp => ?_⟩
    obtain ⟨r4, g4⟩ := r3.new (o := .lst _) hp
    exact t _ _ _ _ _ _ (g.trans g4) r4 (.lst upd_same ((cut_den l1 _ _).go g4)) q
/-- .. that will be changed -/
def sSlM (sa : SE) (l h : SO) : SE := fun ρ M Q => sa ρ M fun x M1 => l ρ M1 fun lo M2 => h ρ M2 fun hi M3 => ∃ xs, asL M3 x = some xs ∧ Q (.ref M3.length) (M3 ++ [.lst (cutD xs lo hi)])
theorem je_sliceM {lo hi : Option Expr} {l h : SO} {p2 : Pos} (ha : JE c X a sa) (hl : JO c X lo l) (hh : JO c X hi h) : JE c X (.Subscript a (.Slice lo hi none p2) pos) (sSlM sa l h) := by
  obtain ⟨ta, pa, za⟩ := ha
  obtain ⟨tl, pl, zl⟩ := hl
  obtain ⟨th, ph, zh⟩ := hh
  refine ⟨_, pe_slice sl_list pa pl ph, fun B loc M H σ ρ Q Qd A hs t => za B loc M H σ ρ _ _ A hs fun d1 M1 v1 B1 l1 H1 g1 r1 e1 h1 =>
    zl B1 l1 M1 H1 σ ρ _ _ (A.on g1 r1) h1 fun o1 M2 B2 l2 H2 g2 r2 h2 => zh B2 l2 M2 H2 σ ρ _ _ (A.on (g1.trans g2) r2) h2 fun o2 M3 B3 l3 H3 g3 r3 h3 => ?_⟩
  obtain ⟨xs, hx, q⟩ := h3
  obtain ⟨a, vs, rfl, s1, l1⟩ := asL_ok r3 (e1.go (g2.trans g3)) hx
  refine ⟨_, _, rfl, s1, fun p hp => ?_⟩
  obtain ⟨r4, g4, d4⟩ := newM r3 hp (cut_den l1 o1 o2)
  exact t _ _ _ _ _ _ (((g1.trans g2).trans g3).trans g4) r4 d4 q
end
end J

namespace J
open PySem PySem.Spec PyProof.Rows L2
theorem Rel.extra {K : PySem.W.Frag} {B : Hp} {loc : List Addr} {M : Mem} {H : Hp} {p : Addr} {o : HO} (r : Rel K B loc M H) (h : H p = none) : Rel K B loc M (upd H p o) ∧ Go B loc H B loc (upd H p o) := by
  have sH : Same H (upd H p o) := same_new h
  refine ⟨⟨same_trans r.ext sH, r.len, fun i a m e1 e2 l => ?_, r.inj, fun a q => let ⟨o, e⟩ := r.all a q; ⟨o, sH a o e⟩, r.nt, r.tb_new h⟩, ⟨fun _ _ e => e, List.prefix_rfl, fun a u e _ => sH a u e, fun a q => .inl q, fun _ _ e => .inl e⟩⟩
  obtain ⟨h1, h2⟩ := r.obj i a m e1 e2 l
  exact ⟨h1, h2.mono (fun _ _ e => e) List.prefix_rfl fun o e => sH a o e⟩
/-! ### calls of built-ins -/
section
variable {c : JC} {X : Cx} {a b e o : Expr} {es : List Expr} {pos p apos : Pos} {sa sb se so : SE} {sr : SA} {x : Str} {bid T : String}
def sCB (s : SN) (sr : SA) : SE := fun ρ M Q => sr ρ M fun ds M1 => s ds M1 Q
theorem je_callB {s : SN} (hc : JCall X (.builtin bid) s) (hg : Gl X x) (hm : X.mg x = none) (hv : bootBuiltins x = some (.builtin bid)) (ha : JA c X (e :: es) sr) (hn : x ≠ "__name__" := by decide) (hdb : (x == ("__debug__" : Str)) = false := by decide)
    (he : starEach (e :: es) X.env = (false, eval e X.env) :: starEach es X.env := by rfl) (hpl : (backTo pos (starEach es X.env)).any (·.1) = false := by rfl) : JE c X (.Call (.Name x p) (e :: es) [] pos) (sCB s sr) := by
  obtain ⟨r, cr, z⟩ := hc
  obtain ⟨t, pa, za⟩ := ha
  exact ⟨_, pe_callB cr hg hm hv pa hn hdb he hpl, fun B loc M H σ ρ Q Qd A hs t => za B loc M H σ ρ _ _ A hs fun ds M' vs B' l' H' g r e h =>
    z B' l' M' H' ds vs Q Qd r e h fun d M2 v B2 l2 H2 g2 r2 e2 h2 => t _ _ _ _ _ _ (g.trans g2) r2 e2 h2⟩
theorem je_callTy {s : SN} (hc : JCall X (.type T) s) (hg : Gl X x) (hm : X.mg x = none) (hv : bootBuiltins x = some (.type T)) (ha : JA c X (e :: es) sr) (hn : x ≠ "__name__" := by decide) (hdb : (x == ("__debug__" : Str)) = false := by decide)
    (he : starEach (e :: es) X.env = (false, eval e X.env) :: starEach es X.env := by rfl) (hpl : (backTo pos (starEach es X.env)).any (·.1) = false := by rfl) : JE c X (.Call (.Name x p) (e :: es) [] pos) (sCB s sr) := by
  obtain ⟨r, cr, z⟩ := hc
  obtain ⟨t, pa, za⟩ := ha
  exact ⟨_, pe_callTy cr hg hm hv pa hn hdb he hpl, fun B loc M H σ ρ Q Qd A hs t => za B loc M H σ ρ _ _ A hs fun ds M' vs B' l' H' g r e h =>
    z B' l' M' H' ds vs Q Qd r e h fun d M2 v B2 l2 H2 g2 r2 e2 h2 => t _ _ _ _ _ _ (g.trans g2) r2 e2 h2⟩
def sLen : SN := fun xs M Q => match xs with
  | [.str z] => z.length ≤ sizeLine ∧ Q (.int z.length) M
  | [.tup ds] => Q (.int ds.length) M
  | [x] => ∃ ds, asL M x = some ds ∧ Q (.int ds.length) M
  | _ => False
theorem jc_len : JCall X (.builtin "len") sLen := ⟨_, call_len, fun B loc M H xs vs Q Qd r d h t => by
  unfold sLen at h
  split at h
  · cases d with
    | cons d1 d2 =>
      cases d2; cases d1
      exact ⟨_, _, rfl, ⟨h.1, rfl⟩, t _ _ _ _ _ _ .refl r .int h.2⟩
  · cases d with
    | cons d1 d2 =>
      cases d2
      cases d1 with
      | tup s1 l1 => exact ⟨_, _, rfl, .inr ⟨_, same_t r.ext s1, rfl⟩, t _ _ _ _ _ _ .refl r .int (by rw [← l1.length]; exact h)⟩
  · obtain ⟨ds, hx, q⟩ := h
    cases d with
    | cons d1 d2 =>
      cases d2
      obtain ⟨a, vs, rfl, s1, l1⟩ := asL_ok r d1 hx
      exact ⟨_, _, rfl, .inl ⟨_, s1, rfl⟩, t _ _ _ _ _ _ .refl r .int (by rw [← l1.length]; exact q)⟩
  · exact h.elim⟩
def sMax2 : SN := fun xs M Q => match xs with
  | [.int i, .int j] => Q (.int (max i j)) M
  | _ => False
def sMin2 : SN := fun xs M Q => match xs with
  | [.int i, .int j] => Q (.int (min i j)) M
  | _ => False
theorem jc_max2 (hc : X.calm = true) : JCall X (.builtin "max") sMax2 := ⟨_, call_max2 hc, fun B loc M H xs vs Q Qd r d h t => by
  unfold sMax2 at h
  split at h
  · rename_i i j
    cases d with
    | cons d1 d2 =>
      cases d2 with
      | cons d2 d3 =>
        cases d3; cases d1; cases d2
        have e : (if j > i then j else i) = max i j := by omega
        exact ⟨i, j, rfl, by rw [e]; exact t _ _ _ _ _ _ .refl r .int h⟩
  · exact h.elim⟩
theorem jc_min2 (hc : X.calm = true) : JCall X (.builtin "min") sMin2 := ⟨_, call_min2 hc, fun B loc M H xs vs Q Qd r d h t => by
  unfold sMin2 at h
  split at h
  · rename_i i j
    cases d with
    | cons d1 d2 =>
      cases d2 with
      | cons d2 d3 =>
        cases d3; cases d1; cases d2
        have e : (if j < i then j else i) = min i j := by omega
        exact ⟨i, j, rfl, by rw [e]; exact t _ _ _ _ _ _ .refl r .int h⟩
  · exact h.elim⟩
def sAbs : SN := fun xs M Q => match xs with
  | [.int i] => Q (.int (if i < 0 then -i else i)) M
  | _ => False
theorem jc_abs : JCall X (.builtin "abs") sAbs := ⟨_, call_abs, fun B loc M H xs vs Q Qd r d h t => by
  unfold sAbs at h
  split at h
  · cases d with
    | cons d1 d2 =>
      cases d2; cases d1
      exact ⟨_, rfl, t _ _ _ _ _ _ .refl r .int h⟩
  · exact h.elim⟩
/-- int(..) of a number, a truth -/
def sInt : SN := fun xs M Q => match xs with
  | [.int i] => Q (.int i) M
  | [.bl k] => Q (.int (b2i k)) M
  | _ => False
theorem jc_int : JCall X (.type "int") sInt := ⟨_, call_int1, fun B loc M H xs vs Q Qd r d h t => by
  unfold sInt at h
  split at h
  · cases d with
    | cons d1 d2 =>
      cases d2; cases d1
      exact .inl ⟨_, rfl, t _ _ _ _ _ _ .refl r .int h⟩
  · cases d with
    | cons d1 d2 =>
      cases d2; cases d1
      exact .inr ⟨_, rfl, t _ _ _ _ _ _ .refl r .int h⟩
  · exact h.elim⟩
def sAll : SN := fun xs M Q => match xs with
  | [x] => ∃ bs : List Bool, asL M x = some (bs.map D.bl) ∧ Q (.bl (bs.all id)) M
  | _ => False
def sAny : SN := fun xs M Q => match xs with
  | [x] => ∃ bs : List Bool, asL M x = some (bs.map D.bl) ∧ Q (.bl (bs.any id)) M
  | _ => False
theorem jc_all (hc : X.calm = true) : JCall X (.builtin "all") sAll := ⟨_, cr_all hc, fun B loc M H xs vs Q Qd r d h t => by
  unfold sAll at h
  split at h
  · obtain ⟨bs, hx, q⟩ := h
    cases d with
    | cons d1 d2 =>
      cases d2
      obtain ⟨a, vs, rfl, s1, l1⟩ := asL_ok r d1 hx
      rw [l1.bls] at s1
      exact ⟨a, bs, rfl, s1, t _ _ _ _ _ _ .refl r .bl q⟩
  · exact h.elim⟩
theorem jc_any (hc : X.calm = true) : JCall X (.builtin "any") sAny := ⟨_, cr_any hc, fun B loc M H xs vs Q Qd r d h t => by
  unfold sAny at h
  split at h
  · obtain ⟨bs, hx, q⟩ := h
    cases d with
    | cons d1 d2 =>
      cases d2
      obtain ⟨a, vs, rfl, s1, l1⟩ := asL_ok r d1 hx
      rw [l1.bls] at s1
      exact ⟨a, bs, rfl, s1, t _ _ _ _ _ _ .refl r .bl q⟩
  · exact h.elim⟩
def sSum : SN := fun xs M Q => match xs with
  | [x] => ∃ ns : List Int, asL M x = some (ns.map D.int) ∧ Q (.int ns.sum) M
  | _ => False
theorem jc_sum (hc : X.calm = true) : JCall X (.builtin "sum") sSum := ⟨_, cr_sum hc, fun B loc M H xs vs Q Qd r d h t => by
  unfold sSum at h
  split at h
  · obtain ⟨bs, hx, q⟩ := h
    cases d with
    | cons d1 d2 =>
      cases d2
      obtain ⟨a, vs, rfl, s1, l1⟩ := asL_ok r d1 hx
      rw [l1.ints] at s1
      exact ⟨a, bs, rfl, s1, t _ _ _ _ _ _ .refl r .int q⟩
  · exact h.elim⟩
/-- list(..) of a list or a tuple: a new one; M: one of the store -/
def sList : SN := fun xs M Q => match xs with
  | [x] => ∃ ds, (asL M x = some ds ∨ asT x = some ds) ∧ Q (.lst ds) M
  | _ => False
def sListM : SN := fun xs M Q => match xs with
  | [x] => ∃ ds, (asL M x = some ds ∨ asT x = some ds) ∧ Q (.ref M.length) (M ++ [.lst ds])
  | _ => False
theorem jc_list : JCall X (.type "list") sList := ⟨_, call_list_of, fun B loc M H xs vs Q Qd r d h t => by
  unfold sList at h
  split at h
  · obtain ⟨ds, hx, q⟩ := h
    cases d with
    | cons d1 d2 =>
      cases d2
      rcases hx with hx | hx
      · obtain ⟨a, vs, rfl, s1, l1⟩ := asL_ok r d1 hx
        refine ⟨a, vs, rfl, .inl s1, fun p hp => ?_⟩
        obtain ⟨r4, g4⟩ := r.new (o := .lst vs) hp
        exact t _ _ _ _ _ _ g4 r4 (.lst upd_same (l1.go g4)) q
      · obtain ⟨a, vs, rfl, s1, l1⟩ := asT_ok r d1 hx
        refine ⟨a, vs, rfl, .inr s1, fun p hp => ?_⟩
        obtain ⟨r4, g4⟩ := r.new (o := .lst vs) hp
        exact t _ _ _ _ _ _ g4 r4 (.lst upd_same (l1.go g4)) q
  · exact h.elim⟩
theorem jc_listM : JCall X (.type "list") sListM := ⟨_, call_list_of, fun B loc M H xs vs Q Qd r d h t => by
  unfold sListM at h
  split at h
  · obtain ⟨ds, hx, q⟩ := h
    cases d with
    | cons d1 d2 =>
      cases d2
      rcases hx with hx | hx
      · obtain ⟨a, vs, rfl, s1, l1⟩ := asL_ok r d1 hx
        refine ⟨a, vs, rfl, .inl s1, fun p hp => ?_⟩
        obtain ⟨r4, g4, d4⟩ := newM r hp l1
        exact t _ _ _ _ _ _ g4 r4 d4 q
      · obtain ⟨a, vs, rfl, s1, l1⟩ := asT_ok r d1 hx
        refine ⟨a, vs, rfl, .inr s1, fun p hp => ?_⟩
        obtain ⟨r4, g4, d4⟩ := newM r hp l1
        exact t _ _ _ _ _ _ g4 r4 d4 q
  · exact h.elim⟩
/-! ### own functions -/
abbrev Ct := List D → Mem → SQ → (Addr → Mem → Prop) → Prop
def spD (K : PySem.W.Frag) (n : Nat) (ct : Ct) : Sp := fun vs H Q E => vs.length = n ∧ ∃ ds B loc M Qd Ed, Rel K B loc M H ∧ DenL K B loc ds vs ∧ ct ds M Qd Ed ∧ To K B loc H Qd Q ∧
  ∀ cl M' B' loc' H', Go B loc H B' loc' H' → Rel K B' loc' M' H' → Ed cl M' → E (.ref cl) none H'
abbrev FnJ (X : Cx) (k : Nat) (f : Addr) (fd : FuncData) (ps : List Str) (n : Nat) (ct : Ct) : Prop := FnOk X.prog X.w X.K X.mg X.base (L2N.CX X.prog X.w) k f fd ps (spD X.K n ct)
def sCall (ct : Ct) (n : Nat) (Ed : Addr → Mem → Prop) (sr : SA) : SE := fun ρ M Q => sr ρ M fun ds M1 => ds.length = n ∧ ct ds M1 Q Ed
variable {k n : Nat} {f C : Addr} {fd : FuncData} {ps : List Str} {ct : Ct} {m : Str}
theorem je_call (jx : JX c X) (F : FnJ X k f fd ps n ct) (hr : Room k X.A) (hg : Gl X x) (hm : X.mg x = some (.ref f)) (hk : PySem.W.keepIn X.K (.ref f) = true) (hb : Binds X.K fd ps [])
    (ha : JA c X (e :: es) sr) (hdb : (x == ("__debug__" : Str)) = false := by decide) (he : starEach (e :: es) X.env = (false, eval e X.env) :: starEach es X.env := by rfl) (hpl : (backTo pos (starEach es X.env)).any (·.1) = false := by rfl) :
    JE c X (.Call (.Name x p) (e :: es) [] pos) (sCall ct n c.Ed sr) := by
  obtain ⟨t, pa, za⟩ := ha
  refine ⟨_, pe_call F hr hg hm hk hb .nil jx.pass pa hdb he hpl, fun B loc M H σ ρ Q Qd A hs t => za B loc M H σ ρ _ _ A hs fun ds M' vs B' l' H' g r e h => ?_⟩
  rw [List.append_nil]
  refine ⟨by rw [← e.length]; exact h.1, ds, B', l', M', Qd, c.Ed, r, e, h.2, fun d M2 v B2 l2 H2 g2 r2 e2 h2 => t _ _ _ _ _ _ (g.trans g2) r2 e2 h2, fun cl M2 B2 l2 H2 g2 r2 h2 => jx.ok _ _ _ _ _ ((A.go.trans g).trans g2) r2 h2⟩
theorem je_call0 (jx : JX c X) (F : FnJ X k f fd ps n ct) (hr : Room k X.A) (hg : Gl X x) (hm : X.mg x = some (.ref f)) (hk : PySem.W.keepIn X.K (.ref f) = true) (hb : Binds X.K fd ps [])
    (hdb : (x == ("__debug__" : Str)) = false := by decide) : JE c X (.Call (.Name x p) [] [] pos) (sCall ct n c.Ed sNil) := by
  refine ⟨_, pe_call0 F hr hg hm hk hb .nil jx.pass hdb, fun B loc M H σ ρ Q Qd A hs t => ?_⟩
  exact ⟨hs.1, [], B, loc, M, Qd, c.Ed, A.rel, .nil, hs.2, t, fun cl M2 B2 l2 H2 g2 r2 h2 => jx.ok _ _ _ _ _ (A.go.trans g2) r2 h2⟩
/-- o.m(..), o an instance of the class at C -/
def sMeth (C : Addr) (m : Str) (ct : Ct) (n : Nat) (Ed : Addr → Mem → Prop) (so : SE) (sr : SA) : SE := fun ρ M Q => so ρ M fun d M1 => match d with
  | .ref i => ∃ ks ds, M1[i]? = some (.ins C ks ds) ∧ m ∉ ks ∧ sr ρ M1 fun xs M2 => xs.length + 1 = n ∧ ct (.ref i :: xs) M2 Q Ed
  | _ => False
theorem DenO.fld {K : PySem.W.Frag} {B : Hp} {loc : List Addr} {H : Hp} {a C : Addr} {ks : List Str} {ds : List (Option D)} (h : DenO K B loc a H (.ins C ks ds)) : ∃ dx ws, H a = some (.ins C dx ws) ∧ DenF K B loc ks ds ws := let ⟨_, dx, ws, h1, h2⟩ := h; ⟨dx, ws, h1, h2⟩
theorem je_meth {pl : Sem Bool} (jx : JX c X) (ho : JE c X o so) (cl : Cls X.K C) (hm : Meth X.K C m f) (F : FnJ X k f fd ps n ct) (hr : Room k X.A) (hb : Binds X.K fd ps []) (ha : JA c X (e :: es) sr)
    (hst : starEach (e :: es) X.env = (false, eval e X.env) :: starEach es X.env := by rfl) (hpl : (backTo pos (starEach es X.env)).any (·.1) = false := by rfl)
    (ht : eval (.Call (.Attribute o m apos) (e :: es) [] pos) X.env = (do
      let ov ← eval o X.env
      standAt apos.atName
      let (f, first) ← holding [ov] (getMethod ov m pl)
      callWith pos f first (backTo pos (starEach (e :: es) X.env)) (backToKw pos (keywordEach [] X.env))) := by rfl) :
    JE c X (.Call (.Attribute o m apos) (e :: es) [] pos) (sMeth C m ct n c.Ed so sr) := by
  obtain ⟨tt, po, zo⟩ := ho
  obtain ⟨t, pa, za⟩ := ha
  refine ⟨_, pe_meth po cl hm F hr hb .nil jx.pass pa hst hpl ht, fun B loc M H σ ρ Q Qd A hs t => zo B loc M H σ ρ _ _ A hs fun d M1 v B1 l1 H1 g1 r1 e1 h1 => ?_⟩
  cases e1 with
  | ref hi =>
    obtain ⟨ks, ds, h2, h3, h4⟩ := h1
    obtain ⟨_, dn⟩ := r1.obj _ _ _ hi h2 trivial
    obtain ⟨dx, ws, h5, h6⟩ := dn.fld
    refine ⟨_, dx, ws, rfl, h5, h6.2.2.2 m h3, za B1 l1 M1 H1 σ ρ _ _ (A.on g1 r1) h4 fun xs M' vs B' l' H' g r e h => ?_⟩
    rw [List.append_nil]
    refine ⟨by rw [List.length_cons, ← e.length]; exact h.1, _, B', l', M', Qd, c.Ed, r, .cons (.ref (pre_get g.l hi)) e, h.2, fun d M2 v B2 l2 H2 g2 r2 e2 h2 => t _ _ _ _ _ _ ((g1.trans g).trans g2) r2 e2 h2, fun cl M2 B2 l2 H2 g2 r2 h2 => jx.ok _ _ _ _ _ (((A.go.trans g1).trans g).trans g2) r2 h2⟩
  | _ => exact h1.elim
theorem je_meth0 {pl : Sem Bool} (jx : JX c X) (ho : JE c X o so) (cl : Cls X.K C) (hm : Meth X.K C m f) (F : FnJ X k f fd ps n ct) (hr : Room k X.A) (hb : Binds X.K fd ps [])
    (ht : eval (.Call (.Attribute o m apos) [] [] pos) X.env = (do
      let ov ← eval o X.env
      standAt apos.atName
      let (f, first) ← holding [ov] (getMethod ov m pl)
      callWith pos f first (backTo pos (starEach [] X.env)) (backToKw pos (keywordEach [] X.env))) := by rfl) :
    JE c X (.Call (.Attribute o m apos) [] [] pos) (sMeth C m ct n c.Ed so sNil) := by
  obtain ⟨tt, po, zo⟩ := ho
  refine ⟨_, pe_meth0 po cl hm F hr hb .nil jx.pass ht, fun B loc M H σ ρ Q Qd A hs t => zo B loc M H σ ρ _ _ A hs fun d M1 v B1 l1 H1 g1 r1 e1 h1 => ?_⟩
  cases e1 with
  | ref hi =>
    obtain ⟨ks, ds, h2, h3, h4⟩ := h1
    obtain ⟨_, dn⟩ := r1.obj _ _ _ hi h2 trivial
    obtain ⟨dx, ws, h5, h6⟩ := dn.fld
    refine ⟨_, dx, ws, rfl, h5, h6.2.2.2 m h3, ?_⟩
    exact ⟨h4.1, _, B1, l1, M1, Qd, c.Ed, r1, .cons (.ref hi) .nil, h4.2, fun d M2 v B2 l2 H2 g2 r2 e2 h2 => t _ _ _ _ _ _ (g1.trans g2) r2 e2 h2, fun cl M2 B2 l2 H2 g2 r2 h2 => jx.ok _ _ _ _ _ ((A.go.trans g1).trans g2) r2 h2⟩
  | _ => exact h1.elim
/-- o.k, the i-th field -/
def sFld (C : Addr) (k : Str) (i : Nat) (so : SE) : SE := fun ρ M Q => so ρ M fun d M1 => match d with
  | .ref r => ∃ ks ds d', M1[r]? = some (.ins C ks ds) ∧ ks[i]? = some k ∧ ds[i]? = some (some d') ∧ Q d' M1
  | _ => False
theorem je_fld {kk : Str} (i : Nat) (ho : JE c X o so) (cl : Cls X.K C) (na : NoAttr X.K C kk) (hb : attributeBase o kk X.env (eval o X.env) = eval o X.env := by rfl) : JE c X (.Attribute o kk pos) (sFld C kk i so) := by
  obtain ⟨tt, po, zo⟩ := ho
  refine ⟨_, pe_fld po hb, fun B loc M H σ ρ Q Qd A hs t => zo B loc M H σ ρ _ _ A hs fun d M1 v B1 l1 H1 g1 r1 e1 h1 => ?_⟩
  cases e1 with
  | ref hi =>
    obtain ⟨ks, ds, d', h2, h3, h4, h5⟩ := h1
    obtain ⟨_, dn⟩ := r1.obj _ _ _ hi h2 trivial
    obtain ⟨dx, ws, h6, h7⟩ := dn.fld
    obtain ⟨v, h8, h9⟩ := h7.2.2.1 i _ _ h3 h4
    exact ⟨_, C, dx, ws, v, rfl, h6, cl, na, h8, t _ _ _ _ _ _ g1 r1 h9 h5⟩
  | _ => exact h1.elim
/-- C(..) -/
def sMake (C : Addr) (ks : List Str) (ct : Ct) (n : Nat) (Ed : Addr → Mem → Prop) (sr : SA) : SE := fun ρ M Q => sr ρ M fun xs M1 => xs.length + 1 = n ∧ (ks.length ≤ 900 ∧ ks.Nodup) ∧
  ct (.ref M1.length :: xs) (M1 ++ [.ins C ks (List.replicate ks.length none)]) (fun d M2 => isNonD d = true ∧ Q (.ref M1.length) M2) Ed
theorem cnt_rep : ∀ n : Nat, cnt (List.replicate n none) = 0
  | 0 => rfl
  | n + 1 => by rw [List.replicate_succ]; exact cnt_rep n
theorem rep_none {n i : Nat} {d : D} (e2 : (List.replicate n (none : Option D))[i]? = some (some d)) : False := by
  rw [List.getElem?_replicate] at e2
  split at e2 <;> cases e2
theorem je_make {ks : List Str} (jx : JX c X) (Mk_ : Mk X.K C f) (F : FnJ X k f fd ps n ct) (hr : Room (k + 1) X.A) (hg : Gl X x) (hm : X.mg x = some (.ref C)) (hb : Binds X.K fd ps [])
    (ha : JA c X (e :: es) sr) (hdb : (x == ("__debug__" : Str)) = false := by decide) (he : starEach (e :: es) X.env = (false, eval e X.env) :: starEach es X.env := by rfl) (hpl : (backTo pos (starEach es X.env)).any (·.1) = false := by rfl) :
    JE c X (.Call (.Name x p) (e :: es) [] pos) (sMake C ks ct n c.Ed sr) := by
  obtain ⟨t, pa, za⟩ := ha
  refine ⟨_, pe_make Mk_ F hr hg hm hb .nil jx.pass pa hdb he hpl, fun B loc M H σ ρ Q Qd A hs t => za B loc M H σ ρ _ _ A hs fun ds M' vs B' l' H' g r e h => ?_⟩
  intro a dx hna hnd hne
  rw [List.append_nil]
  obtain ⟨r1, g1⟩ := r.extra (o := .own a) hnd
  have hna1 : upd H' dx (.own a) a = none := by rw [upd_ne (Ne.symm hne)]; exact hna
  obtain ⟨r2, g2⟩ := r1.alloc (p := a) (ho := .ins C dx []) (o := .ins C ks (List.replicate ks.length none)) hna1 fun H2 h2 => ⟨h.2.1, dx, [], h2, by rw [List.length_replicate], by rw [cnt_rep]; exact Nat.le_refl _, fun i k d e1 e2 => (rep_none e2).elim, fun _ _ => rfl⟩
  have gg := g1.trans g2
  have hd : Den X.K B' (l' ++ [a]) (.ref M'.length) (.ref a) := .ref (by rw [← r.len]; exact get_snoc l' a)
  refine ⟨by rw [List.length_cons, ← e.length]; exact h.1, _, B', l' ++ [a], _, _, c.Ed, r2, .cons hd (e.go gg), h.2.2, fun d M2 v B2 l2 H2 g3 r3 e3 h3 => ?_, fun cl M2 B2 l2 H2 g3 r3 h3 => jx.ok _ _ _ _ _ (((A.go.trans g).trans gg).trans g3) r3 h3⟩
  refine ⟨?_, t _ _ _ _ _ _ ((g.trans gg).trans g3) r3 (hd.go g3) h3.2⟩
  have z := h3.1
  cases e3 <;> first | rfl | cases z
/-! ### methods of built-in types -/
def tyD (M : Mem) (T : String) : D → Prop
  | .str _ => T = "str"
  | .int _ => T = "int"
  | .lst _ => T = "list"
  | .scr _ => T = "list"
  | .ref i => match M[i]? with
    | some (.lst _) => T = "list"
    | some (.dic _) => T = "dict"
    | some (.rcd _ _) => T = "dict"
    | _ => False
  | _ => False
theorem tyD_ok {K : PySem.W.Frag} {B : Hp} {loc : List Addr} {M : Mem} {H : Hp} {d : D} {v : V} (r : Rel K B loc M H) (e : Den K B loc d v) (h : tyD M T d) : tyV K T v H := by
  cases e with
  | str => exact h
  | int => exact h
  | lst s _ => exact .inl ⟨h, _, SqL.of (r.ext _ _ s)⟩
  | scr s => exact .inl ⟨h, _, r.ext.seq s⟩
  | @ref i a hi =>
    unfold tyD at h
    cases q : M[i]? with
    | none => simp only [q] at h
    | some o =>
      simp only [q] at h
      cases o with
      | lst ys =>
        obtain ⟨_, vs, h1, _⟩ := r.obj i a _ hi q trivial
        exact .inl ⟨h, vs, SqL.of h1⟩
      | dic ys =>
        obtain ⟨_, vs, h1, _⟩ := r.obj i a _ hi q trivial
        exact .inr (.inr (.inl ⟨h, .inl ⟨vs, h1⟩⟩))
      | rcd ks ys =>
        obtain ⟨_, _, vs, h1, _⟩ := r.obj i a _ hi q trivial
        exact .inr (.inr (.inl ⟨h, .inl ⟨vs, h1⟩⟩))
      | _ => exact h.elim
  | _ => exact h.elim
abbrev SM := D → List D → Mem → SQ → Prop
def SimM (K : PySem.W.Frag) (r : V → List V → Hp → VK → Prop) (s : SM) : Prop := ∀ B loc M H x v xs vs Q Qd, Rel K B loc M H → Den K B loc x v → DenL K B loc xs vs → s x xs M Qd → To K B loc H Qd Q → r v vs H Q
def JMt (X : Cx) (bid : String) (s : SM) : Prop := ∃ r, MtR X bid r ∧ SimM X.K r s
def sBM (T : String) (s : SM) (so : SE) (sr : SA) : SE := fun ρ M Q => so ρ M fun d M1 => tyD M1 T d ∧ sr ρ M1 fun xs M2 => s d xs M2 Q
theorem je_bm0 {s : SM} {name : Str} (pa : PlainAttrs T) (slot : Slot T name bid) (hty : typeOf (.builtin bid) = pure (.type "method_descriptor")) (hm : JMt X bid s) (ho : JE c X o so)
    (hbase : attributeBase o name X.env (eval o X.env) = eval o X.env := by rfl) (hline : (apos.endLine == pos.line) = true := by rfl) : JE c X (.Call (.Attribute o name apos) [] [] pos) (sBM T s so sNil) := by
  obtain ⟨r, mr, z⟩ := hm
  obtain ⟨tt, po, zo⟩ := ho
  refine ⟨_, pe_bm0 pa slot hty mr po hbase hline, fun B loc M H σ ρ Q Qd A hs t => zo B loc M H σ ρ _ _ A hs fun d M1 v B1 l1 H1 g1 r1 e1 h1 => ⟨tyD_ok r1 e1 h1.1, ?_⟩⟩
  exact z B1 l1 M1 H1 d v [] [] Q Qd r1 e1 .nil h1.2 fun d M2 v B2 l2 H2 g2 r2 e2 h2 => t _ _ _ _ _ _ (g1.trans g2) r2 e2 h2
theorem je_bm {s : SM} {name : Str} (pa : PlainAttrs T) (slot : Slot T name bid) (hty : typeOf (.builtin bid) = pure (.type "method_descriptor")) (hm : JMt X bid s) (ho : JE c X o so) (ha : JA c X (e :: es) sr)
    (hbase : attributeBase o name X.env (eval o X.env) = eval o X.env := by rfl)
    (hfew : ((backTo pos (starEach (e :: es) X.env)).all (fun x => !x.1) && (backToKw pos (keywordEach [] X.env)).all (fun x => x.1.isSome)
      && decide ((e :: es).length + ([] : List Keyword).length + (if ([] : List Keyword).isEmpty then 0 else 1) < 30)) = true := by rfl)
    (hline : (apos.endLine == pos.line) = true := by rfl) (hs : starEach (e :: es) X.env = (false, eval e X.env) :: starEach es X.env := by rfl) (hplain : (backTo pos (starEach es X.env)).any (·.1) = false := by rfl) :
    JE c X (.Call (.Attribute o name apos) (e :: es) [] pos) (sBM T s so sr) := by
  obtain ⟨r, mr, z⟩ := hm
  obtain ⟨tt, po, zo⟩ := ho
  obtain ⟨ta, pa', za⟩ := ha
  refine ⟨_, pe_bm pa slot hty mr po pa' hbase hfew hline hs hplain, fun B loc M H σ ρ Q Qd A hs t => zo B loc M H σ ρ _ _ A hs fun d M1 v B1 l1 H1 g1 r1 e1 h1 => ⟨tyD_ok r1 e1 h1.1, ?_⟩⟩
  exact za B1 l1 M1 H1 σ ρ _ _ (A.on g1 r1) h1.2 fun xs M' vs B' l' H' g r e h => z B' l' M' H' d v xs vs Q Qd r (e1.go g) e h fun d M2 v B2 l2 H2 g2 r2 e2 h2 => t _ _ _ _ _ _ ((g1.trans g).trans g2) r2 e2 h2
/-- xs.append(e) -/
def sApp : SM := fun d xs M Q => match d, xs with
  | .ref i, [y] => ∃ ys, M[i]? = some (.lst ys) ∧ ys.length < sizeLine ∧ Q .non (M.set i (.lst (ys ++ [y])))
  | _, _ => False
theorem jm_app : JMt X "list.append" sApp := ⟨_, mt_append, fun B loc M H x v xs vs Q Qd r d1 d2 h t => by
  unfold sApp at h
  split at h
  · obtain ⟨ys, h1, h2, q⟩ := h
    obtain ⟨a, ws, rfl, hi, hH, l1⟩ := memL_ok r d1 h1
    cases d2 with
    | cons e1 e2 =>
      cases e2
      refine ⟨a, ws, _, rfl, rfl, hH, by rw [← l1.length]; exact h2, ?_⟩
      obtain ⟨r2, g2⟩ := r.put (o := .lst (ys ++ [_])) (ho := .lst (ws ++ [_])) hi h1 trivial fun H' h' => ⟨_, h', l1.append (.cons e1 .nil)⟩
      exact t _ _ _ _ _ _ g2 r2 .non q
  · exact h.elim⟩
/-- xs.clear() -/
def sClear : SM := fun d xs M Q => match d, xs with
  | .ref i, [] => ∃ ys, M[i]? = some (.lst ys) ∧ Q .non (M.set i (.lst []))
  | _, _ => False
theorem jm_clear : JMt X "list.clear" sClear := ⟨_, mt_clear, fun B loc M H x v xs vs Q Qd r d1 d2 h t => by
  unfold sClear at h
  split at h
  · obtain ⟨ys, h1, q⟩ := h
    obtain ⟨a, ws, rfl, hi, hH, l1⟩ := memL_ok r d1 h1
    cases d2
    refine ⟨a, ws, rfl, rfl, hH, ?_⟩
    obtain ⟨r2, g2⟩ := r.put (o := .lst []) (ho := .lst []) hi h1 trivial fun H' h' => ⟨_, h', .nil⟩
    exact t _ _ _ _ _ _ g2 r2 .non q
  · exact h.elim⟩
/-- sep.join(xs) -/
def sJoin : SM := fun d xs M Q => match d, xs with
  | .str a, [x] => ∃ ys : List Str, asL M x = some (ys.map D.str) ∧ (ys.map (·.length)).sum + ys.length * a.length ≤ 16777216 ∧ Q (.str (Txt.join a ys)) M
  | _, _ => False
theorem jm_join : JMt X "str.join" sJoin := ⟨_, mt_join, fun B loc M H x v xs vs Q Qd r d1 d2 h t => by
  unfold sJoin at h
  split at h
  · obtain ⟨ys, h1, h2, q⟩ := h
    cases d1
    cases d2 with
    | cons e1 e2 =>
      cases e2
      obtain ⟨a, vs, rfl, s1, l1⟩ := asL_ok r e1 h1
      rw [l1.strs] at s1
      exact ⟨_, a, ys, rfl, rfl, .inl s1, h2, t _ _ _ _ _ _ .refl r .str q⟩
  · exact h.elim⟩
end
end J

namespace J
open PySem PySem.Spec PyProof.Rows L2
/-! ### statements -/
abbrev ToS (K : PySem.W.Frag) (B : Hp) (loc : List Addr) (H : Hp) (nd : Rho → Mem → Prop) (n : L2.St → Hp → Prop) : Prop := ∀ ρ M' σ B' loc' H', Go B loc H B' loc' H' → Rel K B' loc' M' H' → EnvOk K B' loc' σ ρ → nd ρ M' → n σ H'
structure EndsOk (K : PySem.W.Frag) (D : Ends) (k : SK) (B : Hp) (loc : List Addr) (H : Hp) : Prop where
  nx : ToS K B loc H k.nx D.nx
  rt : To K B loc H k.rt D.rt
  bk : ToS K B loc H k.bk D.bk
  ct : ToS K B loc H k.ct D.ct
theorem To.go {K : PySem.W.Frag} {B B' : Hp} {loc loc' : List Addr} {H H' : Hp} {Qd : SQ} {Q : VK} (t : To K B loc H Qd Q) (g : Go B loc H B' loc' H') : To K B' loc' H' Qd Q := fun d M v B2 l2 H2 g2 r e h => t d M v B2 l2 H2 (g.trans g2) r e h
theorem ToS.go {K : PySem.W.Frag} {B B' : Hp} {loc loc' : List Addr} {H H' : Hp} {nd : Rho → Mem → Prop} {n : L2.St → Hp → Prop} (t : ToS K B loc H nd n) (g : Go B loc H B' loc' H') : ToS K B' loc' H' nd n := fun d M v B2 l2 H2 g2 r e h => t d M v B2 l2 H2 (g.trans g2) r e h
theorem EndsOk.go {K : PySem.W.Frag} {D : Ends} {k : SK} {B B' : Hp} {loc loc' : List Addr} {H H' : Hp} (e : EndsOk K D k B loc H) (g : Go B loc H B' loc' H') : EndsOk K D k B' loc' H' := ⟨ToS.go e.nx g, To.go e.rt g, ToS.go e.bk g, ToS.go e.ct g⟩
def JS (c : JC) (X : Cx) (st : Stmt) (ss : SS) : Prop :=
  ∃ ts, PS X st ts ∧ ∀ B loc M H σ ρ D k, At c X.K B loc M H σ ρ → ss k ρ M → EndsOk X.K D k B loc H → ts D σ H
def JSs (c : JC) (X : Cx) (st : List Stmt) (ss : SS) : Prop :=
  ∃ ts, PSs X st ts ∧ ∀ B loc M H σ ρ D k, At c X.K B loc M H σ ρ → ss k ρ M → EndsOk X.K D k B loc H → ts D σ H
def JG (c : JC) (X : Cx) (tg : Expr) (sg : SG) : Prop :=
  ∃ g, PG X tg g ∧ ∀ B loc M H σ ρ d v (Q : L2.St → Hp → Prop) (Qd : Rho → Mem → Prop), At c X.K B loc M H σ ρ → Den X.K B loc d v → sg d ρ M Qd → ToS X.K B loc H Qd Q → g v σ H Q
section
variable {c : JC} {X : Cx} {a b e o tg : Expr} {es : List Expr} {st : Stmt} {rest : List Stmt} {pos p : Pos} {sa sb se so : SE} {sr : SA} {x : Str} {s u : SS} {sg : SG}
def sSkip : SS := fun k ρ M => k.nx ρ M
def sSeq (s u : SS) : SS := fun k ρ M => s { k with nx := fun ρ' M' => u k ρ' M' } ρ M
theorem jss_nil : JSs c X [] sSkip := ⟨_, pss_nil, fun B loc M H σ ρ D k A h E => E.nx _ _ _ _ _ _ .refl A.rel A.env h⟩
theorem jss_cons (h1 : JS c X st s) (h2 : JSs c X rest u) : JSs c X (st :: rest) (sSeq s u) := by
  obtain ⟨t1, p1, z1⟩ := h1
  obtain ⟨t2, p2, z2⟩ := h2
  refine ⟨_, pss_cons p1 p2, fun B loc M H σ ρ D k A h E => z1 B loc M H σ ρ _ _ A h ⟨fun ρ' M' σ' B' l' H' g r e h' => ?_, E.rt, E.bk, E.ct⟩⟩
  exact z2 B' l' M' H' σ' ρ' D k ⟨A.go.trans g, r, e⟩ h' (E.go g)
theorem jss_one (h1 : JS c X st s) : JSs c X [st] s := by
  obtain ⟨t1, p1, z1⟩ := h1
  exact ⟨_, pss_one p1, z1⟩
theorem js_pass : JS c X (.Pass pos) sSkip := ⟨_, ps_pass, fun B loc M H σ ρ D k A h E => E.nx _ _ _ _ _ _ .refl A.rel A.env h⟩
def sBrk : SS := fun k ρ M => k.bk ρ M
def sCnt : SS := fun k ρ M => k.ct ρ M
theorem js_break : JS c X (.Break pos) sBrk := ⟨_, ps_break, fun B loc M H σ ρ D k A h E => E.bk _ _ _ _ _ _ .refl A.rel A.env h⟩
theorem js_continue : JS c X (.Continue pos) sCnt := ⟨_, ps_continue, fun B loc M H σ ρ D k A h E => E.ct _ _ _ _ _ _ .refl A.rel A.env h⟩
def sExpr (se : SE) : SS := fun k ρ M => se ρ M fun _ M' => k.nx ρ M'
theorem js_expr (he : JE c X e se) (hs : swapsWith e none pos.line X.env = pure false := by rfl) : JS c X (.Expr e pos) (sExpr se) := by
  obtain ⟨t, p, z⟩ := he
  exact ⟨_, ps_expr p hs, fun B loc M H σ ρ D k A h E => z B loc M H σ ρ _ _ A h fun d M' v B' l' H' g r e h' => E.nx _ _ _ _ _ _ g r (A.env.go g) h'⟩
def sRet (se : SE) : SS := fun k ρ M => se ρ M fun d M' => k.rt d M'
theorem js_ret (he : JE c X e se) : JS c X (.Return (some e) pos) (sRet se) := by
  obtain ⟨t, p, z⟩ := he
  exact ⟨_, ps_ret p, fun B loc M H σ ρ D k A h E => z B loc M H σ ρ _ _ A h E.rt⟩
def sRetN : SS := fun k _ M => k.rt .non M
theorem js_retN : JS c X (.Return none pos) sRetN := ⟨_, ps_retN, fun B loc M H σ ρ D k A h E => E.rt _ _ _ _ _ _ .refl A.rel .non h⟩
def sIfS (t : ST) (s u : SS) : SS := fun k ρ M => t ρ M fun b M' => (b = true → s k ρ M') ∧ (b = false → u k ρ M')
theorem js_if {cd : Expr} {xs ys : List Stmt} {t : ST} (hc : JT c X cd t) (ha : JSs c X xs s) (hb : JSs c X ys u) : JS c X (.If cd xs ys pos) (sIfS t s u) := by
  obtain ⟨tc, pc, zc⟩ := hc
  obtain ⟨t1, p1, z1⟩ := ha
  obtain ⟨t2, p2, z2⟩ := hb
  refine ⟨_, ps_if pc p1 p2, fun B loc M H σ ρ D k A h E => zc B loc M H σ ρ _ _ A h fun b M' B' l' H' g r h' => ?_⟩
  cases b with
  | true => exact iteT (z1 B' l' M' H' σ ρ D k (A.on g r) (h'.1 rfl) (E.go g))
  | false => exact iteF (z2 B' l' M' H' σ ρ D k (A.on g r) (h'.2 rfl) (E.go g))
/-! ### targets, assignments -/
def gVar (i : Nat) : SG := fun d ρ M Q => Q (ρ.set i (some d)) M
theorem jg_name {i : Nat} (hN : X.N.Nodup) (hi : X.N[i]? = some x) (hx : Loc X.env.scope x) (hf : X.fn x = true ∨ X.env.scope.names.lookup x = some .local := by first | exact .inl rfl | exact .inr rfl | assumption) : JG c X (.Name x pos) (gVar i) :=
  ⟨_, pg_name hN hi hx hf, fun B loc M H σ ρ d v Q Qd A e h t => t _ _ _ _ _ _ .refl A.rel (A.env.set e i) h⟩
abbrev SGs := List D → Rho → Mem → (Rho → Mem → Prop) → Prop
def JGs (c : JC) (X : Cx) (ts : List Expr) (sg : SGs) : Prop :=
  ∃ g, PGs X ts g ∧ ∀ B loc M H σ ρ ds vs (Q : L2.St → Hp → Prop) (Qd : Rho → Mem → Prop), At c X.K B loc M H σ ρ → DenL X.K B loc ds vs → sg ds ρ M Qd → ToS X.K B loc H Qd Q → g vs σ H Q
def gsNil : SGs := fun ds ρ M Q => match ds with
  | [] => Q ρ M
  | _ => False
def gsCons (g : SG) (r : SGs) : SGs := fun ds ρ M Q => match ds with
  | d :: ds => g d ρ M fun ρ' M' => r ds ρ' M' Q
  | _ => False
theorem jgs_nil : JGs c X [] gsNil := ⟨_, pgs_nil, fun B loc M H σ ρ ds vs Q Qd A e h t => by
  cases e with
  | nil => exact ⟨rfl, t _ _ _ _ _ _ .refl A.rel A.env h⟩
  | cons _ _ => exact h.elim⟩
theorem jgs_cons {g : SG} {r : SGs} (h1 : JG c X e g) (h2 : JGs c X es r) (hst : (assignEach (e :: es) X.env).map (·.2) = assign e X.env :: (assignEach es X.env).map (·.2) := by rfl) : JGs c X (e :: es) (gsCons g r) := by
  obtain ⟨g1, p1, z1⟩ := h1
  obtain ⟨g2, p2, z2⟩ := h2
  refine ⟨_, pgs_cons p1 p2 hst, fun B loc M H σ ρ ds vs Q Qd A e h t => ?_⟩
  cases e with
  | nil => exact h.elim
  | cons e1 e2 =>
    exact ⟨_, _, rfl, z1 B loc M H σ ρ _ _ _ _ A e1 h fun ρ' M' σ' B' l' H' g r e h' => z2 B' l' M' H' σ' ρ' _ _ Q Qd ⟨A.go.trans g, r, e⟩ (e2.go g) h' (ToS.go t g)⟩
/-- a, b, .. = a tuple of that length -/
def gTupD (n : Nat) (r : SGs) : SG := fun d ρ M Q => match d with
  | .tup ds => ds.length = n ∧ r ds ρ M Q
  | _ => False
theorem jg_tup {es : List Expr} {kk n : Nat} {r : SGs} (hc : X.calm = true) (h : JGs c X es r) (hn : (assignEach es X.env).length = n := by rfl) (hst : (assignEach es X.env).findIdx? (·.1) = none := by rfl) : JG c X (.Tuple es kk pos) (gTupD n r) := by
  obtain ⟨g1, p1, z1⟩ := h
  refine ⟨_, pg_tup hc p1 hn hst, fun B loc M H σ ρ d v Q Qd A e h t => ?_⟩
  cases e with
  | tup s1 l1 => exact ⟨_, _, rfl, same_t A.rel.ext s1, by rw [← l1.length]; exact h.1, z1 B loc M H σ ρ _ _ Q Qd A l1 h.2 t⟩
  | _ => exact h.elim
/-- a changing list's item -/
def gSet (so si : SE) : SG := fun d ρ M Q => so ρ M fun x M1 => si ρ M1 fun y M2 => match x, y with
  | .ref r, .int i => ∃ xs j, M2[r]? = some (.lst xs) ∧ ixN xs.length i = some j ∧ Q ρ (M2.set r (.lst (xs.set j d)))
  | _, _ => False
theorem jg_sub {i : Expr} {si : SE} (ho : JE c X o so) (hi : JE c X i si)
    (ha : ∀ v, assign (.Subscript o i pos) X.env v = (do
      let ov ← holding [v] (eval o X.env)
      let iv ← holding [v, ov] (eval i X.env)
      standAt pos
      holding [v, ov, iv] (setItem ov iv v)
      release [v, ov, iv] []) := by intro _; rfl) : JG c X (.Subscript o i pos) (gSet so si) := by
  obtain ⟨t1, p1, z1⟩ := ho
  obtain ⟨t2, p2, z2⟩ := hi
  refine ⟨_, pg_sub p1 p2 set_list ha, fun B loc M H σ ρ d v Q Qd A e h t => z1 B loc M H σ ρ _ _ A h fun d1 M1 v1 B1 l1 H1 g1 r1 e1 h1 => z2 B1 l1 M1 H1 σ ρ _ _ (A.on g1 r1) h1 fun d2 M2 v2 B2 l2 H2 g2 r2 e2 h2 => ?_⟩
  split at h2
  · obtain ⟨xs, j, h3, h4, q⟩ := h2
    obtain ⟨a, vs, rfl, hi, hH, hl⟩ := memL_ok r2 (e1.go g2) h3
    cases e2
    refine ⟨a, vs, _, j, rfl, rfl, hH, by rw [← hl.length]; exact h4, ?_⟩
    obtain ⟨r3, g3⟩ := r2.put (o := .lst (xs.set j d)) (ho := .lst (vs.set j v)) hi h3 trivial fun H' h' => ⟨_, h', hl.set ((e.go (g1.trans g2))) j⟩
    have gg := (g1.trans g2).trans g3
    exact t _ _ _ _ _ _ gg r3 (A.env.go gg) q
  · exact h2.elim
def sAsg (se : SE) (sg : SG) : SS := fun k ρ M => se ρ M fun d M' => sg d ρ M' k.nx
theorem js_asg (he : JE c X e se) (hg : JG c X tg sg) (hs : swapsWithSole [tg] e pos.line X.env = pure false := by rfl) (hw : swappedStores [tg] e X.env = pure none := by rfl)
    (h1 : (assignEach [tg] X.env).map (·.2) = [assign tg X.env] := by rfl) : JS c X (.Assign [tg] e pos) (sAsg se sg) := by
  obtain ⟨t, p, z⟩ := he
  obtain ⟨g1, p1, z1⟩ := hg
  exact ⟨_, ps_asg p p1 hs hw h1, fun B loc M H σ ρ D k A h E => z B loc M H σ ρ _ _ A h fun d M' v B' l' H' g r e h' => z1 B' l' M' H' σ ρ d v _ _ (A.on g r) e h' (ToS.go E.nx g)⟩
theorem js_set {i : Nat} {pos' : Pos} (hN : X.N.Nodup) (hi : X.N[i]? = some x) (hx : Loc X.env.scope x) (he : JE c X e se) (hs : swapsWith e (some (.Name x pos')) pos.line X.env = pure false := by rfl) (hf : X.fn x = true ∨ X.env.scope.names.lookup x = some .local := by first | exact .inl rfl | exact .inr rfl | assumption) :
    JS c X (.Assign [.Name x pos'] e pos) (sAsg se (gVar i)) := by
  obtain ⟨t, p, z⟩ := he
  exact ⟨_, ps_set hN hi hx p hs hf, fun B loc M H σ ρ D k A h E => z B loc M H σ ρ _ _ A h fun d M' v B' l' H' g r e h' => E.nx _ _ _ _ _ _ g r ((A.env.go g).set e i) h'⟩
/-- a, b = x, y -/
def sPar (i j : Nat) (sr : SA) : SS := fun k ρ M => sr ρ M fun ds M' => match ds with
  | [d, e] => k.nx ((ρ.set i (some d)).set j (some e)) M'
  | _ => False
theorem js_par {i j : Nat} {y : Str} {px py pt : Pos} {kt k2 pt2} (hc : X.calm = true) (hN : X.N.Nodup) (hi : X.N[i]? = some x) (hj : X.N[j]? = some y) (hij : i ≠ j)
    (hx : X.env.scope.names.lookup x = some .local) (hy : X.env.scope.names.lookup y = some .local) (ha : JA c X [a, b] sr) (hw : swappedStores [.Tuple [.Name x px, .Name y py] kt pt] (.Tuple [a, b] k2 pt2) X.env = pure (some [x, y]))
    (hs : swapsWithSole [.Tuple [.Name x px, .Name y py] kt pt] (.Tuple [a, b] k2 pt2) pos.line X.env = pure false := by rfl) :
    JS c X (.Assign [.Tuple [.Name x px, .Name y py] kt pt] (.Tuple [a, b] k2 pt2) pos) (sPar i j sr) := by
  obtain ⟨t, p, z⟩ := ha
  refine ⟨_, ps_par hc hN hi hj hij hx hy p hw hs, fun B loc M H σ ρ D k A h E => z B loc M H σ ρ _ _ A h fun ds M' vs B' l' H' g r e h' => ?_⟩
  split at h'
  · cases e with
    | cons e1 e2 =>
      cases e2 with
      | cons e2 e3 =>
        cases e3
        exact ⟨_, _, rfl, E.nx _ _ _ _ _ _ g r (((A.env.go g).set e1 i).set e2 j) h'⟩
  · exact h'.elim
def sPar3 (i j l : Nat) (sr : SA) : SS := fun k ρ M => sr ρ M fun ds M' => match ds with
  | [d, e, f] => k.nx (((ρ.set i (some d)).set j (some e)).set l (some f)) M'
  | _ => False
theorem js_par3 {i j l : Nat} {y z : Str} {d : Expr} {px py pz pt : Pos} {kt k2 pt2} (hc : X.calm = true) (hN : X.N.Nodup) (hi : X.N[i]? = some x) (hj : X.N[j]? = some y) (hl : X.N[l]? = some z) (hij : i ≠ j) (hil : i ≠ l) (hjl : j ≠ l)
    (hx : X.env.scope.names.lookup x = some .local) (hy : X.env.scope.names.lookup y = some .local) (hz : X.env.scope.names.lookup z = some .local) (ha : JA c X [a, b, d] sr)
    (hw : swappedStores [.Tuple [.Name x px, .Name y py, .Name z pz] kt pt] (.Tuple [a, b, d] k2 pt2) X.env = pure (some [x, y, z]))
    (hs : swapsWithSole [.Tuple [.Name x px, .Name y py, .Name z pz] kt pt] (.Tuple [a, b, d] k2 pt2) pos.line X.env = pure false := by rfl) :
    JS c X (.Assign [.Tuple [.Name x px, .Name y py, .Name z pz] kt pt] (.Tuple [a, b, d] k2 pt2) pos) (sPar3 i j l sr) := by
  obtain ⟨t, p, zz⟩ := ha
  refine ⟨_, ps_par3 hc hN hi hj hl hij hil hjl hx hy hz p hw hs, fun B loc M H σ ρ D k A h E => zz B loc M H σ ρ _ _ A h fun ds M' vs B' l' H' g r e h' => ?_⟩
  split at h'
  · cases e with
    | cons e1 e2 =>
      cases e2 with
      | cons e2 e3 =>
        cases e3 with
        | cons e3 e4 =>
          cases e4
          exact ⟨_, _, _, rfl, E.nx _ _ _ _ _ _ g r ((((A.env.go g).set e1 i).set e2 j).set e3 l) h'⟩
  · exact h'.elim
/-- o.k = e, the i-th field -/
def sSetF (C : Addr) (kk : Str) (i : Nat) (so se : SE) : SS := fun k ρ M => se ρ M fun y M1 => so ρ M1 fun x M2 => match x with
  | .ref r => ∃ ks ds, M2[r]? = some (.ins C ks ds) ∧ ks[i]? = some kk ∧ k.nx ρ (M2.set r (.ins C ks (ds.set i (some y))))
  | _ => False
theorem putF_length (f : Str) (v : V) : ∀ fs : List (Str × V), (putF f v fs).length = fs.length + (if (fs.lookup f).isSome then 0 else 1)
  | [] => rfl
  | (g, w) :: r => by
    by_cases h : g = f
    · subst h
      have e1 : putF g v ((g, w) :: r) = (g, v) :: r := if_pos rfl
      have e2 : List.lookup g ((g, w) :: r) = some w := by simp [List.lookup]
      rw [e1, e2]; rfl
    · have e1 : putF f v ((g, w) :: r) = (g, w) :: putF f v r := if_neg h
      have e2 : List.lookup f ((g, w) :: r) = List.lookup f r := by
        have : (f == g) = false := beq_eq_false_iff_ne.mpr (Ne.symm h)
        simp [List.lookup, this]
      rw [e1, e2, List.length_cons, List.length_cons, putF_length f v r]
      omega
theorem DenF.put {K : PySem.W.Frag} {B : Hp} {loc : List Addr} {ks : List Str} {ds : List (Option D)} {ws : List (Str × V)} {i : Nat} {k : Str} {d : D} {v : V} (h : DenF K B loc ks ds ws) (nd : ks.Nodup) (hk : ks[i]? = some k) (e : Den K B loc d v) :
    DenF K B loc ks (ds.set i (some d)) (putF k v ws) := by
  obtain ⟨h1, h2, h3, h4⟩ := h
  have hi : i < ds.length := by rw [h1]; exact (List.getElem?_eq_some_iff.mp hk).1
  obtain ⟨x, hx⟩ : ∃ x, ds[i]? = some x := ⟨_, List.getElem?_eq_getElem hi⟩
  refine ⟨by rw [List.length_set]; exact h1, ?_, fun j k' d' e1 e2 => ?_, fun k' hn => ?_⟩
  · rw [putF_length, cnt_set d ds i x hx]
    cases x with
    | none =>
      show _ ≤ cnt ds + 1
      split <;> omega
    | some y =>
      obtain ⟨v', h5, _⟩ := h3 i k y hk hx
      rw [h5]
      exact h2
  · rw [lookup_putF]
    by_cases hj : i = j
    · subst hj
      rw [List.getElem?_set_self hi] at e2
      cases e2
      rw [hk] at e1
      cases e1
      exact ⟨v, if_pos rfl, e⟩
    · rw [List.getElem?_set_ne hj] at e2
      obtain ⟨v', h5, h6⟩ := h3 j k' d' e1 e2
      have : k' ≠ k := fun z => hj (nodup_ix nd hk (z ▸ e1))
      exact ⟨v', by rw [if_neg this]; exact h5, h6⟩
  · rw [lookup_putF, if_neg (fun z => hn (by rw [z]; exact List.mem_of_getElem? hk))]
    exact h4 k' hn
theorem js_fld {C : Addr} {kk : Str} {pos' : Pos} (i : Nat) (ho : JE c X o so) (he : JE c X e se) (cl : Cls X.K C) (na : NoAttr X.K C kk) (hs : swapsWith e (some (.Attribute o kk pos')) pos.line X.env = pure false := by rfl) : JS c X (.Assign [.Attribute o kk pos'] e pos) (sSetF C kk i so se) := by
  obtain ⟨t1, p1, z1⟩ := ho
  obtain ⟨t2, p2, z2⟩ := he
  refine ⟨_, ps_fld p1 p2 hs, fun B loc M H σ ρ D k A h E => z2 B loc M H σ ρ _ _ A h fun d1 M1 v1 B1 l1 H1 g1 r1 e1 h1 => z1 B1 l1 M1 H1 σ ρ _ _ (A.on g1 r1) h1 fun d2 M2 v2 B2 l2 H2 g2 r2 e2 h2 => ?_⟩
  cases e2 with
  | ref hi =>
    obtain ⟨ks, ds, h3, h4, q⟩ := h2
    obtain ⟨_, dn⟩ := r2.obj _ _ _ hi h3 trivial
    obtain ⟨⟨hz, nd⟩, dx, ws, h6, h7⟩ := dn
    have hc := cnt_le ds
    have hl : ws.length < 1000 := by have := h7.1; have := h7.2.1; omega
    refine ⟨_, C, dx, ws, rfl, h6, cl, na, hl, ?_⟩
    obtain ⟨r3, g3⟩ := r2.put (o := .ins C ks (ds.set i (some d1))) (ho := .ins C dx (putF kk v1 ws)) hi h3 trivial fun H' h' => ⟨⟨hz, nd⟩, dx, _, h', h7.put nd h4 (e1.go g2)⟩
    have gg := (g1.trans g2).trans g3
    exact E.nx _ _ _ _ _ _ gg r3 (A.env.go gg) q
  | _ => exact h2.elim
end
end J

namespace J
open PySem PySem.Spec PyProof.Rows L2
/-! ### what is walked -/
/-- J tells the items, while st holds of the store -/
def ItOk (K : PySem.W.Frag) (B : Hp) (loc : List Addr) (H : Hp) (J : It) (items : List D) (st : Mem → Prop) : Prop := ∀ (i : Nat) B' loc' M' H', Go B loc H B' loc' H' → Rel K B' loc' M' H' → st M' →
  (∀ d, items[i]? = some d → J.go i H' ∧ ∀ x H2, J.yld i H' x H2 → ∃ B2, Go B' loc' H' B2 loc' H2 ∧ Rel K B2 loc' M' H2 ∧ Den K B2 loc' d x) ∧ (items.length ≤ i → J.stop i H')
def JI (c : JC) (X : Cx) (tg iter : Expr) (si : SI) : Prop :=
  ∃ wi, PI X tg iter wi ∧ ∀ B loc M H σ ρ (R : It → Hp → Prop) (Qd : List D → (Mem → Prop) → Mem → Prop), At c X.K B loc M H σ ρ → si ρ M Qd →
    (∀ items st M' J B' loc' H', Go B loc H B' loc' H' → Rel X.K B' loc' M' H' → ItOk X.K B' loc' H' J items st → Qd items st M' → R J H') → wi σ H R
section
variable {c : JC} {X : Cx} {a b e o tg : Expr} {es : List Expr} {pos p : Pos} {sa sb se so : SE} {sr : SA} {x : Str}
/-- a list (a changing one must stay meanwhile) -/
def iSeq (se : SE) : SI := fun ρ M Q => se ρ M fun d M1 => match d with
  | .lst xs => Q xs (fun _ => True) M1
  | .ref r => ∃ xs, M1[r]? = some (.lst xs) ∧ Q xs (fun M => M[r]? = some (.lst xs)) M1
  | .scr ns => Q (ns.map D.int) (fun _ => True) M1
  | _ => False
def iTupD (se : SE) : SI := fun ρ M Q => se ρ M fun d M1 => match d with
  | .tup xs => Q xs (fun _ => True) M1
  | _ => False
def iStrD (se : SE) : SI := fun ρ M Q => se ρ M fun d M1 => match d with
  | .str z => Q (z.cps.toList.map fun c => .str ⟨#[c]⟩) (fun _ => True) M1
  | _ => False
theorem it_list {K : PySem.W.Frag} {B : Hp} {loc : List Addr} {H : Hp} {a : Addr} {xs : List D} {vs : List V} {st : Mem → Prop} (l : DenL K B loc xs vs) (h : ∀ B' loc' M' H', Go B loc H B' loc' H' → Rel K B' loc' M' H' → st M' → ∃ ws, SqL K H' a ws ∧ DenL K B' loc' xs ws) :
    ItOk K B loc H (Itl K a) xs st := fun i B' loc' M' H' g r s => by
  obtain ⟨ws, h1, h2⟩ := h B' loc' M' H' g r s
  refine ⟨fun d hd => ?_, fun hi => ⟨ws, h1, by rw [← h2.length]; exact hi⟩⟩
  obtain ⟨w, h3, h4⟩ := h2.get hd
  refine ⟨⟨ws, w, h1, h3⟩, fun x H2 y => ?_⟩
  obtain ⟨rfl, y⟩ := y
  have := y ws h1
  rw [h3] at this
  cases this
  exact ⟨B', .refl, r, h4⟩
theorem it_tup {K : PySem.W.Frag} {B : Hp} {loc : List Addr} {H : Hp} {a : Addr} {xs : List D} {vs : List V} {st : Mem → Prop} (s1 : SqT K B a vs) (l : DenL K B loc xs vs) : ItOk K B loc H (Itt K a) xs st := fun i B' loc' M' H' g r s => by
  have h1 : SqT K H' a vs := same_t (same_trans g.b r.ext) s1
  have h2 := l.go g
  refine ⟨fun d hd => ?_, fun hi => ⟨vs, h1, by rw [← h2.length]; exact hi⟩⟩
  obtain ⟨w, h3, h4⟩ := h2.get hd
  refine ⟨⟨vs, w, h1, h3⟩, fun x H2 y => ?_⟩
  obtain ⟨rfl, y⟩ := y
  have := y vs h1
  rw [h3] at this
  cases this
  exact ⟨B', .refl, r, h4⟩
theorem it_str {K : PySem.W.Frag} {B : Hp} {loc : List Addr} {H : Hp} {z : Str} {st : Mem → Prop} : ItOk K B loc H (Its z) (z.cps.toList.map fun c => .str ⟨#[c]⟩) st := fun i B' loc' M' H' g r s => by
  refine ⟨fun d hd => ?_, fun hi => by rw [List.length_map, Array.length_toList] at hi; exact hi⟩
  rw [List.getElem?_map, Array.getElem?_toList] at hd
  cases q : z.cps[i]? with
  | none => rw [q] at hd; cases hd
  | some ch =>
    rw [q] at hd
    cases hd
    refine ⟨(Array.getElem?_eq_some_iff.mp q).1, fun x H2 y => ?_⟩
    obtain ⟨rfl, c', h1, rfl⟩ := y
    rw [q] at h1
    cases h1
    exact ⟨B', .refl, r, .str⟩
theorem ji_list (he : JE c X e se) : JI c X tg e (iSeq se) := by
  obtain ⟨t, pe, z⟩ := he
  refine ⟨_, pi_list pe, fun B loc M H σ ρ R Qd A hs q => z B loc M H σ ρ _ _ A hs fun d M1 v B1 l1 H1 g1 r1 e1 h1 => ?_⟩
  cases e1 with
  | lst s1 dl =>
    refine ⟨_, rfl, ⟨_, SqL.of (r1.ext _ _ s1)⟩, q _ _ _ _ _ _ _ g1 r1 (it_list dl fun B' l' M' H' g r _ => ⟨_, SqL.of (r.ext _ _ (g.b _ _ s1)), dl.go g⟩) h1⟩
  | scr s1 =>
    refine ⟨_, rfl, ⟨_, r1.ext.seq s1⟩, q _ _ _ _ _ _ _ g1 r1 (it_list (denL_ints _) fun B' l' M' H' g r _ => ⟨_, r.ext.seq (g.b.seq s1), denL_ints _⟩) h1⟩
  | ref hi =>
    obtain ⟨xs, h2, h3⟩ := h1
    obtain ⟨_, vs, h4, dl⟩ := r1.obj _ _ _ hi h2 trivial
    refine ⟨_, rfl, ⟨_, SqL.of h4⟩, q _ _ _ _ _ _ _ g1 r1 (it_list dl fun B' l' M' H' g r s => ?_) h3⟩
    obtain ⟨_, ws, h5, dw⟩ := r.obj _ _ _ (pre_get g.l hi) s trivial
    exact ⟨ws, SqL.of h5, dw⟩
  | _ => exact h1.elim
theorem ji_tup (he : JE c X e se) : JI c X tg e (iTupD se) := by
  obtain ⟨t, pe, z⟩ := he
  refine ⟨_, pi_tup pe, fun B loc M H σ ρ R Qd A hs q => z B loc M H σ ρ _ _ A hs fun d M1 v B1 l1 H1 g1 r1 e1 h1 => ?_⟩
  cases e1 with
  | tup s1 dl => exact ⟨_, rfl, ⟨_, same_t r1.ext s1⟩, q _ _ _ _ _ _ _ g1 r1 (it_tup s1 dl) h1⟩
  | _ => exact h1.elim
theorem ji_str (he : JE c X e se) : JI c X tg e (iStrD se) := by
  obtain ⟨t, pe, z⟩ := he
  refine ⟨_, pi_str pe, fun B loc M H σ ρ R Qd A hs q => z B loc M H σ ρ _ _ A hs fun d M1 v B1 l1 H1 g1 r1 e1 h1 => ?_⟩
  cases e1 with
  | str => exact ⟨_, rfl, q _ _ _ _ _ _ _ g1 r1 it_str h1⟩
  | _ => exact h1.elim
/-- lo, lo + 1, .. below hi -/
def upTo (lo : Int) (n : Nat) : List D := (List.range n).map fun (i : Nat) => D.int (lo + (i : Int))
theorem upTo_get {lo : Int} {n i : Nat} {d : D} (h : (upTo lo n)[i]? = some d) : i < n ∧ d = .int (lo + (i : Int)) := by
  unfold upTo at h
  rw [List.getElem?_map] at h
  by_cases hi : i < n
  · rw [List.getElem?_range hi] at h
    exact ⟨hi, (Option.some.inj h).symm⟩
  · rw [List.getElem?_eq_none (by rw [List.length_range]; omega)] at h
    cases h
theorem it_rng {K : PySem.W.Frag} {B : Hp} {loc : List Addr} {H : Hp} {lo : Int} {n : Nat} {st : Mem → Prop} : ItOk K B loc H (Itr lo n) (upTo lo n) st := fun i B' loc' M' H' g r s => by
  refine ⟨fun d hd => ?_, fun hi => by unfold upTo at hi; rw [List.length_map, List.length_range] at hi; exact hi⟩
  obtain ⟨h1, rfl⟩ := upTo_get hd
  refine ⟨h1, fun x H2 y => ?_⟩
  obtain ⟨rfl, rfl⟩ := y
  exact ⟨B', .refl, r, .int⟩
def iRng1D (sr : SA) : SI := fun ρ M Q => sr ρ M fun ds M1 => match ds with
  | [.int j] => (-(2 ^ 62) ≤ j ∧ j < 2 ^ 62) ∧ Q (upTo 0 j.toNat) (fun _ => True) M1
  | _ => False
def iRng2D (sr : SA) : SI := fun ρ M Q => sr ρ M fun ds M1 => match ds with
  | [.int i, .int j] => (-(2 ^ 62) ≤ i ∧ i < 2 ^ 62 ∧ -(2 ^ 62) ≤ j ∧ j < 2 ^ 62) ∧ Q (upTo i (j - i).toNat) (fun _ => True) M1
  | _ => False
theorem ji_rng1 (hg : Gl X "range") (hm : X.mg "range" = none) (ha : JA c X [a] sr) (hs : starEach [a] X.env = [(false, eval a X.env)] := by rfl) : JI c X tg (.Call (.Name "range" p) [a] [] pos) (iRng1D sr) := by
  obtain ⟨t, pe, z⟩ := ha
  refine ⟨_, pi_range1 hg hm pe hs, fun B loc M H σ ρ R Qd A h q => z B loc M H σ ρ _ _ A h fun ds M1 vs B1 l1 H1 g1 r1 e1 h1 => ?_⟩
  split at h1
  · cases e1 with
    | cons e1 e2 =>
      cases e2; cases e1
      exact ⟨_, rfl, h1.1.1, h1.1.2, q _ _ _ _ _ _ _ g1 r1 it_rng h1.2⟩
  · exact h1.elim
theorem ji_rng2 (hg : Gl X "range") (hm : X.mg "range" = none) (ha : JA c X [a, b] sr) (hs : starEach [a, b] X.env = [(false, eval a X.env), (false, eval b X.env)] := by rfl) (hs2 : starEach [b] X.env = [(false, eval b X.env)] := by rfl) :
    JI c X tg (.Call (.Name "range" p) [a, b] [] pos) (iRng2D sr) := by
  obtain ⟨t, pe, z⟩ := ha
  refine ⟨_, pi_range2 hg hm pe hs hs2, fun B loc M H σ ρ R Qd A h q => z B loc M H σ ρ _ _ A h fun ds M1 vs B1 l1 H1 g1 r1 e1 h1 => ?_⟩
  split at h1
  · cases e1 with
    | cons e1 e2 =>
      cases e2 with
      | cons e2 e3 =>
        cases e3; cases e1; cases e2
        exact ⟨_, _, rfl, h1.1, q _ _ _ _ _ _ _ g1 r1 it_rng h1.2⟩
  · exact h1.elim
/-- lo, lo + s, .. -/
def byStep (lo s : Int) (n : Nat) : List D := (List.range n).map fun (i : Nat) => D.int (lo + (i : Int) * s)
theorem byStep_get {lo s : Int} {n i : Nat} {d : D} (h : (byStep lo s n)[i]? = some d) : i < n ∧ d = .int (lo + (i : Int) * s) := by
  unfold byStep at h
  rw [List.getElem?_map] at h
  by_cases hi : i < n
  · rw [List.getElem?_range hi] at h
    exact ⟨hi, (Option.some.inj h).symm⟩
  · rw [List.getElem?_eq_none (by rw [List.length_range]; omega)] at h
    cases h
theorem it_rngC {K : PySem.W.Frag} {B : Hp} {loc : List Addr} {H : Hp} {lo s : Int} {n : Nat} {st : Mem → Prop} : ItOk K B loc H (Itc lo s n) (byStep lo s n) st := fun i B' loc' M' H' g r _ => by
  refine ⟨fun d hd => ?_, fun hi => by unfold byStep at hi; rw [List.length_map, List.length_range] at hi; exact hi⟩
  obtain ⟨h1, rfl⟩ := byStep_get hd
  refine ⟨h1, fun x H2 y => ?_⟩
  obtain ⟨rfl, rfl⟩ := y
  exact ⟨B', .refl, r, .int⟩
def iRng3D (sr : SA) : SI := fun ρ M Q => sr ρ M fun ds M1 => match ds with
  | [.int i, .int j, .int s] => ∃ n, RgC i j s n ∧ Q (byStep i s n) (fun _ => True) M1
  | _ => False
theorem ji_rng3 {d : Expr} (hg : Gl X "range") (hm : X.mg "range" = none) (ha : JA c X [a, b, d] sr)
    (hs : starEach [a, b, d] X.env = (false, eval a X.env) :: starEach [b, d] X.env := by rfl) (hpl : (backTo pos (starEach [b, d] X.env)).any (·.1) = false := by rfl) : JI c X tg (.Call (.Name "range" p) [a, b, d] [] pos) (iRng3D sr) := by
  obtain ⟨t, pe, z⟩ := ha
  refine ⟨_, pi_range3 hg hm pe hs hpl, fun B loc M H σ ρ R Qd A h q => z B loc M H σ ρ _ _ A h fun ds M1 vs B1 l1 H1 g1 r1 e1 h1 => ?_⟩
  split at h1
  · cases e1 with
    | cons e1 e2 =>
      cases e2 with
      | cons e2 e3 =>
        cases e3 with
        | cons e3 e4 =>
          cases e4; cases e1; cases e2; cases e3
          obtain ⟨n, h2, h3⟩ := h1
          exact ⟨_, _, _, n, rfl, h2, q _ _ _ _ _ _ _ g1 r1 it_rngC h3⟩
  · exact h1.elim
/-- (0, x), (1, y), .. -/
def numbered : Nat → List D → List D
  | _, [] => []
  | n, x :: xs => .tup [.int (n : Int), x] :: numbered (n + 1) xs
theorem numbered_get : ∀ {xs : List D} {n i : Nat} {d : D}, (numbered n xs)[i]? = some d → ∃ y, xs[i]? = some y ∧ d = .tup [.int ((n + i : Nat) : Int), y]
  | [], _, _, _, h => by simp [numbered] at h
  | x :: xs, n, 0, d, h => by
    simp [numbered] at h
    exact ⟨x, rfl, h.symm⟩
  | x :: xs, n, i + 1, d, h => by
    obtain ⟨y, h1, h2⟩ := numbered_get (xs := xs) (n := n + 1) (i := i) (d := d) (by simpa [numbered] using h)
    exact ⟨y, by simpa using h1, by rw [h2]; congr 3; omega⟩
theorem numbered_length : ∀ (xs : List D) (n : Nat), (numbered n xs).length = xs.length
  | [], _ => rfl
  | _ :: xs, n => congrArg Nat.succ (numbered_length xs (n + 1))
theorem it_enum {K : PySem.W.Frag} {B : Hp} {loc : List Addr} {H : Hp} {a : Addr} {xs : List D} {vs : List V} {st : Mem → Prop} (l : DenL K B loc xs vs) (h : ∀ B' loc' M' H', Go B loc H B' loc' H' → Rel K B' loc' M' H' → st M' → ∃ ws, SqL K H' a ws ∧ DenL K B' loc' xs ws) :
    ItOk K B loc H (Ite K a) (numbered 0 xs) st := fun i B' loc' M' H' g r s => by
  obtain ⟨ws, h1, h2⟩ := h B' loc' M' H' g r s
  refine ⟨fun d hd => ?_, fun hi => ⟨ws, h1, by rw [← h2.length]; rw [numbered_length] at hi; exact hi⟩⟩
  obtain ⟨y, h3, rfl⟩ := numbered_get hd
  obtain ⟨w, h4, h5⟩ := h2.get h3
  refine ⟨⟨ws, w, h1, h4⟩, fun x H2 yl => ?_⟩
  obtain ⟨T, z, rfl, hT, rfl, h6⟩ := yl
  have := h6 ws h1
  rw [h4] at this
  cases this
  obtain ⟨r2, g2⟩ := r.new (o := .tup [.int (i : Nat), w]) hT
  refine ⟨_, g2, r2, .tup (SqT.of upd_same) (.cons ?_ (.cons (h5.go g2) .nil))⟩
  rw [Nat.zero_add]
  exact .int
def iEnumD (sr : SA) : SI := fun ρ M Q => sr ρ M fun ds M1 => match ds with
  | [.lst xs] => Q (numbered 0 xs) (fun _ => True) M1
  | [.ref r] => ∃ xs, M1[r]? = some (.lst xs) ∧ Q (numbered 0 xs) (fun M => M[r]? = some (.lst xs)) M1
  | _ => False
theorem ji_enum {elts : List Expr} {kk : Nat} {tpos : Pos} (hg : Gl X "enumerate") (hm : X.mg "enumerate" = none) (ha : JA c X [e] sr) (hs : starEach [e] X.env = [(false, eval e X.env)] := by rfl) :
    JI c X (.Tuple elts kk tpos) (.Call (.Name "enumerate" p) [e] [] pos) (iEnumD sr) := by
  obtain ⟨t, pe, z⟩ := ha
  refine ⟨_, pi_enum hg hm pe hs, fun B loc M H σ ρ R Qd A h q => z B loc M H σ ρ _ _ A h fun ds M1 vs B1 l1 H1 g1 r1 e1 h1 => ?_⟩
  split at h1
  · cases e1 with
    | cons e1 e2 =>
      cases e2
      cases e1 with
      | lst s1 dl => exact ⟨_, _, rfl, SqL.of (r1.ext _ _ s1), q _ _ _ _ _ _ _ g1 r1 (it_enum dl fun B' l' M' H' g r _ => ⟨_, SqL.of (r.ext _ _ (g.b _ _ s1)), dl.go g⟩) h1⟩
  · cases e1 with
    | cons e1 e2 =>
      cases e2
      cases e1 with
      | ref hi =>
        obtain ⟨xs, h2, h3⟩ := h1
        obtain ⟨_, vs, h4, dl⟩ := r1.obj _ _ _ hi h2 trivial
        refine ⟨_, _, rfl, SqL.of h4, q _ _ _ _ _ _ _ g1 r1 (it_enum dl fun B' l' M' H' g r s => ?_) h3⟩
        obtain ⟨_, ws, h5, dw⟩ := r.obj _ _ _ (pre_get g.l hi) s trivial
        exact ⟨ws, SqL.of h5, dw⟩
  · exact h1.elim
/-! ### loops -/
def loopS (st : Mem → Prop) (sg : SG) (sb : SS) (k : SK) : List D → Rho → Mem → Prop
  | [], ρ, M => st M ∧ k.nx ρ M
  | d :: r, ρ, M => st M ∧ sg d ρ M fun ρ1 M1 => sb { nx := loopS st sg sb k r, rt := k.rt, bk := k.nx, ct := loopS st sg sb k r } ρ1 M1
def sFor (si : SI) (sg : SG) (sb : SS) : SS := fun k ρ M => si ρ M fun items st M' => loopS st sg sb k items ρ M'
theorem js_for {iter : Expr} {body : List Stmt} {si : SI} {sg : SG} {sb : SS} (hp : PassesOwn (model X.prog X.w) X.A X.env X.xe) (hc : X.calm = true) (hi : JI c X tg iter si) (hg : JG c X tg sg) (hb : JSs c X body sb)
    (hs : ∀ x, foldedSetIterable iter X.env x = pure x := by intro _; rfl) : JS c X (.For tg iter body [] pos) (sFor si sg sb) := by
  obtain ⟨wi, p1, z1⟩ := hi
  obtain ⟨g, p2, z2⟩ := hg
  obtain ⟨tb, p3, z3⟩ := hb
  refine ⟨_, ps_for hp hc p1 p2 p3 hs, fun B loc M H σ ρ D k A h E => z1 B loc M H σ ρ _ _ A h fun items st M1 J B1 l1 H1 g1 r1 it h1 => ?_⟩
  let Wn : Nat → L2.St → Hp → Prop := fun i σ' H' => ∃ B' loc' M' ρ', Go B1 l1 H1 B' loc' H' ∧ Rel X.K B' loc' M' H' ∧ EnvOk X.K B' loc' σ' ρ' ∧ loopS st sg sb k (items.drop i) ρ' M'
  refine ⟨fun i m σ' H' => m = items.length - i ∧ i ≤ items.length ∧ Wn i σ' H', ⟨_, rfl, Nat.zero_le _, B1, l1, M1, ρ, .refl, r1, A.env.go g1, h1⟩, ?_⟩
  rintro i m σ' H' ⟨rfl, hi, B', l', M', ρ', gg, r, e, hl⟩
  by_cases hlt : i < items.length
  · obtain ⟨d, hd⟩ : ∃ d, items[i]? = some d := ⟨_, List.getElem?_eq_getElem hlt⟩
    have hdr : items.drop i = d :: items.drop (i + 1) := by
      rw [List.drop_eq_getElem_cons hlt]
      congr 1
      rw [List.getElem?_eq_getElem hlt] at hd
      exact Option.some.inj hd
    rw [hdr] at hl
    obtain ⟨hst, hl⟩ := hl
    obtain ⟨go, yl⟩ := (it i B' l' M' H' gg r hst).1 d hd
    refine .inr ⟨go, Wn (i + 1), fun σ2 H2 w => ⟨items.length - (i + 1), by omega, rfl, hlt, w⟩, fun x H2 y => ?_⟩
    obtain ⟨B2, g2, r2, d2⟩ := yl x H2 y
    have gA := (A.go.trans g1).trans (gg.trans g2)
    refine z2 B2 l' M' H2 σ' ρ' d x _ _ ⟨gA, r2, e.go g2⟩ d2 hl fun ρ3 M3 σ3 B3 l3 H3 g3 r3 e3 h3 => ?_
    have EE := E.go ((g1.trans gg).trans (g2.trans g3))
    refine z3 B3 l3 M3 H3 σ3 ρ3 _ _ ⟨gA.trans g3, r3, e3⟩ h3 ⟨?_, EE.rt, EE.nx, ?_⟩
    · exact fun ρ4 M4 σ4 B4 l4 H4 g4 r4 e4 h4 => ⟨B4, l4, M4, ρ4, (gg.trans g2).trans (g3.trans g4), r4, e4, h4⟩
    · exact fun ρ4 M4 σ4 B4 l4 H4 g4 r4 e4 h4 => ⟨B4, l4, M4, ρ4, (gg.trans g2).trans (g3.trans g4), r4, e4, h4⟩
  · have : items.drop i = [] := List.drop_eq_nil_of_le (by omega)
    rw [this] at hl
    exact .inl ⟨(it i B' l' M' H' gg r hl.1).2 (by omega), E.nx _ _ _ _ _ _ (g1.trans gg) r e hl.2⟩
def sWhile (t : ST) (sb : SS) : SS := fun k ρ M => ∃ W : Nat → Rho → Mem → Prop, (∃ m, W m ρ M) ∧ ∀ m ρ M, W m ρ M → t ρ M fun b M' =>
  (b = true → sb { nx := fun ρ2 M2 => ∃ m', m' < m ∧ W m' ρ2 M2, rt := k.rt, bk := k.nx, ct := fun ρ2 M2 => ∃ m', m' < m ∧ W m' ρ2 M2 } ρ M') ∧ (b = false → k.nx ρ M')
theorem js_while {cd : Expr} {body : List Stmt} {st : ST} {sb : SS} (hp : PassesOwn (model X.prog X.w) X.A X.env X.xe) (hc : JT c X cd st) (hb : JSs c X body sb) : JS c X (.While cd body [] pos) (sWhile st sb) := by
  obtain ⟨tc, p1, z1⟩ := hc
  obtain ⟨tb, p3, z3⟩ := hb
  refine ⟨_, ps_while hp p1 p3, fun B loc M H σ ρ D k A h E => ?_⟩
  obtain ⟨W, ⟨m0, w0⟩, turn⟩ := h
  let Wn : Nat → L2.St → Hp → Prop := fun m σ' H' => ∃ B' loc' M' ρ', Go B loc H B' loc' H' ∧ Rel X.K B' loc' M' H' ∧ EnvOk X.K B' loc' σ' ρ' ∧ W m ρ' M'
  refine ⟨Wn, ⟨m0, B, loc, M, ρ, .refl, A.rel, A.env, w0⟩, ?_⟩
  rintro m σ' H' ⟨B', l', M', ρ', gg, r, e, hw⟩
  refine z1 B' l' M' H' σ' ρ' _ _ ⟨A.go.trans gg, r, e⟩ (turn m ρ' M' hw) fun b M2 B2 l2 H2 g2 r2 h2 => ?_
  cases b with
  | true =>
    refine iteT ⟨fun σ3 H3 => ∃ m', m' < m ∧ Wn m' σ3 H3, fun σ3 H3 w => w, ?_⟩
    have EE := E.go (gg.trans g2)
    refine z3 B2 l2 M2 H2 σ' ρ' _ _ ⟨A.go.trans (gg.trans g2), r2, e.go g2⟩ (h2.1 rfl) ⟨?_, EE.rt, EE.nx, ?_⟩
    · rintro ρ4 M4 σ4 B4 l4 H4 g4 r4 e4 ⟨m', hm, h4⟩
      exact ⟨m', hm, B4, l4, M4, ρ4, (gg.trans g2).trans g4, r4, e4, h4⟩
    · rintro ρ4 M4 σ4 B4 l4 H4 g4 r4 e4 ⟨m', hm, h4⟩
      exact ⟨m', hm, B4, l4, M4, ρ4, (gg.trans g2).trans g4, r4, e4, h4⟩
  | false => exact iteF (E.nx _ _ _ _ _ _ (gg.trans g2) r2 (e.go g2) (h2.2 rfl))
end
end J

namespace J
open PySem PySem.Spec PyProof.Rows L2
/-! ### comprehensions -/
/-- an untracked object of ours may stand and change aside -/
theorem Rel.side {K : PySem.W.Frag} {B : Hp} {loc : List Addr} {M : Mem} {H : Hp} {p : Addr} {o : HO} (r : Rel K B loc M H) (hb : B p = none) (hl : p ∉ loc) : Rel K B loc M (upd H p o) := by
  refine ⟨fun a u e => ?_, r.len, fun i a m e1 e2 l => ?_, r.inj, fun a q => ?_, r.nt, fun i a u ps e1 e2 e3 => r.tb i a u ps e1 e2 (by rw [upd_ne (fun z => hl (by rw [← z]; exact List.mem_of_getElem? e1))] at e3; exact e3)⟩
  rotate_left 2
  · have z : a ≠ p := fun z => hl (by rw [← z]; exact q)
    rw [upd_ne z]; exact r.all a q
  · have q : a ≠ p := fun z => by rw [z, hb] at e; cases e
    rw [upd_ne q]; exact r.ext a u e
  · obtain ⟨h1, h2⟩ := r.obj i a m e1 e2 l
    have q : a ≠ p := fun z => hl (by rw [← z]; exact List.mem_of_getElem? e1)
    exact ⟨h1, h2.mono (fun _ _ e => e) List.prefix_rfl fun u e => by rw [upd_ne q]; exact e⟩
theorem Go.side {B B' : Hp} {loc loc' : List Addr} {H H' : Hp} {p : Addr} {o : HO} (g : Go B loc H B' loc' H') (h : H p = none) : Go B loc H B' loc' (upd H' p o) :=
  ⟨g.b, g.l, fun a u e n => by rw [upd_ne (ne_of_none e h)]; exact g.fr a u e n, g.nw, g.nb⟩
theorem Rel.claim {K : PySem.W.Frag} {B : Hp} {loc : List Addr} {M : Mem} {H : Hp} {p : Addr} {o : HO} (r : Rel K B loc M H) (hb : B p = none) (hl : p ∉ loc) (hp : H p = some o) (ho : ∀ ps, o ≠ .tbl ps := by intro _ z; cases z) : Rel K (upd B p o) loc M H := by
  refine ⟨fun a u e => ?_, r.len, fun i a m e1 e2 l => ?_, r.inj, r.all, nt_upd r.nt ho, r.tb⟩
  · by_cases q : a = p
    · subst q; rw [upd_same] at e; rw [hp]; exact e
    · rw [upd_ne q] at e; exact r.ext a u e
  · obtain ⟨h1, h2⟩ := r.obj i a m e1 e2 l
    have q : a ≠ p := fun z => hl (by rw [← z]; exact List.mem_of_getElem? e1)
    exact ⟨by rw [upd_ne q]; exact h1, h2.mono (same_new hb) List.prefix_rfl fun u e => e⟩
theorem Go.claim {B B' : Hp} {loc loc' : List Addr} {H H' : Hp} {p : Addr} {o : HO} (g : Go B loc H B' loc' H') (h : H p = none) (hb : B' p = none) : Go B loc H (upd B' p o) loc' H' :=
  ⟨same_trans g.b (same_new hb), g.l, g.fr, g.nw, fun a u e => by
    by_cases q : a = p
    · subst q; exact .inr (.inl h)
    · rw [upd_ne q] at e; exact g.nb a u e⟩
/-- a target that stores within the block's own slots -/
def JGc (vs : List Nat) (c : JC) (X : Cx) (tg : Expr) (sg : SG) : Prop :=
  ∃ g, PG X tg g ∧ ∀ B loc M H σ ρ d v (Q : L2.St → Hp → Prop) (Qd : Rho → Mem → Prop), At c X.K B loc M H σ ρ → Den X.K B loc d v → sg d ρ M Qd →
    (∀ ρ M' σ' B' loc' H', Go B loc H B' loc' H' → Rel X.K B' loc' M' H' → EnvOk X.K B' loc' σ' ρ → L2.wipe σ' vs = L2.wipe σ vs → Qd ρ M' → Q σ' H') → g v σ H Q
theorem wipe_set {σ : L2.St} {i : Nat} {v : Option V} : ∀ {vs : List Nat}, i ∈ vs → L2.wipe (σ.set i v) vs = L2.wipe σ vs
  | [], h => by cases h
  | j :: vs, h => by
    unfold L2.wipe
    by_cases hj : i ∈ vs
    · rw [wipe_set hj]
    · have e : i = j := by
        rcases List.mem_cons.mp h with z | z
        · exact z
        · exact absurd z hj
      subst e
      have key : ∀ ws : List Nat, i ∉ ws → L2.wipe (σ.set i v) ws = (L2.wipe σ ws).set i v := by
        intro ws
        induction ws with
        | nil => intro _; rfl
        | cons w ws ih =>
          intro hn
          unfold L2.wipe
          rw [ih (fun z => hn (List.mem_cons_of_mem _ z)), List.set_comm]
          exact fun z => hn (by rw [z]; exact List.mem_cons_self)
      rw [key vs hj, List.set_set]
section
variable {c : JC} {X : Cx} {a b e o tg elt iter : Expr} {es ifs : List Expr} {pos p : Pos} {sa sb se so : SE} {sr : SA} {x : Str} {vs : List Nat}
theorem jgc_name {i : Nat} (hN : X.N.Nodup) (hi : X.N[i]? = some x) (hx : Loc X.env.scope x) (hv : i ∈ vs := by decide) (hf : X.fn x = true ∨ X.env.scope.names.lookup x = some .local := by first | exact .inl rfl | exact .inr rfl | assumption) : JGc vs c X (.Name x pos) (gVar i) :=
  ⟨_, pg_name hN hi hx hf, fun B loc M H σ ρ d v Q Qd A e h t => t _ _ _ _ _ _ .refl A.rel (A.env.set e i) (wipe_set hv) h⟩
def JGcs (vs : List Nat) (c : JC) (X : Cx) (ts : List Expr) (sg : SGs) : Prop :=
  ∃ g, PGs X ts g ∧ ∀ B loc M H σ ρ ds ws (Q : L2.St → Hp → Prop) (Qd : Rho → Mem → Prop), At c X.K B loc M H σ ρ → DenL X.K B loc ds ws → sg ds ρ M Qd →
    (∀ ρ M' σ' B' loc' H', Go B loc H B' loc' H' → Rel X.K B' loc' M' H' → EnvOk X.K B' loc' σ' ρ → L2.wipe σ' vs = L2.wipe σ vs → Qd ρ M' → Q σ' H') → g ws σ H Q
theorem jgcs_nil : JGcs vs c X [] gsNil := ⟨_, pgs_nil, fun B loc M H σ ρ ds ws Q Qd A e h t => by
  cases e with
  | nil => exact ⟨rfl, t _ _ _ _ _ _ .refl A.rel A.env rfl h⟩
  | cons _ _ => exact h.elim⟩
theorem jgcs_cons {g : SG} {r : SGs} (h1 : JGc vs c X e g) (h2 : JGcs vs c X es r) (hst : (assignEach (e :: es) X.env).map (·.2) = assign e X.env :: (assignEach es X.env).map (·.2) := by rfl) : JGcs vs c X (e :: es) (gsCons g r) := by
  obtain ⟨g1, p1, z1⟩ := h1
  obtain ⟨g2, p2, z2⟩ := h2
  refine ⟨_, pgs_cons p1 p2 hst, fun B loc M H σ ρ ds ws Q Qd A e h t => ?_⟩
  cases e with
  | nil => exact h.elim
  | cons e1 e2 =>
    exact ⟨_, _, rfl, z1 B loc M H σ ρ _ _ _ _ A e1 h fun ρ' M' σ' B' l' H' g r e w h' => z2 B' l' M' H' σ' ρ' _ _ Q Qd ⟨A.go.trans g, r, e⟩ (e2.go g) h' fun ρ2 M2 σ2 B2 l2 H2 g2 r2 e2 w2 h2 => t _ _ _ _ _ _ (g.trans g2) r2 e2 (w2.trans w) h2⟩
theorem jgc_tup {kk n : Nat} {r : SGs} (hc : X.calm = true) (h : JGcs vs c X es r) (hn : (assignEach es X.env).length = n := by rfl) (hst : (assignEach es X.env).findIdx? (·.1) = none := by rfl) : JGc vs c X (.Tuple es kk pos) (gTupD n r) := by
  obtain ⟨g1, p1, z1⟩ := h
  refine ⟨_, pg_tup hc p1 hn hst, fun B loc M H σ ρ d v Q Qd A e h t => ?_⟩
  cases e with
  | tup s1 l1 => exact ⟨_, _, rfl, same_t A.rel.ext s1, by rw [← l1.length]; exact h.1, z1 B loc M H σ ρ _ _ Q Qd A l1 h.2 t⟩
  | _ => exact h.elim
def JTs (c : JC) (X : Cx) (ifs : List Expr) (st : ST) : Prop :=
  ∃ tt, PTs X ifs tt ∧ ∀ B loc M H σ ρ (Q : Bool → Hp → Prop) (Qd : Bool → Mem → Prop), At c X.K B loc M H σ ρ → st ρ M Qd → Tt X.K B loc H Qd Q → tt σ H Q
def sYes : ST := fun _ M Q => Q true M
theorem jts_nil : JTs c X [] sYes := ⟨_, pts_nil, fun B loc M H σ ρ Q Qd A h t => t _ _ _ _ _ .refl A.rel h⟩
theorem jts_one {t : ST} (h : JT c X e t) : JTs c X [e] t := by
  obtain ⟨tt, pt, z⟩ := h
  exact ⟨tt, pts_one pt, z⟩
/-- what is made of each item that the test keeps -/
def compS (st : Mem → Prop) (sg : SG) (tt : ST) (se : SE) (ρ0 : Rho) (fin : List D → Mem → Prop) : List D → List D → Mem → Prop
  | [], acc, M => st M ∧ fin acc M
  | d :: r, acc, M => st M ∧ sg d ρ0 M fun ρ1 M1 => tt ρ1 M1 fun b M2 => (b = true → se ρ1 M2 fun y M3 => acc.length < sizeLine ∧ compS st sg tt se ρ0 fin r (acc ++ [y]) M3) ∧ (b = false → compS st sg tt se ρ0 fin r acc M2)
def sLc (si : SI) (sg : SG) (tt : ST) (se : SE) (vs : List Nat) : SE := fun ρ M Q => si ρ M fun items st M1 => compS st sg tt se (wipeR ρ vs) (fun acc M' => Q (.lst acc) M') items [] M1
def sLcM (si : SI) (sg : SG) (tt : ST) (se : SE) (vs : List Nat) : SE := fun ρ M Q => si ρ M fun items st M1 => compS st sg tt se (wipeR ρ vs) (fun acc M' => Q (.ref M'.length) (M' ++ [.lst acc])) items [] M1
/-- the reading's soundness: what the list is in the end, by its address -/
theorem lc_ok {wi : TI} {g : TG} {tt : TT} {te : TE} {si : SI} {sg : SG} {st : ST} {fin : List D → Mem → Prop}
    (z1 : ∀ B loc M H σ ρ (R : It → Hp → Prop) (Qd : List D → (Mem → Prop) → Mem → Prop), At c X.K B loc M H σ ρ → si ρ M Qd →
      (∀ items st M' J B' loc' H', Go B loc H B' loc' H' → Rel X.K B' loc' M' H' → ItOk X.K B' loc' H' J items st → Qd items st M' → R J H') → wi σ H R)
    (zg : ∀ B loc M H σ ρ d v (Q : L2.St → Hp → Prop) (Qd : Rho → Mem → Prop), At c.in X.K B loc M H σ ρ → Den X.K B loc d v → sg d ρ M Qd →
      (∀ ρ M' σ' B' loc' H', Go B loc H B' loc' H' → Rel X.K B' loc' M' H' → EnvOk X.K B' loc' σ' ρ → L2.wipe σ' vs = L2.wipe σ vs → Qd ρ M' → Q σ' H') → g v σ H Q)
    (zt : ∀ B loc M H σ ρ (Q : Bool → Hp → Prop) (Qd : Bool → Mem → Prop), At c.in X.K B loc M H σ ρ → st ρ M Qd → Tt X.K B loc H Qd Q → tt σ H Q)
    (ze : ∀ B loc M H σ ρ Q Qd, At c.in X.K B loc M H σ ρ → se ρ M Qd → To X.K B loc H Qd Q → te σ H Q)
    {B : Hp} {loc : List Addr} {M : Mem} {H : Hp} {σ : L2.St} {ρ : Rho} {Q : VK} (A : At c X.K B loc M H σ ρ) (hs : si ρ M fun items st' M1 => compS st' sg st se (wipeR ρ vs) fin items [] M1)
    (t : ∀ acc M' ws p B' loc' H', Go B loc H B' loc' H' → Rel X.K B' loc' M' H' → H p = none → B' p = none → p ∉ loc' → H' p = some (.lst ws) → DenL X.K B' loc' acc ws → fin acc M' → Q (.ref p) H') : tLc wi g tt te vs σ H Q := by
  refine z1 B loc M H σ ρ _ _ A hs fun items st' M1 J B1 l1 H1 g1 r1 it h1 => ?_
  intro p hp
  have pl1 : p ∉ l1 := fun q => by
    obtain ⟨o, e⟩ := r1.all p q
    rw [hp] at e; cases e
  have pl : p ∉ loc := fun q => pl1 (by obtain ⟨z, hz⟩ := g1.l; rw [← hz]; exact List.mem_append_left _ q)
  have hpH : H p = none := by
    cases e : H p with
    | none => rfl
    | some u => rw [g1.fr p u e pl] at hp; cases hp
  have b1 : B1 p = none := by
    cases e : B1 p with
    | none => rfl
    | some u => rw [r1.ext p u e] at hp; cases hp
  -- behind i turns
  let Wn : Nat → Hp → Prop := fun i H' => ∃ B' l' M' acc ws, Go B1 l1 H1 B' l' H' ∧ Rel X.K B' l' M' H' ∧ B' p = none ∧ p ∉ l' ∧ H' p = some (.lst ws) ∧ DenL X.K B' l' acc ws ∧ compS st' sg st se (wipeR ρ vs) fin (items.drop i) acc M'
  refine ⟨fun i m H' => m = items.length - i ∧ i ≤ items.length ∧ Wn i H', ⟨_, rfl, Nat.zero_le _, B1, l1, M1, [], [], Go.refl.side hp, r1.side b1 pl1, b1, pl1, upd_same, .nil, h1⟩, ?_⟩
  rintro i m H' ⟨rfl, hi, B', l', M', acc, ws, gg, r, bp, lp, hw, dw, hl⟩
  by_cases hlt : i < items.length
  · obtain ⟨d, hd⟩ : ∃ d, items[i]? = some d := ⟨_, List.getElem?_eq_getElem hlt⟩
    have hdr : items.drop i = d :: items.drop (i + 1) := by
      rw [List.drop_eq_getElem_cons hlt]
      congr 1
      rw [List.getElem?_eq_getElem hlt] at hd
      exact Option.some.inj hd
    rw [hdr] at hl
    obtain ⟨hst, hl⟩ := hl
    obtain ⟨go, yl⟩ := (it i B' l' M' H' gg r hst).1 d hd
    refine .inr ⟨go, Wn (i + 1), fun H2 w => ⟨items.length - (i + 1), by omega, rfl, hlt, w⟩, fun x H2 y => ?_⟩
    obtain ⟨B2, g2, r2, d2⟩ := yl x H2 y
    -- p through a step
    have keep : ∀ {B3 l3 H3}, Go B' l' H' B3 l3 H3 → Same B3 H3 → B3 p = none ∧ p ∉ l3 ∧ H3 p = some (.lst ws) := fun {B3 l3 H3} g x3 => by
      refine ⟨?_, fun q => ?_, g.fr p _ hw lp⟩
      · cases e : B3 p with
        | none => rfl
        | some u =>
          rcases g.nb p u e with z | z | z | ⟨φ, z⟩
          · rw [bp] at z; cases z
          · rw [hw] at z; cases z
          · exact absurd z lp
          · have q := x3 p u e
            rw [g.fr p _ hw lp, z] at q
            cases q
      · rcases g.nw p q with z | z
        · exact lp z
        · rw [hw] at z; cases z
    have gA := (A.go.trans g1).trans (gg.trans g2)
    refine zg B2 l' M' H2 _ _ d x _ _ ⟨gA, r2, (A.env.go (g1.trans (gg.trans g2))).wipe vs⟩ d2 hl fun ρ3 M3 σ3 B3 l3 H3 g3 r3 e3 w3 h3 => ⟨?_, ?_⟩
    · rw [w3]
      have : ∀ ws : List Nat, L2.wipe (L2.wipe σ ws) ws = L2.wipe σ ws := by
        intro ws
        induction ws with
        | nil => rfl
        | cons w ws ih =>
          show L2.wipe ((L2.wipe σ ws).set w none) (w :: ws) = _
          rw [wipe_set List.mem_cons_self]
          show (L2.wipe (L2.wipe σ ws) ws).set w none = _
          rw [ih]; rfl
      exact this vs
    refine zt B3 l3 M3 H3 σ3 ρ3 _ _ ⟨gA.trans g3, r3, e3⟩ h3 fun b M4 B4 l4 H4 g4 r4 h4 => ?_
    cases b with
    | true =>
      refine iteT (ze B4 l4 M4 H4 σ3 ρ3 _ _ ⟨(gA.trans g3).trans g4, r4, e3.go g4⟩ (h4.1 rfl) fun d5 M5 v5 B5 l5 H5 g5 r5 e5 h5 => ?_)
      have gs := ((g2.trans g3).trans g4).trans g5
      obtain ⟨k1, k2, k3⟩ := keep gs r5.ext
      have dw5 := dw.go gs
      refine ⟨ws, k3, by rw [← dw5.length]; exact h5.1, B5, l5, M5, acc ++ [d5], ws ++ [v5], (gg.trans gs).side hp, r5.side k1 k2, k1, k2, upd_same, dw5.append (.cons e5 .nil), h5.2⟩
    | false =>
      have gs := (g2.trans g3).trans g4
      obtain ⟨k1, k2, k3⟩ := keep gs r4.ext
      exact iteF ⟨B4, l4, M4, acc, ws, gg.trans gs, r4, k1, k2, k3, dw.go gs, h4.2 rfl⟩
  · have : items.drop i = [] := List.drop_eq_nil_of_le (by omega)
    rw [this] at hl
    exact .inl ⟨(it i B' l' M' H' gg r hl.1).2 (by omega), t acc M' ws p B' l' H' (g1.trans gg) r hpH bp lp hw dw hl.2⟩
theorem lc_frz {K : PySem.W.Frag} {B : Hp} {loc : List Addr} {H : Hp} {Qd : SQ} {Q : VK} (t : To K B loc H Qd Q) : ∀ (acc : List D) (M' : Mem) (ws : List V) (p : Addr) (B' : Hp) (loc' : List Addr) (H' : Hp), Go B loc H B' loc' H' → Rel K B' loc' M' H' → H p = none → B' p = none → p ∉ loc' → H' p = some (.lst ws) → DenL K B' loc' acc ws → Qd (.lst acc) M' → Q (.ref p) H' :=
  fun acc M' ws p B' l' H' g r hp bp lp hw dw h => t _ _ _ _ _ _ (g.claim (o := .lst ws) hp bp) (r.claim bp lp hw) (.lst upd_same (dw.mono (same_new bp) List.prefix_rfl)) h
theorem je_lc {scope : Scope} {own : List (Str × Nat)} {si : SI} {sg : SG} {st : ST} (hc : X.calm = true) (hN : X.N.Nodup) (hi : JI c X tg iter si) (ok : BlkOk X.N X.env.scope scope own)
    (hg : ∀ (s : Shared) (H : Hp) (C : Addr) (cl : List (Str × Addr)) (fp : List Addr), JGc (own.map (·.2)) c.in (X.blk s H scope (compEnvC scope cl C X.env) fp) tg sg)
    (ht : ∀ (s : Shared) (H : Hp) (C : Addr) (cl : List (Str × Addr)) (fp : List Addr), JTs c.in (X.blk s H scope (compEnvC scope cl C X.env) fp) ifs st)
    (he : ∀ (s : Shared) (H : Hp) (C : Addr) (cl : List (Str × Addr)) (fp : List Addr), JE c.in (X.blk s H scope (compEnvC scope cl C X.env) fp) elt se) (hs : ∀ x, foldedSetIterable iter X.env x = pure x := by intro _; rfl) :
    JE c X (.ListComp elt [⟨tg, iter, ifs, 0⟩] scope pos) (sLc si sg st se (own.map (·.2))) := by
  obtain ⟨wi, p1, z1⟩ := hi
  refine ⟨tLc wi (fun v σ H Q => ∀ s H0 C cl fp, Classical.choose (hg s H0 C cl fp) v σ H Q) (fun σ H Q => ∀ s H0 C cl fp, Classical.choose (ht s H0 C cl fp) σ H Q) (fun σ H Q => ∀ s H0 C cl fp, Classical.choose (he s H0 C cl fp) σ H Q) (own.map (·.2)), ?_, ?_⟩
  · refine pe_lc hc hN p1 ok (fun s H C cl fp => ?_) (fun s H C cl fp => ?_) (fun s H C cl fp => ?_) hs
    · have z := (Classical.choose_spec (hg s H C cl fp)).1
      exact ⟨fun pins s' σ H' v u Q I r h => z.run pins s' σ H' v u Q I r (h s H C cl fp)⟩
    · have z := (Classical.choose_spec (ht s H C cl fp)).1
      exact ⟨fun pins s' σ H' Q I h => z.run pins s' σ H' Q I (h s H C cl fp)⟩
    · have z := (Classical.choose_spec (he s H C cl fp)).1
      exact ⟨fun pins s' σ H' Q I h => z.run pins s' σ H' Q I (h s H C cl fp)⟩
  · intro B loc M H σ ρ Q Qd A h t
    refine lc_ok (fin := fun acc M' => Qd (.lst acc) M') z1 ?_ ?_ ?_ A h (lc_frz t)
    · exact fun B loc M H σ ρ d v Q Qd A e h t s H0 C cl fp => (Classical.choose_spec (hg s H0 C cl fp)).2 B loc M H σ ρ d v Q Qd A e h t
    · exact fun B loc M H σ ρ Q Qd A h t s H0 C cl fp => (Classical.choose_spec (ht s H0 C cl fp)).2 B loc M H σ ρ Q Qd A h t
    · exact fun B loc M H σ ρ Q Qd A h t s H0 C cl fp => (Classical.choose_spec (he s H0 C cl fp)).2 B loc M H σ ρ Q Qd A h t
theorem js_setLc {i : Nat} {y : Str} {py spos : Pos} {scope : Scope} {own : List (Str × Nat)} {si : SI} {sg : SG} {st : ST} (hc : X.calm = true) (hN : X.N.Nodup) (hy : X.N[i]? = some y) (hyl : X.env.scope.names.lookup y = some .local)
    (hsw : swapsWith (.ListComp elt [⟨tg, iter, ifs, 0⟩] scope pos) (some (.Name y py)) spos.line X.env = pure true) (hi : JI c X tg iter si) (ok : BlkOk X.N X.env.scope scope own)
    (hg : ∀ (s : Shared) (H : Hp) (C : Addr) (cl : List (Str × Addr)) (fp : List Addr), JGc (own.map (·.2)) c.in (X.blk s H scope (compEnvC scope cl C X.env) fp) tg sg)
    (ht : ∀ (s : Shared) (H : Hp) (C : Addr) (cl : List (Str × Addr)) (fp : List Addr), JTs c.in (X.blk s H scope (compEnvC scope cl C X.env) fp) ifs st)
    (he : ∀ (s : Shared) (H : Hp) (C : Addr) (cl : List (Str × Addr)) (fp : List Addr), JE c.in (X.blk s H scope (compEnvC scope cl C X.env) fp) elt se) (hs : ∀ x, foldedSetIterable iter X.env x = pure x := by intro _; rfl) :
    JS c X (.Assign [.Name y py] (.ListComp elt [⟨tg, iter, ifs, 0⟩] scope pos) spos) (sAsg (sLc si sg st se (own.map (·.2))) (gVar i)) := by
  obtain ⟨wi, p1, z1⟩ := hi
  refine ⟨tAsg (tLc wi (fun v σ H Q => ∀ s H0 C cl fp, Classical.choose (hg s H0 C cl fp) v σ H Q) (fun σ H Q => ∀ s H0 C cl fp, Classical.choose (ht s H0 C cl fp) σ H Q) (fun σ H Q => ∀ s H0 C cl fp, Classical.choose (he s H0 C cl fp) σ H Q) (own.map (·.2))) (gName i), ?_, ?_⟩
  · refine ps_setLc hc hN hy hyl hsw p1 ok (fun s H C cl fp => ?_) (fun s H C cl fp => ?_) (fun s H C cl fp => ?_) hs
    · have z := (Classical.choose_spec (hg s H C cl fp)).1
      exact ⟨fun pins s' σ H' v u Q I r h => z.run pins s' σ H' v u Q I r (h s H C cl fp)⟩
    · have z := (Classical.choose_spec (ht s H C cl fp)).1
      exact ⟨fun pins s' σ H' Q I h => z.run pins s' σ H' Q I (h s H C cl fp)⟩
    · have z := (Classical.choose_spec (he s H C cl fp)).1
      exact ⟨fun pins s' σ H' Q I h => z.run pins s' σ H' Q I (h s H C cl fp)⟩
  · intro B loc M H σ ρ D k A h E
    refine lc_ok (fin := fun acc M' => k.nx (ρ.set i (some (.lst acc))) M') z1 ?_ ?_ ?_ A h (lc_frz (Qd := fun d M' => k.nx (ρ.set i (some d)) M') (Q := fun x H1 => gName i x σ H1 D.nx) fun d M' v B' l' H' g r e h' => E.nx _ _ _ _ _ _ g r ((A.env.go g).set e i) h')
    · exact fun B loc M H σ ρ d v Q Qd A e h t s H0 C cl fp => (Classical.choose_spec (hg s H0 C cl fp)).2 B loc M H σ ρ d v Q Qd A e h t
    · exact fun B loc M H σ ρ Q Qd A h t s H0 C cl fp => (Classical.choose_spec (ht s H0 C cl fp)).2 B loc M H σ ρ Q Qd A h t
    · exact fun B loc M H σ ρ Q Qd A h t s H0 C cl fp => (Classical.choose_spec (he s H0 C cl fp)).2 B loc M H σ ρ Q Qd A h t
end
end J

namespace J
open PySem PySem.Spec PyProof.Rows L2
/-! ### raise -/
def sRaise (C : Addr) (Ed : Addr → Mem → Prop) : SS := fun _ _ M => Ed C M
section
variable {c : JC} {X : Cx} {C : Addr} {x m : Str} {j : Nat} {p p2 pos pos' : Pos}
theorem js_raise (jx : JX c X) (tk : L2N.Takes X (fun cls d _ H => c.E cls d H)) (hc : X.calm = true) (q : PySem.W.excIn X.K C He.veBase "ValueError.__new__" = true) (gC : X.mg x = some (.ref C)) (kC : PySem.W.keepIn X.K (.ref C) = true)
    (h1 : PySem.W.subIn X.K (.ref C) (.type "BaseException") = some true) (h2 : PySem.W.typeIn X.K (.ref C) = some (.type "type")) (hg : Gl X x) (hdb : (x == ("__debug__" : Str)) = false := by decide) :
    JS c X (.Raise (some (.Call (.Name x p) [.Constant (.str m) j p2] [] pos')) none pos) (sRaise C c.Ed) :=
  ⟨_, L2N.ps_raise hc tk (L2N.pmk_own PySem.F.excBase_ValueError q gC kC (raises_own h1 h2) hg hdb), fun B loc M H σ ρ D k A h E => jx.ok _ _ _ _ _ A.go A.rel h⟩
end
/-! ### a def -/
mutual
def D.lt (n : Nat) : D → Bool
  | .ref i => decide (i < n)
  | .tup xs => D.ltL n xs
  | .lst xs => D.ltL n xs
  | _ => true
def D.ltL (n : Nat) : List D → Bool
  | [] => true
  | x :: xs => D.lt n x && D.ltL n xs
end
section
variable {K : PySem.W.Frag} {B : Hp} {loc : List Addr}
mutual
theorem den_lt : ∀ {d : D} {v : V}, Den K B loc d v → d.lt loc.length = true
  | _, _, .non => rfl
  | _, _, .bl => rfl
  | _, _, .int => rfl
  | _, _, .str => rfl
  | _, _, .scr _ => rfl
  | _, _, .adr => rfl
  | _, _, .tup _ r => denL_lt r
  | _, _, .lst _ r => denL_lt r
  | _, _, .ref h => decide_eq_true (List.getElem?_eq_some_iff.mp h).1
theorem denL_lt : ∀ {ds : List D} {vs : List V}, DenL K B loc ds vs → D.ltL loc.length ds = true
  | _, _, .nil => rfl
  | _, _, .cons h r => by
    show (_ && _) = true
    rw [den_lt h, denL_lt r]; rfl
end
mutual
theorem den_cut {n : Nat} : ∀ {d : D} {v : V}, Den K B loc d v → d.lt n = true → Den K B (loc.take n) d v
  | _, _, .non, _ => .non
  | _, _, .bl, _ => .bl
  | _, _, .int, _ => .int
  | _, _, .str, _ => .str
  | _, _, .scr h, _ => .scr h
  | _, _, .adr, _ => .adr
  | _, _, .tup s r, h => .tup s (denL_cut r h)
  | _, _, .lst s r, h => .lst s (denL_cut r h)
  | _, _, .ref q, h => .ref (by rw [List.getElem?_take_of_lt (of_decide_eq_true h)]; exact q)
theorem denL_cut {n : Nat} : ∀ {ds : List D} {vs : List V}, DenL K B loc ds vs → D.ltL n ds = true → DenL K B (loc.take n) ds vs
  | _, _, .nil, _ => .nil
  | d :: ds, _, .cons h r, q => by
    obtain ⟨q1, q2⟩ := Bool.and_eq_true_iff.mp (show (D.lt n d && D.ltL n ds) = true from q)
    exact .cons (den_cut h q1) (denL_cut r q2)
end
end
def MO.lt (n : Nat) : MO → Bool
  | .dead => true
  | .tab _ _ => true
  | .lst xs => D.ltL n xs
  | .dic kvs => kvs.all fun kv => kv.2.lt n
  | .lck _ kvs => kvs.all fun kv => kv.2.lt n
  | .rcd _ ds => D.ltL n ds
  | .ins _ _ ds => ds.all fun d => match d with
    | some d => d.lt n
    | none => true
section
variable {K : PySem.W.Frag} {B : Hp} {loc : List Addr} {a : Addr} {H : Hp}
theorem kv_cut {n : Nat} : ∀ {kvs : List (Int × D)} {ws : List (Key × V)}, DenKV K B loc kvs ws → (kvs.all fun kv => kv.2.lt n) = true → DenKV K B (loc.take n) kvs ws
  | _, _, .nil, _ => .nil
  | _, _, .cons h r, q => by
    rw [List.all_cons, Bool.and_eq_true] at q
    exact .cons (den_cut h q.1) (kv_cut r q.2)
theorem sv_cut {n : Nat} : ∀ {ks : List Str} {ds : List D} {ws : List (Key × V)}, DenSV K B loc ks ds ws → D.ltL n ds = true → DenSV K B (loc.take n) ks ds ws
  | _, _, _, .nil, _ => .nil
  | _, d :: ds, _, .cons h r, q => by
    obtain ⟨q1, q2⟩ := Bool.and_eq_true_iff.mp (show (D.lt n d && D.ltL n ds) = true from q)
    exact .cons (den_cut h q1) (sv_cut r q2)
theorem denO_cut {n : Nat} : ∀ {o : MO}, DenO K B loc a H o → o.lt n = true → DenO K B (loc.take n) a H o
  | .dead, _, _ => trivial
  | .tab _ _, z, _ => z
  | .lst _, ⟨vs, h, r⟩, q => ⟨vs, h, denL_cut r q⟩
  | .dic _, ⟨ws, h, r, nd⟩, q => ⟨ws, h, kv_cut r q, nd⟩
  | .lck _ _, ⟨h, od, ws, eh, r, nd⟩, q => ⟨h, od, ws, eh, kv_cut r q, nd⟩
  | .rcd _ _, ⟨nd, ws, h, r⟩, q => ⟨nd, ws, h, sv_cut r q⟩
  | .ins _ ks ds, ⟨z, dx, ws, h, r⟩, q => ⟨z, dx, ws, h, r.1, r.2.1, fun i k d e1 e2 => by
      obtain ⟨v, e3, e4⟩ := r.2.2.1 i k d e1 e2
      have := List.all_eq_true.mp q (some d) (List.mem_of_getElem? e2)
      exact ⟨v, e3, den_cut e4 this⟩, r.2.2.2⟩
theorem kv_lt : ∀ {kvs : List (Int × D)} {ws : List (Key × V)}, DenKV K B loc kvs ws → (kvs.all fun kv => kv.2.lt loc.length) = true
  | _, _, .nil => rfl
  | _, _, .cons h r => by
    rw [List.all_cons, Bool.and_eq_true]
    exact ⟨den_lt h, kv_lt r⟩
theorem sv_lt : ∀ {ks : List Str} {ds : List D} {ws : List (Key × V)}, DenSV K B loc ks ds ws → D.ltL loc.length ds = true
  | _, _, _, .nil => rfl
  | _, _, _, .cons h r => by
    show (_ && _) = true
    rw [den_lt h, sv_lt r]; rfl
theorem denO_lt : ∀ {o : MO}, DenO K B loc a H o → o.lt loc.length = true
  | .dead, _ => rfl
  | .tab _ _, _ => rfl
  | .lst _, ⟨vs, h, r⟩ => denL_lt r
  | .dic _, ⟨ws, h, r, nd⟩ => kv_lt r
  | .lck _ _, ⟨h, od, ws, eh, r, nd⟩ => kv_lt r
  | .rcd _ _, ⟨nd, ws, h, r⟩ => sv_lt r
  | .ins _ ks ds, ⟨z, dx, ws, h, r⟩ => List.all_eq_true.mpr fun d hd => by
      cases d with
      | none => rfl
      | some d =>
        obtain ⟨i, hi⟩ := List.getElem?_of_mem hd
        have hk : i < ks.length := by rw [← r.1]; exact (List.getElem?_eq_some_iff.mp hi).1
        obtain ⟨v, _, e⟩ := r.2.2.1 i _ d (List.getElem?_eq_getElem hk) hi
        exact den_lt e
end
/-- what the store holds behind its first n objects is given up: what stays names none of it -/
def Cut (M0 : Mem) (d : D) (M' M'' : Mem) : Prop := M'' = M'.take M0.length ∧ d.lt M0.length = true ∧ ∀ (i : Nat) (o : MO), i < M0.length → M'[i]? = some o → M0[i]? = some o ∨ o.lt M0.length = true
theorem Cut.same {M0 E : Mem} {d : D} (h : d.lt M0.length = true) : Cut M0 d (M0 ++ E) M0 :=
  ⟨by rw [List.take_left], h, fun i o hi e => .inl (by rw [List.getElem?_append_left hi] at e; exact e)⟩
theorem cut_rel {K : PySem.W.Frag} {B B' : Hp} {loc loc' : List Addr} {M0 M' M'' : Mem} {H H' : Hp} {d : D} {v : V} (r0 : Rel K B loc M0 H) (g : Go B loc H B' loc' H') (r : Rel K B' loc' M' H') (e : Den K B' loc' d v) (c : Cut M0 d M' M'') :
    Go B loc H B' loc H' ∧ Rel K B' loc M'' H' ∧ Den K B' loc d v := by
  obtain ⟨rfl, c2, c3⟩ := c
  have hl : loc'.take M0.length = loc := by
    obtain ⟨t, ht⟩ := g.l
    rw [← ht, ← r0.len, List.take_left]
  refine ⟨⟨g.b, List.prefix_rfl, g.fr, fun _ q => .inl q, g.nb⟩, ⟨r.ext, ?_, fun i a o e1 e2 l => ?_, fun i j a o u e1 e2 e3 e4 l1 l2 => ?_, fun a q => r.all a (by obtain ⟨t, ht⟩ := g.l; rw [← ht]; exact List.mem_append_left _ q), r.nt, fun i a o ps e1 e2 e3 => r.tb i a o ps (pre_get g.l e1) (by rw [List.getElem?_take_of_lt (by rw [← r0.len]; exact (List.getElem?_eq_some_iff.mp e1).1)] at e2; exact e2) e3⟩, by
    have := den_cut e c2
    rw [hl] at this; exact this⟩
  · rw [List.length_take, ← hl, List.length_take, r.len]
  · have hi : i < M0.length := by rw [← r0.len]; exact (List.getElem?_eq_some_iff.mp e1).1
    rw [List.getElem?_take_of_lt hi] at e2
    obtain ⟨h1, h2⟩ := r.obj i a o (pre_get g.l e1) e2 l
    refine ⟨h1, ?_⟩
    have z : o.lt M0.length = true := by
      rcases c3 i o hi e2 with q | q
      · have := denO_lt (r0.obj i a o e1 q l).2
        rw [r0.len] at this; exact this
      · exact q
    have := denO_cut h2 z
    rw [hl] at this; exact this
  · have hi : i < M0.length := by rw [← r0.len]; exact (List.getElem?_eq_some_iff.mp e1).1
    have hj : j < M0.length := by rw [← r0.len]; exact (List.getElem?_eq_some_iff.mp e2).1
    rw [List.getElem?_take_of_lt hi] at e3
    rw [List.getElem?_take_of_lt hj] at e4
    exact r.inj i j a o u (pre_get g.l e1) (pre_get g.l e2) e3 e4 l1 l2
def startR (n : Nat) (ds : List D) : Rho := ds.map some ++ List.replicate (n - ds.length) none
theorem start_env {K : PySem.W.Frag} {B : Hp} {loc : List Addr} {N : List Str} {ds : List D} {vs : List V} (h : DenL K B loc ds vs) : EnvOk K B loc (L2.start N vs) (startR N.length ds) := by
  have hl := h.length
  refine ⟨by unfold L2.start startR; simp only [List.length_append, List.length_map, List.length_replicate, hl], fun i d e => ?_⟩
  unfold startR at e
  by_cases hi : i < ds.length
  · rw [List.getElem?_append_left (by rw [List.length_map]; exact hi), List.getElem?_map] at e
    cases q : ds[i]? with
    | none => rw [q] at e; cases e
    | some x =>
      rw [q] at e
      cases e
      obtain ⟨v, h1, h2⟩ := h.get q
      refine ⟨v, ?_, h2⟩
      unfold L2.start
      rw [List.getElem?_append_left (by rw [List.length_map, ← hl]; exact hi), List.getElem?_map, h1]
      rfl
  · rw [List.getElem?_append_right (by rw [List.length_map]; omega), List.getElem?_replicate] at e
    split at e <;> cases e
/-- what follows a def's body: its value, or None; what it made for itself may be given up -/
def endK (M0 : Mem) (Qd : SQ) : SK := { nx := fun _ M' => Qd .non M' ∨ ∃ M'', Cut M0 .non M' M'' ∧ Qd .non M'', rt := fun d M' => Qd d M' ∨ ∃ M'', Cut M0 d M' M'' ∧ Qd d M'' }
abbrev defX (P : Program) (w : World) (K : PySem.W.Frag) (mg : Str → Option Value) (base : Heap) (N : List Str) (qual : Str) (scope : Scope) (f : Addr) (cdv : Value) (A : Around) (outer : List Env) (s : Shared) (H : Hp) (E : XK) : Cx :=
  cxOf (L2N.CX P w) P w K mg base N qual scope f cdv A outer s H E
theorem defJ {P : Program} {w : World} {K : PySem.W.Frag} {mg : Str → Option Value} {base : Heap} {x qual : Str} {params : Arguments} {body : List Stmt} {scope : Scope} {f : Addr} {fd : FuncData} {N ps : List Str} {k n : Nat} {ct : Ct}
    (F : FunD K x qual params body scope [] [] f fd) (S : FnScope N ps scope) (hn : n = ps.length)
    (hbody : ∀ (cdv : Value) (A : Around) (outer : List Env) (s : Shared) (c : JC), JX c (defX P w K mg base N qual scope f cdv A outer s c.H c.E) → L2N.Takes (defX P w K mg base N qual scope f cdv A outer s c.H c.E) (fun cls d _ H => c.E cls d H) →
      PassesOwn (model P w) (defX P w K mg base N qual scope f cdv A outer s c.H c.E).A (defX P w K mg base N qual scope f cdv A outer s c.H c.E).env (defX P w K mg base N qual scope f cdv A outer s c.H c.E).xe →
      Room k (defX P w K mg base N qual scope f cdv A outer s c.H c.E).A →
      ∃ ss, JSs c (defX P w K mg base N qual scope f cdv A outer s c.H c.E) body ss ∧ ∀ ds M Qd, ct ds M Qd c.Ed → ss (endK M Qd) (startR N.length ds) M) :
    FnOk P w K mg base (L2N.CX P w) (k + 1) f fd ps (spD K n ct) := by
  subst hn
  refine F.ok S (fun vs H Q E h => h.1) fun cdv A outer s H vs Q E hr h => ?_
  obtain ⟨hl, ds, B, loc, M, Qd, Ed, r, e, hct, t, te⟩ := h
  let c : JC := ⟨B, loc, H, E, Ed⟩
  have tk : L2N.Takes (defX P w K mg base N qual scope f cdv A outer s c.H c.E) (fun cls d _ H => c.E cls d H) := L2N.takes_of rfl rfl rfl rfl
  have jx : JX c (defX P w K mg base N qual scope f cdv A outer s c.H c.E) := ⟨fun cl M' B' l' H' g r h => te cl M' B' l' H' g r h, L2N.passes_call tk fun _ _ _ _ h => h⟩
  obtain ⟨ss, ⟨ts, p, z⟩, hs⟩ := hbody cdv A outer s c jx tk (passes_of rfl) hr
  refine ⟨ts, p, z B loc M H _ _ _ _ ⟨.refl, r, start_env e⟩ (hs ds M Qd hct) ⟨?_, ?_, ?_, ?_⟩⟩
  · intro ρ M' σ B' l' H' g r' e' h
    rcases h with h | ⟨M'', c1, h⟩
    · exact t _ _ _ _ _ _ g r' .non h
    · obtain ⟨g2, r2, d2⟩ := cut_rel r g r' (Den.non (K := K) (B := B') (loc := l')) c1
      exact t _ _ _ _ _ _ g2 r2 d2 h
  · intro d M' v B' l' H' g r' e' h
    rcases h with h | ⟨M'', c1, h⟩
    · exact t _ _ _ _ _ _ g r' e' h
    · obtain ⟨g2, r2, d2⟩ := cut_rel r g r' e' c1
      exact t _ _ _ _ _ _ g2 r2 d2 h
  · intro ρ M' σ B' l' H' g r' e' h
    exact h.elim
  · intro ρ M' σ B' l' H' g r' e' h
    exact h.elim
end J

namespace J
open PySem PySem.Spec PyProof.Rows L2
/-- -x -/
def sNeg (sa : SE) : SE := fun ρ M Q => sa ρ M fun d M1 => match d with
  | .int i => Q (.int (-i)) M1
  | _ => False
theorem je_neg {c : JC} {X : Cx} {a : Expr} {pos : Pos} {sa : SE} (ha : JE c X a sa) : JE c X (.UnaryOp .USub a pos) (sNeg sa) := by
  obtain ⟨t, p, z⟩ := ha
  refine ⟨_, pe_un un_neg p, fun B loc M H σ ρ Q Qd A hs t => z B loc M H σ ρ _ _ A hs fun d M' v B' l' H' g r e h => ?_⟩
  cases e with
  | int => exact ⟨_, rfl, t _ _ _ _ _ _ g r .int h⟩
  | _ => exact h.elim
/-! ### isinstance of a built-in type -/
inductive Ty where
  | non | bl | int | str | tup | lst | dic
def Ty.name : Ty → String
  | .non => "NoneType"
  | .bl => "bool"
  | .int => "int"
  | .str => "str"
  | .tup => "tuple"
  | .lst => "list"
  | .dic => "dict"
def tyN (M : Mem) : D → Option Ty
  | .non => some .non
  | .bl _ => some .bl
  | .int _ => some .int
  | .str _ => some .str
  | .tup _ => some .tup
  | .lst _ => some .lst
  | .scr _ => some .lst
  | .ref i => match M[i]? with
    | some (.lst _) => some .lst
    | some (.dic _) => some .dic
    | some (.rcd _ _) => some .dic
    | _ => none
  | .adr _ => none
def isB : Ty → Ty → Bool
  | .non, .non => true
  | .bl, .bl => true
  | .bl, .int => true
  | .int, .int => true
  | .str, .str => true
  | .tup, .tup => true
  | .lst, .lst => true
  | .dic, .dic => true
  | _, _ => false
theorem kit_all : ∀ a b : Ty, kitB a.name b.name = some (isB a b) := by
  intro a b
  cases a <;> cases b <;> decide +kernel
def sIsi (T : Ty) (se : SE) : SE := fun ρ M Q => se ρ M fun d M1 => ∃ a, tyN M1 d = some a ∧ Q (.bl (isB a T)) M1
theorem tyN_ok {K : PySem.W.Frag} {B : Hp} {loc : List Addr} {M : Mem} {H : Hp} {d : D} {v : V} {a : Ty} (r : Rel K B loc M H) (e : Den K B loc d v) (h : tyN M d = some a) : TyX K H v (.type a.name) := by
  have lst : ∀ {p : Addr} {vs : List V}, SqL K H p vs → TyX K H (.ref p) (.type "list") := fun {p vs} s => by
    rcases s with (s | ⟨o, s⟩) | ⟨o, its, n, k, kc, _⟩
    · exact .base (.lst s)
    · exact .base (.frz s)
    · exact .kList k kc
  cases e with
  | non => cases h; exact .base .non
  | bl => cases h; exact .base (.bl _)
  | int => cases h; exact .base (.int _)
  | str => cases h; exact .base (.str _)
  | lst s _ => cases h; exact lst (SqL.of (r.ext _ _ s))
  | scr s => cases h; exact lst (r.ext.seq s)
  | adr => cases h
  | tup s _ =>
    cases h
    rcases same_t r.ext s with (s | ⟨o, s⟩) | ⟨o, its, n, k, kc, _⟩
    · exact .base (.tup s)
    · exact .fTuple s
    · exact .kTuple k kc
  | @ref i p hi =>
    unfold tyN at h
    cases q : M[i]? with
    | none => simp only [q] at h; cases h
    | some o =>
      simp only [q] at h
      cases o with
      | lst ys =>
        cases h
        obtain ⟨_, vs, h1, _⟩ := r.obj i p _ hi q trivial
        exact .base (.lst h1)
      | dic ys =>
        cases h
        obtain ⟨_, vs, h1, _⟩ := r.obj i p _ hi q trivial
        exact .base (.dK h1)
      | rcd ks ys =>
        cases h
        obtain ⟨_, _, vs, h1, _⟩ := r.obj i p _ hi q trivial
        exact .base (.dK h1)
      | _ => cases h
theorem je_isi {c : JC} {X : Cx} {e : Expr} {p p2 pos : Pos} {x : Str} {se : SE} (T : Ty) (hg : Gl X "isinstance") (hm : X.mg "isinstance" = none) (hgT : Gl X x) (hmT : X.mg x = none) (hv : bootBuiltins x = some (.type T.name)) (he : JE c X e se) (hn : x ≠ "__name__" := by decide) (hd : (x == ("__debug__" : Str)) = false := by decide)
    (h1 : starEach [e, .Name x p2] X.env = (false, eval e X.env) :: starEach [.Name x p2] X.env := by rfl) (h2 : starEach [.Name x p2] X.env = (false, eval (.Name x p2) X.env) :: starEach [] X.env := by rfl) (h3 : (backTo pos (starEach [.Name x p2] X.env)).any (·.1) = false := by rfl) :
    JE c X (.Call (.Name "isinstance" p) [e, .Name x p2] [] pos) (sIsi T se) := by
  obtain ⟨t, pe, z⟩ := he
  refine ⟨_, pe_callB call_isi hg hm boot_isinstance (pa_cons pe (pa_cons (pe_bltn (v := .ty T.name) hgT hmT hv rfl hn hd) pa_nil h2) h1) (by decide) (by decide) h1 h3, fun B loc M H σ ρ Q Qd A hs t => z B loc M H σ ρ _ _ A hs fun d M' v B' l' H' g r e h => ?_⟩
  obtain ⟨a, q, h⟩ := h
  exact ⟨v, .ty T.name, _, _, isB a T, rfl, .ty _, tyN_ok r e q, kit_ty (kit_all a T), t _ _ _ _ _ _ g r .bl h⟩
/-- a short list is short enough -/
theorem le_line {n : Nat} (h : Nat.ble n 1000 = true) : n ≤ sizeLine := Nat.le_trans (Nat.le_of_ble_eq_true h) (by decide)
theorem lt_line {n : Nat} (h : n ≤ 1000) : n < sizeLine := Nat.lt_of_le_of_lt h (by decide)
theorem log9000 {i : Int} (h : i.natAbs < 2 ^ 64) : i.natAbs.log2 < 9000 := by
  have : i.natAbs.log2 < 64 := PySem.Flt.log2_lt_of (by decide) h
  omega
/-- a def keeps its contract, is called by these names -/
def Ok (P : Program) (w : World) (K : PySem.W.Frag) (mg : Str → Option Value) (base : Heap) (k : Nat) (f : Addr) (ps : List Str) (n : Nat) (ct : Ct) : Prop :=
  ∃ fd, FnOk P w K mg base (L2N.CX P w) k f fd ps (spD K n ct) ∧ Binds K fd ps [] ∧ PySem.W.keepIn K (.ref f) = true
theorem Ok.of {P : Program} {w : World} {K : PySem.W.Frag} {mg : Str → Option Value} {base : Heap} {x qual : Str} {params : Arguments} {body : List Stmt} {scope : Scope} {f : Addr} {fd : FuncData} {N ps : List Str} {k n : Nat} {ct : Ct}
    (F : FunD K x qual params body scope [] [] f fd) (b : Binds K fd ps []) (S : FnScope N ps scope) (hn : n = ps.length)
    (hbody : ∀ (cdv : Value) (A : Around) (outer : List Env) (s : Shared) (c : JC), JX c (defX P w K mg base N qual scope f cdv A outer s c.H c.E) → L2N.Takes (defX P w K mg base N qual scope f cdv A outer s c.H c.E) (fun cls d _ H => c.E cls d H) →
      PassesOwn (model P w) (defX P w K mg base N qual scope f cdv A outer s c.H c.E).A (defX P w K mg base N qual scope f cdv A outer s c.H c.E).env (defX P w K mg base N qual scope f cdv A outer s c.H c.E).xe →
      Room k (defX P w K mg base N qual scope f cdv A outer s c.H c.E).A →
      ∃ ss, JSs c (defX P w K mg base N qual scope f cdv A outer s c.H c.E) body ss ∧ ∀ ds M Qd, ct ds M Qd c.Ed → ss (endK M Qd) (startR N.length ds) M) : Ok P w K mg base (k + 1) f ps n ct :=
  ⟨fd, defJ F S hn hbody, b, F.kp⟩
/-- the facts of an own exception class -/
structure Exc (K : PySem.W.Frag) (mg : Str → Option Value) (x : Str) : Prop where
  g : mg x = some (.ref (He.ga K x))
  e : PySem.W.excIn K (He.ga K x) He.veBase "ValueError.__new__" = true
  k : PySem.W.keepIn K (.ref (He.ga K x)) = true
  s : PySem.W.subIn K (.ref (He.ga K x)) (.type "BaseException") = some true
  t : PySem.W.typeIn K (.ref (He.ga K x)) = some (.type "type")
theorem room_units {k : Nat} {A : Around} (r : Room k A) : A.units + 64 < cLine := r.units
end J

namespace J
open PySem PySem.Spec PyProof.Rows L2
/-! ### loops by what holds before each round -/
theorem loop_inv {st : Mem → Prop} {sg : SG} {sb : SS} {k : SK} (l : List D) (I : Nat → Rho → Mem → Prop)
    (hs : ∀ i d, l[i]? = some d → ∀ ρ M, I i ρ M → st M ∧ ∀ go : Rho → Mem → Prop, (∀ ρ M, I (i + 1) ρ M → go ρ M) → sg d ρ M fun ρ1 M1 => sb { nx := go, rt := k.rt, bk := k.nx, ct := go } ρ1 M1)
    (he : ∀ ρ M, I l.length ρ M → st M ∧ k.nx ρ M) {ρ : Rho} {M : Mem} (h : I 0 ρ M) : loopS st sg sb k l ρ M := by
  have key : ∀ (r : List D) (i : Nat), l.drop i = r → i ≤ l.length → ∀ ρ M, I i ρ M → loopS st sg sb k r ρ M := by
    intro r
    induction r with
    | nil =>
      intro i hd hi ρ M h
      have : i = l.length := by
        have := List.drop_eq_nil_iff.mp hd
        omega
      subst this
      exact he ρ M h
    | cons d r ih =>
      intro i hd hi ρ M h
      have hi2 : i < l.length := by
        by_cases q : i < l.length
        · exact q
        · rw [List.drop_eq_nil_of_le (by omega)] at hd; cases hd
      rw [List.drop_eq_getElem_cons hi2] at hd
      obtain ⟨e1, e2⟩ := List.cons.inj hd
      obtain ⟨h1, h2⟩ := hs i d (by rw [List.getElem?_eq_getElem hi2, e1]) ρ M h
      exact ⟨h1, h2 _ fun ρ' M' h' => ih (i + 1) e2 hi2 ρ' M' h'⟩
  exact key l 0 rfl (Nat.zero_le _) ρ M h
theorem comp_inv {st : Mem → Prop} {sg : SG} {tt : ST} {se : SE} {ρ0 : Rho} {fin : List D → Mem → Prop} (l : List D) (I : Nat → List D → Mem → Prop) (hl : l.length ≤ sizeLine)
    (hs : ∀ i d, l[i]? = some d → ∀ acc M, acc.length ≤ i → I i acc M → st M ∧ ∀ (yes : D → Mem → Prop) (no : Mem → Prop), (∀ y M', I (i + 1) (acc ++ [y]) M' → yes y M') → (∀ M', I (i + 1) acc M' → no M') → sg d ρ0 M fun ρ1 M1 => tt ρ1 M1 fun b M2 => (b = true → se ρ1 M2 yes) ∧ (b = false → no M2))
    (he : ∀ acc M, I l.length acc M → st M ∧ fin acc M) {M : Mem} (h : I 0 [] M) : compS st sg tt se ρ0 fin l [] M := by
  have key : ∀ (r : List D) (i : Nat) (acc : List D), l.drop i = r → i ≤ l.length → acc.length ≤ i → ∀ M, I i acc M → compS st sg tt se ρ0 fin r acc M := by
    intro r
    induction r with
    | nil =>
      intro i acc hd hi ha M h
      have : i = l.length := by
        have := List.drop_eq_nil_iff.mp hd
        omega
      subst this
      exact he acc M h
    | cons d r ih =>
      intro i acc hd hi ha M h
      have hi2 : i < l.length := by
        by_cases q : i < l.length
        · exact q
        · rw [List.drop_eq_nil_of_le (by omega)] at hd; cases hd
      rw [List.drop_eq_getElem_cons hi2] at hd
      obtain ⟨e1, e2⟩ := List.cons.inj hd
      obtain ⟨h1, h2⟩ := hs i d (by rw [List.getElem?_eq_getElem hi2, e1]) acc M ha h
      refine ⟨h1, h2 _ _ (fun y M' h' => ⟨by omega, ih (i + 1) _ e2 hi2 ?_ M' h'⟩) fun M' h' => ih (i + 1) _ e2 hi2 (by omega) M' h'⟩
      rw [List.length_append]; show acc.length + 1 ≤ i + 1; omega
  exact key l 0 [] rfl (Nat.zero_le _) (Nat.le_refl 0) M h
/-- a comprehension that makes one thing of each item, and leaves the store -/
theorem lc_map {st : Mem → Prop} {sg : SG} {tt : ST} {se : SE} {ρ0 : Rho} {fin : List D → Mem → Prop} (l : List D) (f : D → D) {M : Mem} (hst : st M) (hl : l.length ≤ sizeLine)
    (hs : ∀ d ∈ l, ∀ (yes : D → Mem → Prop) (no : Mem → Prop), yes (f d) M → sg d ρ0 M fun ρ1 M1 => tt ρ1 M1 fun b M2 => (b = true → se ρ1 M2 yes) ∧ (b = false → no M2))
    (he : fin (l.map f) M) : compS st sg tt se ρ0 fin l [] M :=
  comp_inv l (fun i acc M' => M' = M ∧ acc = (l.take i).map f) hl (fun i d hd acc M' _ ⟨e1, e2⟩ => by
    subst e1 e2
    have hi := (List.getElem?_eq_some_iff.mp hd).1
    refine ⟨hst, fun yes no hy _ => hs d (List.mem_of_getElem? hd) yes no (hy _ _ ⟨rfl, ?_⟩)⟩
    rw [List.take_add_one, hd, List.map_append]
    rfl) (fun acc M' ⟨e1, e2⟩ => by
    subst e1 e2
    rw [List.take_length]
    exact ⟨hst, he⟩) ⟨rfl, by rw [List.take_zero]; rfl⟩
/-- .. of each item that the test keeps -/
theorem lc_filt {st : Mem → Prop} {sg : SG} {tt : ST} {se : SE} {ρ0 : Rho} {fin : List D → Mem → Prop} (l : List D) (f : D → D) (p : D → Bool) {M : Mem} (hst : st M) (hl : l.length ≤ sizeLine)
    (hs : ∀ d ∈ l, ∀ (yes : D → Mem → Prop) (no : Mem → Prop), (p d = true → yes (f d) M) → (p d = false → no M) → sg d ρ0 M fun ρ1 M1 => tt ρ1 M1 fun b M2 => (b = true → se ρ1 M2 yes) ∧ (b = false → no M2))
    (he : fin ((l.filter p).map f) M) : compS st sg tt se ρ0 fin l [] M :=
  comp_inv l (fun i acc M' => M' = M ∧ acc = ((l.take i).filter p).map f) hl (fun i d hd acc M' _ ⟨e1, e2⟩ => by
    subst e1 e2
    refine ⟨hst, fun yes no hy hn => hs d (List.mem_of_getElem? hd) yes no (fun h => hy _ _ ⟨rfl, ?_⟩) fun h => hn _ ⟨rfl, ?_⟩⟩
    · rw [List.take_add_one, hd, List.filter_append, List.map_append]
      simp [h]
    · rw [List.take_add_one, hd, List.filter_append, List.map_append]
      simp [h]) (fun acc M' ⟨e1, e2⟩ => by
    subst e1 e2
    rw [List.take_length]
    exact ⟨hst, he⟩) ⟨rfl, by rw [List.take_zero]; rfl⟩
theorem upTo_len {lo : Int} {n : Nat} : (upTo lo n).length = n := by
  unfold upTo
  rw [List.length_map, List.length_range]
theorem atI_of {α : Type} {xs : List α} {i : Int} {d : α} (h0 : 0 ≤ i) (h : xs[i.toNat]? = some d) : atI xs i = some d := by
  have hl := (List.getElem?_eq_some_iff.mp h).1
  unfold atI ixN
  rw [if_pos h0, if_pos (by omega)]
  exact h
theorem atI_zero {α : Type} {x : α} {xs : List α} : atI (x :: xs) 0 = some x := atI_of (Int.le_refl 0) rfl
theorem ix_nat {α : Type} {xs : List α} {n : Nat} {d : α} (h : xs[n]? = some d) : atI xs (n : Int) = some d := atI_of (Int.natCast_nonneg n) h
theorem atI_has {α : Type} {xs : List α} {i : Int} (h0 : 0 ≤ i) (h : i < xs.length) : ∃ d, d ∈ xs ∧ atI xs i = some d :=
  ⟨xs[i.toNat]'(by omega), List.getElem_mem _, atI_of h0 (List.getElem?_eq_getElem (by omega))⟩
theorem tt {p q : Prop} (h : p) : (true = true → p) ∧ (true = false → q) := ⟨fun _ => h, fun z => Bool.noConfusion z⟩
theorem ff {p q : Prop} (h : q) : (false = true → p) ∧ (false = false → q) := ⟨fun z => Bool.noConfusion z, fun _ => h⟩
theorem g_var {i : Nat} {d : D} {ρ : Rho} {M : Mem} {Q : Rho → Mem → Prop} (h : Q (ρ.set i (some d)) M) : gVar i d ρ M Q := h
/-- what a statement leaves, said once for all its ways -/
theorem seq_via {s u : SS} {k : SK} {ρ : Rho} {M : Mem} (I : Rho → Mem → Prop) (h1 : ∀ go : Rho → Mem → Prop, (∀ ρ' M', I ρ' M' → go ρ' M') → s { k with nx := go } ρ M) (h2 : ∀ ρ' M', I ρ' M' → u k ρ' M') : sSeq s u k ρ M := h1 _ h2
theorem eqv_pair (a b c d : Int) : PyData.eqv (.tuple [.int a, .int b]) (.tuple [.int c, .int d]) = (decide (a = c) && decide (b = d)) := by
  show (PyData.eqv (.int a) (.int c) && (PyData.eqv (.int b) (.int d) && true)) = _
  rw [eqv_int, eqv_int, Bool.and_true]
theorem dep_pair {a b c d : Int} : min (PyData.tuple [.int a, .int b]).depth (PyData.tuple [.int c, .int d]).depth ≤ 60 := by
  have e : ∀ a b : Int, (PyData.tuple [.int a, .int b]).depth = 1 := fun _ _ => rfl
  rw [e, e]; decide
theorem ne_pair (a b c d : Int) : (if true = true then !PyData.eqv (.tuple [.int a, .int b]) (.tuple [.int c, .int d]) else PyData.eqv (.tuple [.int a, .int b]) (.tuple [.int c, .int d])) = !(decide (a = c) && decide (b = d)) := by
  rw [if_pos rfl, eqv_pair]
theorem ne_pair_same (a b : Int) : (if true = true then !PyData.eqv (.tuple [.int a, .int b]) (.tuple [.int a, .int b]) else PyData.eqv (.tuple [.int a, .int b]) (.tuple [.int a, .int b])) = false := by
  rw [ne_pair]; simp
/-- the heap but its tables -/
def offT (H : Hp) : Hp := fun b => match H b with
  | some (.tbl _) => none
  | o => o
theorem offT_sub (H : Hp) : Same (offT H) H := fun b o e => by
  unfold offT at e
  split at e
  · cases e
  · exact e
theorem offT_nt (H : Hp) : ∀ (b : Addr) (ps : Array Value), offT H b ≠ some (.tbl ps) := fun b ps e => by
  unfold offT at e
  split at e
  · cases e
  · rename_i z
    exact z _ e
theorem offT_at {H : Hp} {b : Addr} {o : HO} (h : H b = some o) (ho : ∀ ps, o ≠ .tbl ps) : offT H b = some o := by
  unfold offT
  split
  · rename_i z
    rw [h] at z
    exact absurd (Option.some.inj z) (ho _)
  · exact h
theorem offT_seq {K : PySem.W.Frag} {H : Hp} {a : Addr} {xs : List V} (h : SqL K H a xs) : SqL K (offT H) a xs := by
  rcases h with (h | ⟨o, h⟩) | h
  · exact .inl (.inl (offT_at h fun _ z => by cases z))
  · exact .inl (.inr ⟨o, offT_at h fun _ z => by cases z⟩)
  · exact .inr h
/-- a def that takes the script, at the law's start -/
theorem sp_start {K : PySem.W.Frag} {H : Hp} {a : Addr} {ns : List Int} {ct : Ct} (hS : SqL K H a (ns.map V.int)) (h : ct [.scr ns] [] (fun d _ => d = .bl true) fun _ _ => False) : spD K 1 ct [.ref a] H (fun v _ => v = .bl true) fun _ _ _ => False :=
  ⟨rfl, [.scr ns], offT H, [], [], fun d _ => d = .bl true, fun _ _ => False, ⟨offT_sub H, rfl, fun _ _ _ e => (nomatch e), fun _ _ _ _ _ e => (nomatch e), fun _ q => (nomatch q), offT_nt H, fun _ _ _ _ e => (nomatch e)⟩, .cons (.scr (offT_seq hS)) .nil, h, fun d M' v B' l' H' g r e q => by subst q; cases e; rfl, fun _ _ _ _ _ _ _ q => q.elim⟩
/-- .. with one table of code objects -/
theorem sp_startT {K : PySem.W.Frag} {H : Hp} {a P : Addr} {q : Str} {ns : List Int} {ct : Ct} (hP : H P = some (.tbl #[])) (hS : SqL K H a (ns.map V.int)) (h : ct [.scr ns] [.tab P q] (fun d _ => d = .bl true) fun _ _ => False) : spD K 1 ct [.ref a] H (fun v _ => v = .bl true) fun _ _ _ => False := by
  have nP : offT H P = none := by
    unfold offT
    rw [hP]
  refine ⟨rfl, [.scr ns], offT H, [P], [.tab P q], fun d _ => d = .bl true, fun _ _ => False, ⟨offT_sub H, rfl, fun i b o e1 e2 _ => ?_, fun i j b o u e1 e2 _ _ _ _ => ?_, fun b hb => ?_, offT_nt H, fun i b o ps e1 e2 _ => ?_⟩, .cons (.scr (offT_seq hS)) .nil, h, fun d M' v B' l' H' g r e q => by subst q; cases e; rfl, fun _ _ _ _ _ _ _ q => q.elim⟩
  · match i, e1, e2 with
    | 0, e1, e2 =>
      cases e1
      cases e2
      exact ⟨nP, rfl, #[], hP, True.intro, fun pos cv hc => by simp [codeAmong] at hc⟩
  · match i, j, e1, e2 with
    | 0, 0, _, _ => rfl
  · rw [List.mem_singleton.mp hb]
    exact ⟨_, hP⟩
  · match i, e1, e2 with
    | 0, e1, e2 =>
      cases e2
      exact ⟨_, _, rfl⟩
end J

namespace J
open PySem PySem.Spec PyProof.Rows L2
/-! ### a text from its end -/
def revS (z : Str) : Str := ⟨z.cps.toList.reverse.toArray⟩
theorem rev_picked (z : Str) : ((Builtin.Str.strSliceIndices none none (-1) z.length).filterMap (z.cps[·]?)) = z.cps.toList.reverse := by
  rw [picked_rev, filterMap_get, List.map_map]
  · refine List.ext_getElem ?_ fun i h1 h2 => ?_
    · rw [List.length_map, List.length_range, List.length_reverse, Array.length_toList]; rfl
    · rw [List.length_map, List.length_range] at h1
      have hs : z.length = z.cps.size := rfl
      rw [List.getElem_map, List.getElem_range, List.getElem_reverse]
      show z.cps.getD (z.length - 1 - i) 0 = _
      have h3 : z.length - 1 - i < z.cps.size := by omega
      rw [Array.getElem_toList]
      have e : z.length - 1 - i = z.cps.toList.length - 1 - i := by rw [Array.length_toList]; rfl
      simp only [Array.getD, h3, e]
      rw [dif_pos (by rw [← e]; exact h3)]
      rfl
  · intro i hi
    obtain ⟨k, hk, rfl⟩ := List.mem_map.mp hi
    have hk' : k < z.length := List.mem_range.mp hk
    show z.length - 1 - k < z.length
    omega
theorem revS_len (z : Str) : (revS z).length = z.length := by
  show (z.cps.toList.reverse.toArray).size = z.cps.size
  rw [List.size_toArray, List.length_reverse, Array.length_toList]
def tRevS (te : TE) : TE := fun σ H Q => te σ H fun x H1 => ∃ z, x = .str z ∧ z.length ≤ sizeLine ∧ Q (.str (revS z)) H1
theorem pe_revS {X : Cx} {e : Expr} {te : TE} {k : Nat} {p1 p2 p3 pos : Pos} (he : PE X e te) : PE X (.Subscript e (.Slice none none (some (.UnaryOp .USub (.Constant (.int 1) k p1) p2)) p3) pos) (tRevS te) := by
  refine ⟨fun pins s σ H Q I h => ?_⟩
  refine Subscript_ (thn (he.run pins s σ H _ I h) fun v s1 ⟨x, H1, I1, r1, z, ex, hz, q⟩ => ?_)
  subst ex
  obtain ⟨t, ev⟩ := r1
  subst ev
  have hst : PO X (some (.UnaryOp .USub (.Constant (.int 1) k p1) p2)) (tPart (tUn (rU fun i => .int (-i)) (tC (.int 1)))) := po_some (pe_un un_neg pe_int)
  refine wpAny_Slice (thn (po_none.run pins s1 σ H1 (fun o H2 => o = none ∧ H2 = H1) I1 ⟨rfl, rfl⟩) fun vl s2 ⟨l, H2, I2, pl, el, e2⟩ => ?_)
  subst el e2
  refine thn (po_none.run pins s2 σ H2 (fun o H3 => o = none ∧ H3 = H2) I2 ⟨rfl, rfl⟩) fun vu s3 ⟨u, H3, I3, pu, eu, e3⟩ => ?_
  subst eu e3
  refine thn (hst.run pins s3 σ H3 (fun o H4 => o = some (-1) ∧ H4 = H3) I3 ⟨1, rfl, -1, rfl, rfl, rfl⟩) fun vs s4 ⟨o, H4, I4, ps, eo, e4⟩ => ?_
  subst eo e4
  have I5 : Inv X pins σ H4 { s4 with heap := s4.heap.push { cls := .type "slice", data := .fields #[vl, vu, vs] } } := I4.kept (t' := s4.toks) fun b ob q => Heap.get?_push_of_some _ q
  obtain ⟨a, ua, ea⟩ := IsPart.raw pl
  obtain ⟨b, ub, eb⟩ := IsPart.raw pu
  obtain ⟨d, ud, ed⟩ := IsPart.raw ps
  subst ua ub ud
  cases a with
  | some _ => cases ea
  | none =>
  cases b with
  | some _ => cases eb
  | none =>
  cases d with
  | none => cases ed
  | some d =>
  obtain ⟨d1, d2⟩ := d
  cases (show d1 = (-1 : Int) from Option.some.inj ed)
  show wpAny (model X.prog X.w) X.A (subscriptTail e (.Slice none none (some (.UnaryOp .USub (.Constant (.int 1) k p1) p2)) p3) (.str z t) (.ref s4.heap.objs.size)) (EP X pins σ Q) X.xe { s4 with heap := s4.heap.push { cls := .type "slice", data := .fields #[partValue none, partValue none, partValue (some (-1, d2))] } }
  refine tail_any (ops := [.ref s4.heap.objs.size, .str z t]) (typeIs_str _ _ _) F.slot_str_getitem.lookup ?_ (by with_unfolding_all rfl)
  obtain ⟨os, h1, h2, h3⟩ := Heap.IsSliceOf.new s4.heap (partValue none) (partValue none) (partValue (some (-1, d2)))
  refine wpAny_getItem_str_slice (l := none) (u := none) (st := some (-1, d2)) ⟨os, h1, h2, h3⟩ rfl ?_
  show Made.post (Made.str ⟨((Builtin.Str.strSliceIndices none none (-1) z.length).filterMap (z.cps[·]?)).toArray⟩) (EP X pins σ Q) _
  rw [rev_picked]
  exact ⟨by have := revS_len z; unfold revS at this; rw [this]; exact hz, .str _, H4, I5.tok _, ⟨_, rfl⟩, q⟩
def sRevS (se : SE) : SE := fun ρ M Q => se ρ M fun d M1 => match d with
  | .str z => z.length ≤ sizeLine ∧ Q (.str (revS z)) M1
  | _ => False
section
variable {c : JC} {X : Cx} {a b e o : Expr} {es : List Expr} {pos p apos : Pos} {sa sb se so : SE} {sr : SA} {x : Str}
theorem je_revS {k : Nat} {p1 p2 p3 : Pos} (he : JE c X e se) : JE c X (.Subscript e (.Slice none none (some (.UnaryOp .USub (.Constant (.int 1) k p1) p2)) p3) pos) (sRevS se) := by
  obtain ⟨t, pe, z⟩ := he
  refine ⟨_, pe_revS pe, fun B loc M H σ ρ Q Qd A hs t => z B loc M H σ ρ _ _ A hs fun d M' v B' l' H' g r e h => ?_⟩
  cases e with
  | str => exact ⟨_, rfl, h.1, t _ _ _ _ _ _ g r .str h.2⟩
  | _ => exact h.elim
/-! ### a dict with written keys -/
def lookS : List Str → List D → Str → Option D
  | k :: ks, d :: ds, x => if k = x then some d else lookS ks ds x
  | _, _, _ => none
theorem look_den {K : PySem.W.Frag} {B : Hp} {loc : List Addr} {x : Str} : ∀ {ks : List Str} {ds : List D} {ws : List (Key × V)}, DenSV K B loc ks ds ws → (∀ d, lookS ks ds x = some d → ∃ v, valV ws (.inr x) = some v ∧ Den K B loc d v) ∧ (lookS ks ds x = none → valV ws (.inr x) = none)
  | _, _, _, .nil => ⟨fun _ h => (nomatch h), fun _ => rfl⟩
  | k :: ks, d :: ds, _, .cons (v := v) (vs := ws) h r => by
    obtain ⟨h1, h2⟩ := look_den (x := x) r
    unfold lookS
    by_cases q : k = x
    · rw [if_pos q, valV_pos (p := (Sum.inr k, v)) (k := Sum.inr x) (by rw [q])]
      exact ⟨fun _ e => by cases e; exact ⟨_, rfl, h⟩, fun e => nomatch e⟩
    · rw [if_neg q, valV_neg (p := (Sum.inr k, v)) (k := Sum.inr x) (fun z => q (Sum.inr.inj z))]
      exact ⟨h1, h2⟩
/-- d[text] -/
def sRGet (sd si : SE) : SE := fun ρ M Q => sd ρ M fun d M1 => si ρ M1 fun y M2 => match d, y with
  | .ref r, .str k => ∃ ks ds v, M2[r]? = some (.rcd ks ds) ∧ lookS ks ds k = some v ∧ Q v M2
  | _, _ => False
theorem je_rgetD (hu : X.A.units + 1 < cLine) (ha : JE c X a sa) (hb : JE c X b sb) (hs : NoSl b := by intro _ _; rfl) : JE c X (.Subscript a b pos) (sRGet sa sb) := by
  obtain ⟨ta, pa, za⟩ := ha
  obtain ⟨tb, pb, zb⟩ := hb
  refine ⟨_, pe_dget hu pa pb hs, fun B loc M H σ ρ Q Qd A hs t => za B loc M H σ ρ _ _ A hs fun d1 M1 v1 B1 l1 H1 g1 r1 e1 h1 => zb B1 l1 M1 H1 σ ρ _ _ (A.on g1 r1) h1 fun d2 M2 v2 B2 l2 H2 g2 r2 e2 h2 => ?_⟩
  have e3 := e1.go g2
  split at h2
  · obtain ⟨ks, ds, v, h3, h4, h5⟩ := h2
    cases e3 with
    | ref hi =>
      cases e2
      obtain ⟨_, nd, ws, hw, dw⟩ := r2.obj _ _ _ hi h3 trivial
      obtain ⟨u, h6, h7⟩ := (look_den dw).1 _ h4
      refine ⟨_, u, rfl, ?_, t _ _ _ _ _ _ (g1.trans g2) r2 h7 h5⟩
      rw [← h6]
      exact DGet.k (k := Sum.inr _) hw
  · exact h2.elim
theorem je_rget (hu : X.A.units + 1 < cLine) {k : Str} {j : Nat} (ha : JE c X a sa) : JE c X (.Subscript a (.Constant (.str k) j p) pos) (sRGet sa (sC (.str k))) := je_rgetD hu ha je_str
/-- d.get(text, y) -/
def sRGetOr (sd si sx : SE) : SE := fun ρ M Q => sd ρ M fun d M1 => match d with
  | .ref r => ∃ ks ds, M1[r]? = some (.rcd ks ds) ∧ si ρ M1 fun y M2 => sx ρ M2 fun z M3 => match y with
    | .str k => ∃ ks ds, M3[r]? = some (.rcd ks ds) ∧ Q ((lookS ks ds k).getD z) M3
    | _ => False
  | _ => False
theorem je_rgetOr {f : Expr} {sx : SE} {cpos : Pos} (hu : X.A.units + 1 < cLine) (ho : JE c X o so) (he : JE c X e se) (hf : JE c X f sx) (m : M2 X o "get" apos e f cpos := by exact ⟨rfl, rfl, rfl, rfl⟩) : JE c X (.Call (.Attribute o "get" apos) [e, f] [] cpos) (sRGetOr so se sx) := by
  obtain ⟨ta, pa, za⟩ := ho
  obtain ⟨tb, pb, zb⟩ := he
  obtain ⟨tx, px, zx⟩ := hf
  refine ⟨_, pe_dget2 hu pa pb px m, fun B loc M H σ ρ Q Qd A hs t => za B loc M H σ ρ _ _ A hs fun d1 M1 v1 B1 l1 H1 g1 r1 e1 h1 => ?_⟩
  cases e1 with
  | ref hi =>
    obtain ⟨ks, ds, h2, h3⟩ := h1
    obtain ⟨_, nd, ws, hw, dw⟩ := r1.obj _ _ _ hi h2 trivial
    refine ⟨_, rfl, .inl ⟨ws, .inl hw⟩, zb B1 l1 M1 H1 σ ρ _ _ (A.on g1 r1) h3 fun d2 M2 v2 B2 l2 H2 g2 r2 e2 h4 => zx B2 l2 M2 H2 σ ρ _ _ (A.on (g1.trans g2) r2) h4 fun d3 M3 v3 B3 l3 H3 g3 r3 e3 h5 => ?_⟩
    have e4 := e2.go g3
    split at h5
    · obtain ⟨ks2, ds2, h6, h7⟩ := h5
      cases e4
      obtain ⟨_, nd2, ws2, hw2, dw2⟩ := r3.obj _ _ _ (pre_get (List.IsPrefix.trans g2.l g3.l) hi) h6 trivial
      refine ⟨_, DGet.k (k := Sum.inr _) hw2, ?_⟩
      obtain ⟨y1, y2⟩ := look_den (x := _) dw2
      cases q : lookS ks2 ds2 _ with
      | none =>
        rw [y2 q]
        rw [q] at h7
        exact t _ _ _ _ _ _ ((g1.trans g2).trans g3) r3 e3 h7
      | some d =>
        obtain ⟨v, h8, h9⟩ := y1 d q
        rw [h8]
        rw [q] at h7
        exact t _ _ _ _ _ _ ((g1.trans g2).trans g3) r3 h9 h7
    · exact h5.elim
  | _ => exact h1.elim
/-- a display of texts' values -/
def JPs (c : JC) (X : Cx) (pos : Pos) (keys : List (Option Expr)) (vals : List Expr) (ks : List Str) (sr : SA) : Prop :=
  ∃ trs, PPs X pos keys vals trs ∧ ∀ B loc M H σ ρ (Q : List (V × V) → Hp → Prop) (Qd : List D → Mem → Prop), At c X.K B loc M H σ ρ → sr ρ M Qd →
    (∀ ds M' vs B' loc' H', Go B loc H B' loc' H' → Rel X.K B' loc' M' H' → DenL X.K B' loc' ds vs → vs.length = ks.length → Qd ds M' → Q (List.zip (ks.map V.str) vs) H') → tPairs trs σ H Q
theorem jps_nil : JPs c X pos [] [] [] sNil := ⟨_, pps_nil, fun B loc M H σ ρ Q Qd A h t => t _ _ _ _ _ _ .refl A.rel .nil rfl h⟩
theorem jps_cons {k : Str} {j : Nat} {ks : List (Option Expr)} {vs : List Expr} {kk : List Str} {pk : Pos} (he : JE c X e se) (hr : JPs c X pos ks vs kk sr) : JPs c X pos (some (.Constant (.str k) j pk) :: ks) (e :: vs) (k :: kk) (sCons se sr) := by
  obtain ⟨t1, p1, z1⟩ := he
  obtain ⟨t2, p2, z2⟩ := hr
  refine ⟨_, pps_cons pe_str p1 p2, fun B loc M H σ ρ Q Qd A h t => ?_⟩
  refine z1 B loc M H σ ρ _ _ A h fun d1 M1 v1 B1 l1 H1 g1 r1 e1 h1 => z2 B1 l1 M1 H1 σ ρ _ _ (A.on g1 r1) h1 fun ds M2 vs B2 l2 H2 g2 r2 e2 hl h2 => ?_
  exact t (d1 :: ds) M2 (v1 :: vs) B2 l2 H2 (g1.trans g2) r2 (.cons (e1.go g2) e2) (by rw [List.length_cons, List.length_cons, hl]) h2
theorem merge_new : ∀ (more acc : List (Key × V)), ((acc ++ more).map (·.1)).Nodup → mergeK acc more = acc ++ more
  | [], acc, _ => by show acc = _; rw [List.append_nil]
  | p :: r, acc, h => by
    have hn : valV acc p.1 = none := by
      rw [List.map_append, List.map_cons] at h
      have h2 := (List.nodup_append.mp h).2.2
      have : ∀ kv ∈ acc, kv.1 ≠ p.1 := fun kv hk => h2 _ (List.mem_map_of_mem hk) _ List.mem_cons_self
      clear h h2
      induction acc with
      | nil => rfl
      | cons a acc ih => rw [valV_neg (this a List.mem_cons_self)]; exact ih fun kv hk => this kv (List.mem_cons_of_mem _ hk)
    show mergeK (putK acc p.1 p.2) r = _
    rw [putK_new _ hn, merge_new r _ (by rw [List.append_assoc]; exact h), List.append_assoc]
    rfl
theorem zip_sv {K : PySem.W.Frag} {B : Hp} {loc : List Addr} : ∀ {ks : List Str} {ds : List D} {vs : List V}, DenL K B loc ds vs → vs.length = ks.length → DenSV K B loc ks ds (List.zip (ks.map Sum.inr) vs)
  | [], _, [], .nil, _ => .nil
  | k :: ks, _, v :: vs, .cons h r, e => .cons h (zip_sv r (by rw [List.length_cons, List.length_cons] at e; omega))
theorem Rel.adopt {K : PySem.W.Frag} {B : Hp} {loc : List Addr} {M : Mem} {H : Hp} {p : Addr} {ho : HO} {o : MO} (r : Rel K B loc M H) (hb : B p = none) (hl : p ∉ loc) (hp : H p = some ho) (d : DenO K B (loc ++ [p]) p H o) (hn : ∀ ps, ho ≠ .tbl ps := by intro _ z; cases z) : Rel K B (loc ++ [p]) (M ++ [o]) H := by
  have pl : loc <+: loc ++ [p] := ⟨[p], rfl⟩
  have at1 : ∀ (i : Nat) (a : Addr) (m : MO), (loc ++ [p])[i]? = some a → (M ++ [o])[i]? = some m → (loc[i]? = some a ∧ M[i]? = some m) ∨ (i = loc.length ∧ a = p ∧ m = o) := fun i a m e1 e2 => by
    by_cases q : i < loc.length
    · rw [List.getElem?_append_left q] at e1
      rw [List.getElem?_append_left (by rw [← r.len]; exact q)] at e2
      exact .inl ⟨e1, e2⟩
    · rw [List.getElem?_append_right (by omega)] at e1
      rw [List.getElem?_append_right (by rw [← r.len]; omega)] at e2
      have hi : i - loc.length = 0 := by
        have := (List.getElem?_eq_some_iff.mp e1).1
        simp at this; omega
      rw [hi] at e1
      rw [← r.len, hi] at e2
      exact .inr ⟨by omega, (Option.some.inj e1).symm, (Option.some.inj e2).symm⟩
  refine ⟨r.ext, by rw [List.length_append, List.length_append, r.len]; rfl, fun i a m e1 e2 l => ?_, fun i j a m u e1 e2 e3 e4 l1 l2 => ?_, fun a q => ?_, r.nt, fun i a m ps e1 e2 e3 => by
    rcases at1 i a m e1 e2 with ⟨f1, f2⟩ | ⟨_, rfl, rfl⟩
    · exact r.tb i a m ps f1 f2 e3
    · rw [hp] at e3
      exact absurd (Option.some.inj e3) (hn _)⟩
  · rcases at1 i a m e1 e2 with ⟨h1, h2⟩ | ⟨-, rfl, rfl⟩
    · obtain ⟨x1, x2⟩ := r.obj i a m h1 h2 l
      exact ⟨x1, x2.mono (fun _ _ e => e) pl fun u e => e⟩
    · exact ⟨hb, d⟩
  · rcases at1 i a m e1 e3 with ⟨h1, h2⟩ | ⟨h1, h2, h3⟩ <;> rcases at1 j a u e2 e4 with ⟨y1, y2⟩ | ⟨y1, y2, y3⟩
    · exact r.inj i j a m u h1 y1 h2 y2 l1 l2
    · exact absurd (List.mem_of_getElem? h1) (by rw [y2]; exact hl)
    · exact absurd (List.mem_of_getElem? y1) (by rw [h2]; exact hl)
    · rw [h1, y1]
  · rcases List.mem_append.mp q with q | q
    · exact r.all a q
    · rw [List.mem_singleton.mp q]; exact ⟨_, hp⟩
theorem Go.adopt {B B' : Hp} {loc loc' : List Addr} {H H' : Hp} {p : Addr} (g : Go B loc H B' loc' H') (h : H p = none) : Go B loc H B' (loc' ++ [p]) H' :=
  ⟨g.b, List.IsPrefix.trans g.l ⟨[p], rfl⟩, g.fr, fun a q => by
    rcases List.mem_append.mp q with q | q
    · exact g.nw a q
    · rw [List.mem_singleton.mp q]; exact .inr h, g.nb⟩
/-- what was made beside the store stands through a step -/
theorem Go.keep {B B' : Hp} {loc loc' : List Addr} {H H' : Hp} {p : Addr} {o : HO} (g : Go B loc H B' loc' H') (x : Same B' H') (ne : ∀ φ, o ≠ .ext φ) (bp : B p = none) (lp : p ∉ loc) (hp : H p = some o) : B' p = none ∧ p ∉ loc' ∧ H' p = some o := by
  refine ⟨?_, fun q => ?_, g.fr p _ hp lp⟩
  · cases e : B' p with
    | none => rfl
    | some u =>
      rcases g.nb p u e with z | z | z | ⟨φ, z⟩
      · rw [bp] at z; cases z
      · rw [hp] at z; cases z
      · exact absurd z lp
      · have q := x p u e
        rw [g.fr p _ hp lp, z] at q
        exact absurd (Option.some.inj q) (ne φ)
  · rcases g.nw p q with z | z
    · exact lp z
    · rw [hp] at z; cases z
/-- {'a': x, ..} -/
def sDisp (ks : List Str) (sr : SA) : SE := fun ρ M Q => sr ρ M fun ds M1 => Q (.ref M1.length) (M1 ++ [.rcd ks ds])
theorem je_disp {keys : List (Option Expr)} {vals : List Expr} {ks : List Str} (h : JPs c X pos keys vals ks sr) (hk : keys ≠ [] ∧ keys.length = vals.length ∧ keys.length ≤ 15 ∧ keys.all (·.isSome) = true := by decide) (nd : ks.Nodup ∧ ks.length ≤ 15 := by decide) : JE c X (.Dict keys vals pos) (sDisp ks sr) := by
  obtain ⟨trs, pp, z⟩ := h
  refine ⟨_, pe_disp pp hk.2.2.2 hk.2.1 hk.1 hk.2.2.1, fun B loc M H σ ρ Q Qd A hs t => ?_⟩
  intro p hp
  have lp : p ∉ loc := fun q => by
    obtain ⟨o, e⟩ := A.rel.all p q
    rw [hp] at e; cases e
  have bp : B p = none := by
    cases e : B p with
    | none => rfl
    | some u => rw [A.rel.ext p u e] at hp; cases hp
  obtain ⟨r0, g0⟩ := A.rel.extra (o := .dK []) hp
  refine z B loc M _ σ ρ _ _ (A.on g0 r0) hs fun ds M' vs B' l' H' g r e hl h1 => ?_
  obtain ⟨k1, k2, k3⟩ := g.keep (o := .dK []) r.ext (fun _ z => nomatch z) bp lp upd_same
  have ez : List.zip (ks.map V.str) vs = (List.zip (ks.map (Sum.inr (α := Int))) vs).map fun kv => (kV kv.1, kv.2) := by
    rw [List.zip_map_left, List.zip_map_left, List.map_map]
    rfl
  refine ⟨k3, List.zip (ks.map Sum.inr) vs, ez, ?_, ?_⟩
  · rw [List.length_zip, List.length_map]
    exact Nat.le_trans (Nat.min_le_left _ _) nd.2
  · have em : mergeK [] (List.zip (ks.map Sum.inr) vs) = List.zip (ks.map (Sum.inr (α := Int))) vs := by
      refine (merge_new _ [] ?_).trans (List.nil_append _)
      rw [List.nil_append, List.map_fst_zip (by rw [List.length_map]; omega)]
      exact List.Pairwise.map _ (fun a b h z => h (Sum.inr.inj z)) nd.1
    rw [em]
    have gA : Go B loc H B' (l' ++ [p]) (upd H' p (.dK (List.zip (ks.map Sum.inr) vs))) := (((g0.trans g).side hp).adopt hp)
    have rA : Rel X.K B' (l' ++ [p]) (M' ++ [.rcd ks ds]) (upd H' p (.dK (List.zip (ks.map Sum.inr) vs))) := (r.side k1 k2).adopt k1 k2 upd_same ⟨nd.1, _, upd_same, zip_sv (e.mono (fun _ _ q => q) ⟨[p], rfl⟩) hl⟩
    refine t _ _ _ _ _ _ gA rA (.ref ?_) h1
    rw [List.getElem?_append_right (by rw [r.len]; exact Nat.le_refl _), r.len, Nat.sub_self]
    rfl
end
end J

namespace J
open PySem PySem.Spec PyProof.Rows L2
/-! ### plain data, alike -/
theorem pyL_of {xs : List D} {g : D → PyData} (h : ∀ x ∈ xs, pyD x = some (g x)) : pyL xs = some (xs.map g) := by
  induction xs with
  | nil => rfl
  | cons x xs ih =>
    unfold pyL
    rw [h x List.mem_cons_self, ih fun y hy => h y (List.mem_cons_of_mem _ hy)]
    rfl
theorem pyL_str (rs : List Str) : pyL (rs.map D.str) = some (rs.map PyData.str) := by
  induction rs with
  | nil => rfl
  | cons r rs ih => rw [List.map_cons]; unfold pyL; rw [ih]; rfl
theorem dep_all {ps : List PyData} {n : Nat} (h : ∀ p ∈ ps, p.depth ≤ n) : PyData.depthAll ps ≤ n := by
  induction ps with
  | nil => exact Nat.zero_le _
  | cons p ps ih => exact Nat.max_le.mpr ⟨h p List.mem_cons_self, ih fun q hq => h q (List.mem_cons_of_mem _ hq)⟩
theorem dep_strs (rs : List Str) : (PyData.list (rs.map PyData.str)).depth ≤ 60 := by
  have : PyData.depthAll (rs.map PyData.str) ≤ 0 := dep_all fun p hp => by
    obtain ⟨s, _, rfl⟩ := List.mem_map.mp hp
    exact Nat.le_refl _
  show PyData.depthAll (rs.map PyData.str) + 1 ≤ 60
  omega
theorem eqv_same {x : D} {p : PyData} (h : pyD x = some p) : PyData.eqv p p = true := PySem.SeqAt.eqv_refl_plain p (pyD_plain h)
theorem ne_self {M : Mem} {x y : D} {p : PyData} {Q : SQ} (h1 : pyD x = some p) (h3 : pyM M x = some p) (h2 : pyM M y = some p) (hd : p.depth ≤ 60) (q : Q (.bl false) M) : sEqG true x y M Q :=
  ⟨p, p, h3, h2, by rw [Nat.min_self]; exact hd, by rw [eqv_same h1, if_pos rfl]; exact q⟩
theorem eq_self {M : Mem} {x y : D} {p : PyData} {Q : SQ} (h1 : pyD x = some p) (h3 : pyM M x = some p) (h2 : pyM M y = some p) (hd : p.depth ≤ 60) (q : Q (.bl true) M) : sEqG false x y M Q :=
  ⟨p, p, h3, h2, by rw [Nat.min_self]; exact hd, by rw [eqv_same h1, if_neg Bool.false_ne_true]; exact q⟩
theorem ne_same {p : PyData} (h : p.plain = true) : (if true = true then !PyData.eqv p p else PyData.eqv p p) = false := by
  rw [if_pos rfl, PySem.SeqAt.eqv_refl_plain p h]; rfl
/-! ### the store's end -/
theorem set_end {M : Mem} {x y : MO} : (M ++ [x]).set M.length y = M ++ [y] := by
  rw [List.set_append_right _ _ (Nat.le_refl _), Nat.sub_self]; rfl
theorem get_end {M : Mem} {x : MO} : (M ++ [x])[M.length]? = some x := by
  rw [List.getElem?_append_right (Nat.le_refl _), Nat.sub_self]; rfl
theorem get_left {M E : Mem} {i : Nat} {o : MO} (h : M[i]? = some o) : (M ++ E)[i]? = some o := by
  rw [List.getElem?_append_left (List.getElem?_eq_some_iff.mp h).1]; exact h
theorem eqv_nil (ps : List PyData) : PyData.eqv (.list ps) (.list []) = ps.isEmpty := by
  cases ps <;> rfl
theorem ty_lst {M : Mem} {i : Nat} {xs : List D} (h : M[i]? = some (.lst xs)) : tyD M "list" (.ref i) := by
  unfold tyD
  dsimp only
  rw [h]
/-! ### one sign -/
def ch (c : Nat) : Str := ⟨#[c]⟩
theorem ch_len (c : Nat) : (ch c).length = 1 := rfl
theorem empty_eq : (Str.ofString "" : Str) = ⟨#[]⟩ := rfl
theorem join_chs (w : List Nat) : Txt.join (Str.ofString "") (w.map ch) = ⟨w.toArray⟩ := by
  have h := join_nil_signs ⟨w.toArray⟩
  unfold Txt.join
  rw [PySem.StrLaws.glued_eq_join]
  exact h
theorem map_sum_one (w : List Nat) : ((w.map ch).map (·.length)).sum = w.length := by
  induction w with
  | nil => rfl
  | cons c w ih =>
    show (ch c).length + ((w.map ch).map (·.length)).sum = _
    rw [ih, ch_len, List.length_cons]; omega
theorem str_app_list (a b : Str) : (a ++ b).cps.toList = a.cps.toList ++ b.cps.toList := by
  show (a.cps ++ b.cps).toList = _
  rw [Array.toList_append]
theorem str_app_len (a b : Str) : (a ++ b).length = a.length + b.length := by
  show (a.cps ++ b.cps).size = a.cps.size + b.cps.size
  rw [Array.size_append]
theorem repS_ch (c n : Nat) : repS (ch c) n = ⟨(List.replicate n c).toArray⟩ := by
  unfold repS
  congr 2
  induction n with
  | zero => rfl
  | succ n ih => rw [List.replicate_succ, List.flatten_cons, ih]; rfl
theorem repS_len (c n : Nat) : (repS (ch c) n).length = n := by
  rw [repS_ch]
  show ((List.replicate n c).toArray).size = n
  rw [List.size_toArray, List.length_replicate]
theorem repS_mem {c n d : Nat} (h : d ∈ (repS (ch c) n).cps.toList) : d = c := by
  rw [repS_ch] at h
  exact (List.mem_replicate.mp h).2
/-- a lift's six -/
def liftD (way : Str) (l t w f p : Int) : D := .tup [.str way, .int l, .int t, .int w, .int f, .int p]
/-! ### maps -/
def rowsD (rs : List Str) : D := .lst (rs.map D.str)
def isSign (c : Nat) : Bool := decide (c ∈ (Str.ofString "#.<>=").cps.toList)
theorem isSign_cases {c : Nat} (h : isSign c = true) : c = 35 ∨ c = 46 ∨ c = 60 ∨ c = 62 ∨ c = 61 := by
  have h : c ∈ [35, 46, 60, 62, 61] := of_decide_eq_true h
  simpa using h
def goodRows : List Str → Bool
  | [] => false
  | r :: t => (decide (1 ≤ (r :: t).length) && decide ((r :: t).length ≤ 20)) && ((decide (1 ≤ r.length) && decide (r.length ≤ 30)) && ((r :: t).all (fun s => decide (s.length = r.length)) && (r :: t).all (fun s => s.cps.toList.all isSign)))
structure Grid (rs : List Str) (W H : Nat) : Prop where
  len : rs.length = H
  h1 : 1 ≤ H
  h2 : H ≤ 20
  w1 : 1 ≤ W
  w2 : W ≤ 30
  row : ∀ s ∈ rs, s.length = W
  sg : ∀ s ∈ rs, ∀ c ∈ s.cps.toList, isSign c = true
theorem Grid.cons {rs : List Str} {W H : Nat} (g : Grid rs W H) : ∃ r t, rs = r :: t ∧ r.length = W ∧ t.length + 1 = H := by
  cases rs with
  | nil => have := g.len; have := g.h1; rw [List.length_nil] at *; omega
  | cons r t => exact ⟨r, t, rfl, g.row r List.mem_cons_self, g.len⟩
theorem good_grid {rs : List Str} (h : goodRows rs = true) : ∃ W H, Grid rs W H := by
  cases rs with
  | nil => cases h
  | cons r t =>
    unfold goodRows at h
    simp only [Bool.and_eq_true, decide_eq_true_eq, List.all_eq_true] at h
    obtain ⟨⟨a1, a2⟩, ⟨b1, b2⟩, c1, c2⟩ := h
    exact ⟨r.length, _, rfl, a1, a2, b1, b2, c1, c2⟩
theorem grid_good {rs : List Str} {W H : Nat} (g : Grid rs W H) : goodRows rs = true := by
  obtain ⟨r, t, rfl, hr, ht⟩ := g.cons
  unfold goodRows
  simp only [Bool.and_eq_true, decide_eq_true_eq, List.all_eq_true]
  have := g.len; have := g.h1; have := g.h2; have := g.w1; have := g.w2
  exact ⟨⟨by omega, by omega⟩, ⟨by omega, by omega⟩, fun s hs => by rw [g.row s hs, hr], g.sg⟩
def strsOf : List D → Option (List Str)
  | [] => some []
  | .str s :: r => (strsOf r).map (s :: ·)
  | _ :: _ => none
theorem strsOf_map (rs : List Str) : strsOf (rs.map D.str) = some rs := by
  induction rs with
  | nil => rfl
  | cons r t ih => show (strsOf (t.map D.str)).map (r :: ·) = _; rw [ih]; rfl
theorem strsOf_eq : ∀ {xs : List D} {rs : List Str}, strsOf xs = some rs → xs = rs.map D.str
  | [], rs, h => by cases h; rfl
  | .str s :: r, rs, h => by
    obtain ⟨t, h1, rfl⟩ := Option.map_eq_some_iff.mp (show (strsOf r).map (s :: ·) = some rs from h)
    rw [strsOf_eq h1]; rfl
  | .non :: r, rs, h => nomatch h
  | .bl _ :: r, rs, h => nomatch h
  | .int _ :: r, rs, h => nomatch h
  | .tup _ :: r, rs, h => nomatch h
  | .lst _ :: r, rs, h => nomatch h
  | .ref _ :: r, rs, h => nomatch h
  | .scr _ :: r, rs, h => nomatch h
  | .adr _ :: r, rs, h => nomatch h
/-- whether a thing is a map -/
def isMap : D → Bool
  | .lst xs => match strsOf xs with
    | some rs => goodRows rs
    | none => false
  | _ => false
theorem isMap_rows {rs : List Str} {W H : Nat} (g : Grid rs W H) : isMap (rowsD rs) = true := by
  show (match strsOf (rs.map D.str) with
    | some rs => goodRows rs
    | none => false) = true
  rw [strsOf_map]; exact grid_good g
/-- the sign at a place -/
def signAt (rs : List Str) (l t : Int) : Nat := (rs.getD (t / 8).toNat ⟨#[]⟩).cps.toList.getD (l / 8).toNat 0
/-- whether a sign's tile is solid at x from its left, y from its top -/
def solidS (c : Str) (x y : Int) : Bool := if c = Str.ofString ">" then decide (8 - 1 - y ≤ x) else if c = Str.ofString "<" then decide (8 - 1 - y ≤ 8 - 1 - x) else decide (c = Str.ofString "#")
def solidM (rs : List Str) (W H : Nat) (l t : Int) : Bool := if 0 ≤ l ∧ l < 8 * (W : Int) then (if 0 ≤ t ∧ t < 8 * (H : Int) then solidS (ch (signAt rs l t)) (l % 8) (t % 8) else false) else true
theorem grid_at {rs : List Str} {W H : Nat} (g : Grid rs W H) {l t : Int} (l0 : 0 ≤ l) (l1 : l < 8 * (W : Int)) (t0 : 0 ≤ t) (t1 : t < 8 * (H : Int)) :
    ∃ row c, row ∈ rs ∧ rs[(t / 8).toNat]? = some row ∧ row.length = W ∧ row.cps.toList[(l / 8).toNat]? = some c ∧ atI (rs.map D.str) (t / 8) = some (.str row) ∧ atI row.cps.toList (l / 8) = some c ∧ signAt rs l t = c ∧ isSign c = true := by
  have ht : (t / 8).toNat < rs.length := by rw [g.len]; omega
  have hr := g.row _ (List.getElem_mem ht)
  have hl : (l / 8).toNat < (rs[(t / 8).toNat]).cps.toList.length := by
    rw [Array.length_toList]; show _ < (rs[(t / 8).toNat]).length; rw [hr]; omega
  refine ⟨rs[(t / 8).toNat], _, List.getElem_mem ht, List.getElem?_eq_getElem ht, hr, List.getElem?_eq_getElem hl, atI_of (by omega) (by rw [List.getElem?_map, List.getElem?_eq_getElem ht]; rfl), atI_of (by omega) (List.getElem?_eq_getElem hl), ?_, g.sg _ (List.getElem_mem ht) _ (List.getElem_mem hl)⟩
  have e1 : rs.getD (t / 8).toNat ⟨#[]⟩ = rs[(t / 8).toNat] := by rw [List.getD_eq_getElem?_getD, List.getElem?_eq_getElem ht]; rfl
  unfold signAt
  rw [e1, List.getD_eq_getElem?_getD, List.getElem?_eq_getElem hl]; rfl
/-! ### a map in a mirror -/
def mirC (c : Nat) : Nat := if c = 60 then 62 else if c = 62 then 60 else c
def mirS (r : Str) : Str := ⟨(r.cps.toList.reverse.map mirC).toArray⟩
theorem mirC_mirC (c : Nat) : mirC (mirC c) = c := by
  unfold mirC
  by_cases h : c = 60
  · rw [if_pos h, if_neg (by decide), if_pos rfl, h]
  · rw [if_neg h]
    by_cases h2 : c = 62
    · rw [if_pos h2, if_pos rfl, h2]
    · rw [if_neg h2, if_neg h, if_neg h2]
theorem mirS_list (r : Str) : (mirS r).cps.toList = r.cps.toList.reverse.map mirC := rfl
theorem mirS_len (r : Str) : (mirS r).length = r.length := by
  show ((r.cps.toList.reverse.map mirC).toArray).size = r.cps.size
  rw [List.size_toArray, List.length_map, List.length_reverse, Array.length_toList]
theorem mirS_mirS (r : Str) : mirS (mirS r) = r := by
  unfold mirS
  obtain ⟨a⟩ := r
  have : (mirC ∘ mirC) = id := funext mirC_mirC
  show (⟨((a.toList.reverse.map mirC).reverse.map mirC).toArray⟩ : Str) = ⟨a⟩
  simp only [List.map_reverse, List.reverse_reverse, List.map_map, this, List.map_id]
theorem isSign_mir {c : Nat} (h : isSign c = true) : isSign (mirC c) = true := by
  rcases isSign_cases h with rfl | rfl | rfl | rfl | rfl <;> decide
theorem Grid.mir {rs : List Str} {W H : Nat} (g : Grid rs W H) : Grid (rs.map mirS) W H :=
  ⟨by rw [List.length_map, g.len], g.h1, g.h2, g.w1, g.w2, fun s hs => by
    obtain ⟨r, hr, rfl⟩ := List.mem_map.mp hs
    rw [mirS_len, g.row r hr], fun s hs c hc => by
    obtain ⟨r, hr, rfl⟩ := List.mem_map.mp hs
    rw [mirS_list] at hc
    obtain ⟨d, hd, rfl⟩ := List.mem_map.mp hc
    exact isSign_mir (g.sg r hr d (List.mem_reverse.mp hd))⟩
theorem mir_mir (rs : List Str) : (rs.map mirS).map mirS = rs := by
  rw [List.map_map]
  have : (mirS ∘ mirS) = id := funext mirS_mirS
  rw [this, List.map_id]
theorem solidS_mir {c : Nat} (h : isSign c = true) (x y : Int) : solidS (ch (mirC c)) (7 - x) y = solidS (ch c) x y := by
  rcases isSign_cases h with rfl | rfl | rfl | rfl | rfl
  · rfl
  · rfl
  · show decide (8 - 1 - y ≤ 7 - x) = decide (8 - 1 - y ≤ 8 - 1 - x)
    exact decide_eq_decide.mpr (by omega)
  · show decide (8 - 1 - y ≤ 8 - 1 - (7 - x)) = decide (8 - 1 - y ≤ x)
    exact decide_eq_decide.mpr (by omega)
  · rfl
theorem solid_mir {rs : List Str} {W H : Nat} (g : Grid rs W H) (l t : Int) : solidM (rs.map mirS) W H (8 * (W : Int) - 1 - l) t = solidM rs W H l t := by
  unfold solidM
  by_cases hl : 0 ≤ l ∧ l < 8 * (W : Int)
  · rw [if_pos hl, if_pos (by omega)]
    by_cases ht : 0 ≤ t ∧ t < 8 * (H : Int)
    · rw [if_pos ht, if_pos ht]
      obtain ⟨row, c, hm, h1, h2, h3, -, -, h4, h5⟩ := grid_at g hl.1 hl.2 ht.1 ht.2
      have e1 : (8 * (W : Int) - 1 - l) % 8 = 7 - l % 8 := by omega
      have hz : (l / 8).toNat < W := by omega
      have e2 : ((8 * (W : Int) - 1 - l) / 8).toNat = W - 1 - (l / 8).toNat := by omega
      have e3 : signAt (rs.map mirS) (8 * (W : Int) - 1 - l) t = mirC c := by
        have e4 : (rs.map mirS).getD (t / 8).toNat ⟨#[]⟩ = mirS row := by rw [List.getD_eq_getElem?_getD, List.getElem?_map, h1]; rfl
        unfold signAt
        rw [e4, mirS_list, List.getD_eq_getElem?_getD, List.getElem?_map, e2]
        have hlen : row.cps.toList.length = W := by rw [Array.length_toList]; exact h2
        rw [List.getElem?_reverse (by omega), hlen, show W - 1 - (W - 1 - (l / 8).toNat) = (l / 8).toNat by omega, h3]
        rfl
      rw [e1, e3, h4, solidS_mir h5]
    · rw [if_neg ht, if_neg ht]
  · rw [if_neg hl, if_neg (by omega)]
theorem rowsD_lt (rs : List Str) (n : Nat) : (rowsD rs).lt n = true := by
  show D.ltL n (rs.map D.str) = true
  induction rs with
  | nil => rfl
  | cons r t ih => show (true && D.ltL n (t.map D.str)) = true; rw [ih]; rfl
end J

namespace J
open PySem PySem.Spec PyProof.Rows L2

/-- how far a lift has gone -/
def wayGone (far pace t : Int) : Int := if t / pace % (2 * far) ≤ far then t / pace % (2 * far) else 2 * far - t / pace % (2 * far)

def isCount (d : D) (lo hi : Int) : Bool := match d with
  | .int i => decide (lo ≤ i) && decide (i ≤ hi)
  | _ => false

def isLift : D → Bool
  | .tup [.str way, l, t, w, f, p] => (decide (way = "across") || decide (way = "up")) && (isCount l 0 400 && (isCount t 0 400 && (isCount w 1 400 && (isCount f 1 400 && isCount p 1 100))))
  | _ => false
/-- a thing whose kind shows -/
def Plain1 (M : Mem) (d : D) : Prop := (tyN M d).isSome = true ∧ ∀ xs, d = .tup xs → ∀ x ∈ xs, (tyN M x).isSome = true

/-- where a lift is -/
def placeL (way : Str) (l t f p n : Int) : Int × Int := if way = "across" then (l + wayGone f p n, t) else (l, t - wayGone f p n)

theorem isCount_int {i lo hi : Int} : isCount (.int i) lo hi = true ↔ lo ≤ i ∧ i ≤ hi := by
  show (decide (lo ≤ i) && decide (i ≤ hi)) = true ↔ _
  rw [Bool.and_eq_true, decide_eq_true_iff, decide_eq_true_iff]
theorem isLift_iff {way : Str} {l t w f p : Int} : isLift (liftD way l t w f p) = true ↔ (way = "across" ∨ way = "up") ∧ (0 ≤ l ∧ l ≤ 400) ∧ (0 ≤ t ∧ t ≤ 400) ∧ (1 ≤ w ∧ w ≤ 400) ∧ (1 ≤ f ∧ f ≤ 400) ∧ (1 ≤ p ∧ p ≤ 100) := by
  show ((decide (way = "across") || decide (way = "up")) && (isCount (.int l) 0 400 && (isCount (.int t) 0 400 && (isCount (.int w) 1 400 && (isCount (.int f) 1 400 && isCount (.int p) 1 100))))) = true ↔ _
  rw [Bool.and_eq_true, Bool.and_eq_true, Bool.and_eq_true, Bool.and_eq_true, Bool.and_eq_true, Bool.or_eq_true, decide_eq_true_iff, decide_eq_true_iff, isCount_int, isCount_int, isCount_int, isCount_int, isCount_int]
theorem plain_lift {M : Mem} {way : Str} {l t w f p : Int} : Plain1 M (liftD way l t w f p) := ⟨rfl, fun xs e x hx => by
  cases e
  rcases List.mem_cons.mp hx with rfl | hx
  · rfl
  rcases List.mem_cons.mp hx with rfl | hx
  · rfl
  rcases List.mem_cons.mp hx with rfl | hx
  · rfl
  rcases List.mem_cons.mp hx with rfl | hx
  · rfl
  rcases List.mem_cons.mp hx with rfl | hx
  · rfl
  rcases List.mem_cons.mp hx with rfl | hx
  · rfl
  cases hx⟩

/-- a thing that need_map can look at -/
def MapLike (M : Mem) (d : D) : Prop := (∃ xs, d = .lst xs ∧ ∀ x ∈ xs, (tyN M x).isSome = true ∧ ∀ s, x = .str s → s.length ≤ sizeLine) ∨ ∃ a, tyN M d = some a ∧ isB a .lst = false ∧ isMap d = false
theorem isMap_inv {d : D} (h : isMap d = true) : ∃ rs W H, d = rowsD rs ∧ Grid rs W H := by
  unfold isMap at h
  split at h
  · split at h
    · rename_i xs rs e
      obtain ⟨W, H, g⟩ := good_grid h
      exact ⟨rs, W, H, by rw [strsOf_eq e]; rfl, g⟩
    · cases h
  · cases h
def strB : D → Bool
  | .str _ => true
  | _ => false
theorem strB_ty {M : Mem} {x : D} {a : Ty} (h : tyN M x = some a) : isB a .str = strB x := by
  cases x with
  | ref i =>
    unfold tyN at h
    dsimp only at h
    split at h <;> cases h <;> rfl
  | adr => cases h
  | _ => cases h; rfl
theorem strs_of {xs : List D} (h : (xs.map strB).all id = true) : ∃ rs : List Str, xs = rs.map D.str := by
  induction xs with
  | nil => exact ⟨[], rfl⟩
  | cons x xs ih =>
    rw [List.map_cons, List.all_cons, Bool.and_eq_true] at h
    obtain ⟨rs, rfl⟩ := ih h.2
    cases x with
    | str s => exact ⟨s :: rs, rfl⟩
    | _ => exact absurd (show false = true from h.1) Bool.false_ne_true
theorem strB_map (rs : List Str) : ((rs.map D.str).map strB).all id = true := by
  induction rs with
  | nil => rfl
  | cons r rs ih => rw [List.map_cons, List.map_cons, List.all_cons, ih]; rfl
def lenB (n : Nat) : D → Bool
  | .str s => decide ((s.length : Int) = (n : Int))
  | _ => false
def sgB : D → Bool
  | .str s => s.cps.toList.all isSign
  | _ => false
theorem map_bl (f : D → Bool) (xs : List D) : xs.map (fun x => D.bl (f x)) = (xs.map f).map D.bl := by rw [List.map_map]; rfl
theorem lenB_all {n : Nat} {rs : List Str} (h : ((rs.map D.str).map (lenB n)).all id = true) : ∀ s ∈ rs, s.length = n := fun s hs => by
  have := List.all_eq_true.mp h (lenB n (.str s)) (List.mem_map_of_mem (List.mem_map_of_mem hs))
  have e : (s.length : Int) = (n : Int) := of_decide_eq_true this
  omega
theorem lenB_all2 {n : Nat} {rs : List Str} (h : ∀ s ∈ rs, s.length = n) : ((rs.map D.str).map (lenB n)).all id = true := by
  rw [List.all_eq_true]
  intro b hb
  obtain ⟨d, hd, rfl⟩ := List.mem_map.mp hb
  obtain ⟨s, hs, rfl⟩ := List.mem_map.mp hd
  exact decide_eq_true (by rw [h s hs])
theorem sgB_all {rs : List Str} (h : ((rs.map D.str).map sgB).all id = true) : ∀ s ∈ rs, ∀ c ∈ s.cps.toList, isSign c = true := fun s hs =>
  List.all_eq_true.mp (List.all_eq_true.mp h (sgB (.str s)) (List.mem_map_of_mem (List.mem_map_of_mem hs)))
theorem sgB_all2 {rs : List Str} (h : ∀ s ∈ rs, ∀ c ∈ s.cps.toList, isSign c = true) : ((rs.map D.str).map sgB).all id = true := by
  rw [List.all_eq_true]
  intro b hb
  obtain ⟨d, hd, rfl⟩ := List.mem_map.mp hb
  obtain ⟨s, hs, rfl⟩ := List.mem_map.mp hd
  exact List.all_eq_true.mpr (h s hs)
theorem isMap_grid {rs : List Str} (h : isMap (.lst (rs.map D.str)) = true) : ∃ W H, Grid rs W H := by
  obtain ⟨rs2, W, H, e, g⟩ := isMap_inv h
  have : rs = rs2 := by
    have := (strsOf_map rs).symm.trans ((congrArg strsOf (D.lst.inj e)).trans (strsOf_map rs2))
    exact Option.some.inj this
  rw [this]; exact ⟨W, H, g⟩
theorem not_bad {rs : List Str} {W H : Nat} (g : Grid rs W H) {p : Prop} (h : isMap (rowsD rs) = false) : p := by
  rw [isMap_rows g] at h; cases h
theorem rows_like {M : Mem} {rs : List Str} {W H : Nat} (g : Grid rs W H) : MapLike M (rowsD rs) := .inl ⟨_, rfl, fun x hx => by
  obtain ⟨s, hs, rfl⟩ := List.mem_map.mp hx
  refine ⟨rfl, fun s' e => ?_⟩
  cases e
  have h1 := g.row s hs
  have h2 := g.w2
  exact Nat.le_trans (show s.length ≤ 30 by omega) (by decide)⟩

structure Lift where
  way : Str
  l : Int
  t : Int
  w : Int
  f : Int
  p : Int
def Lift.d (z : Lift) : D := liftD z.way z.l z.t z.w z.f z.p
def Lift.ok (z : Lift) : Prop := isLift z.d = true
def worldO (K : PySem.W.Frag) (rs : List Str) (ls : List Lift) : MO := .ins (He.ga K "World") ["rows", "lifts"] [some (rowsD rs), some (.lst (ls.map Lift.d))]
theorem lift_of {d : D} (h : isLift d = true) : ∃ z : Lift, d = z.d ∧ z.ok := by
  unfold isLift at h
  split at h
  · rename_i way l t w f p
    simp only [Bool.and_eq_true] at h
    have int : ∀ {x : D} {lo hi : Int}, isCount x lo hi = true → ∃ i, x = .int i := fun {x lo hi} e => by
      unfold isCount at e
      split at e
      · exact ⟨_, rfl⟩
      · cases e
    obtain ⟨h0, h1, h2, h3, h4, h5⟩ := h
    obtain ⟨l, rfl⟩ := int h1
    obtain ⟨t, rfl⟩ := int h2
    obtain ⟨w, rfl⟩ := int h3
    obtain ⟨f, rfl⟩ := int h4
    obtain ⟨p, rfl⟩ := int h5
    refine ⟨⟨way, l, t, w, f, p⟩, rfl, ?_⟩
    unfold Lift.ok Lift.d liftD isLift
    simp only [Bool.and_eq_true]
    exact ⟨h0, h1, h2, h3, h4, h5⟩
  · cases h
theorem lifts_of {xs : List D} (h : xs.all isLift = true) : ∃ ls : List Lift, xs = ls.map Lift.d ∧ ∀ z ∈ ls, z.ok := by
  induction xs with
  | nil => exact ⟨[], rfl, fun _ z => (nomatch z)⟩
  | cons x xs ih =>
    rw [List.all_cons, Bool.and_eq_true] at h
    obtain ⟨z, rfl, hz⟩ := lift_of h.1
    obtain ⟨ls, rfl, hl⟩ := ih h.2
    exact ⟨z :: ls, rfl, fun y hy => by
      rcases List.mem_cons.mp hy with rfl | hy
      · exact hz
      · exact hl y hy⟩

def ledgeM (rs : List Str) (W H : Nat) (l t : Int) : Bool := if (0 ≤ l ∧ l < 8 * (W : Int)) ∧ (0 ≤ t ∧ t < 8 * (H : Int)) ∧ t % 8 = 0 then decide (ch (signAt rs l t) = Str.ofString "=") else false

def freeM (rs : List Str) (W H : Nat) (l t : Int) : Bool := (List.range 10).all fun d => (List.range 6).all fun x => !solidM rs W H (l + (0 + (x : Int))) (t + (0 + (d : Int)))
def IsWorld (K : PySem.W.Frag) (M : Mem) (r : Nat) (rs : List Str) (W H : Nat) (ls : List Lift) : Prop := M[r]? = some (worldO K rs ls) ∧ Grid rs W H ∧ (∀ z ∈ ls, z.ok) ∧ ls.length ≤ 1000
theorem free_no {rs : List Str} {W H : Nat} {l t : Int} {d x : Nat} (hd : d < 10) (hx : x < 6) (h : solidM rs W H (l + (0 + (x : Int))) (t + (0 + (d : Int))) = true) : freeM rs W H l t = false := by
  cases e : freeM rs W H l t with
  | false => rfl
  | true =>
    have h1 := List.all_eq_true.mp e d (List.mem_range.mpr hd)
    have h2 := List.all_eq_true.mp h1 x (List.mem_range.mpr hx)
    rw [h] at h2; cases h2

/-- whether a body stands right over a lift -/
def onLift (z : Lift) (l t n : Int) : Bool := decide ((placeL z.way z.l z.t z.f z.p n).2 = t + 10) && (decide ((placeL z.way z.l z.t z.f z.p n).1 < l + 6) && decide (l < (placeL z.way z.l z.t z.f z.p n).1 + z.w))
def onAt (ls : List Lift) (l t n : Int) (i : Nat) : Bool := match ls[i]? with
  | some z => onLift z l t n
  | none => false
def underM (ls : List Lift) (l t n : Int) : List Nat := (List.range ls.length).filter (onAt ls l t n)
theorem ints_lt (xs : List Nat) (n : Nat) : (D.lst (xs.map fun (i : Nat) => D.int (0 + (i : Int)))).lt n = true := by
  show D.ltL n (xs.map fun (i : Nat) => D.int (0 + (i : Int))) = true
  induction xs with
  | nil => rfl
  | cons r t ih => show (true && D.ltL n (t.map fun (i : Nat) => D.int (0 + (i : Int)))) = true; rw [ih]; rfl

def ledgeAt (rs : List Str) (W H : Nat) (l t : Int) : Bool := (List.range 6).any fun x => ledgeM rs W H (l + (0 + (x : Int))) (t + 10)

def floorM (rs : List Str) (W H : Nat) (ls : List Lift) (l t n : Int) (drops : Bool) : Bool := !freeM rs W H l (t + 1) || (!drops && (ledgeAt rs W H l t || !(underM ls l t n).isEmpty))

/-- what holds of a step by step walk to and fro -/
def SwI (f : Int) (k : Nat) (g b : Int) : Prop := ∃ q : Int, q = (k : Int) % (2 * f) ∧ 0 ≤ q ∧ q < 2 * f ∧ (q ≤ f → g = q) ∧ (f < q → g = 2 * f - q) ∧ (0 < q → q < f → b = 1) ∧ (f < q → b = -1) ∧ (b = 1 ∨ b = -1)
theorem swI_step {f : Int} {k : Nat} {g b : Int} (hf : 1 ≤ f) (h : SwI f k g b) : SwI f (k + 1) (g + (if g + b < 0 ∨ f < g + b then 0 - b else b)) (if g + b < 0 ∨ f < g + b then 0 - b else b) := by
  obtain ⟨q, e, q0, q1, h1, h2, h3, h4, h5⟩ := h
  have e2 : ((k + 1 : Nat) : Int) % (2 * f) = if q + 1 = 2 * f then 0 else q + 1 := by
    rw [e]
    have hd := Int.mul_ediv_add_emod (k : Int) (2 * f)
    have h0 := Int.emod_nonneg (k : Int) (b := 2 * f) (by omega)
    have h1 := Int.emod_lt_of_pos (k : Int) (b := 2 * f) (by omega)
    generalize hx : (k : Int) / (2 * f) = x at hd
    generalize hy : (k : Int) % (2 * f) = y at hd h0 h1
    rw [show ((k + 1 : Nat) : Int) = (y + 1) + 2 * f * x by omega, Int.add_mul_emod_self_left]
    split
    · rename_i z
      rw [z, Int.emod_self]
    · exact Int.emod_eq_of_lt (by omega) (by omega)
  refine ⟨_, rfl, ?_⟩
  rw [e2]
  split <;> split <;> omega
theorem swI_gone {f : Int} {k : Nat} {g b : Int} (hf : 1 ≤ f) (h : SwI f k g b) {p n : Int} (hn : n / p = (k : Int)) : g = wayGone f p n := by
  obtain ⟨q, e, q0, q1, h1, h2, -⟩ := h
  unfold wayGone
  rw [hn, ← e]
  split
  · rename_i z; exact h1 z
  · rename_i z; exact h2 (by omega)

theorem look_solid {c : Nat} (h : isSign c = true) (x y : Int) : lookS ["#", ".", "=", ">", "<"] [.bl true, .bl false, .bl false, .bl (decide (x + y ≥ 7)), .bl (decide (y ≥ x))] (ch c) = some (.bl (solidS (ch c) x y)) := by
  rcases isSign_cases h with rfl | rfl | rfl | rfl | rfl
  · rfl
  · rfl
  · show some (D.bl (decide (y ≥ x))) = some (D.bl (decide (8 - 1 - y ≤ 8 - 1 - x)))
    rw [decide_eq_decide.mpr (show y ≥ x ↔ 8 - 1 - y ≤ 8 - 1 - x by omega)]
  · show some (D.bl (decide (x + y ≥ 7))) = some (D.bl (decide (8 - 1 - y ≤ x)))
    rw [decide_eq_decide.mpr (show x + y ≥ 7 ↔ 8 - 1 - y ≤ x by omega)]
  · rfl

theorem wg_range {f p n : Int} (hf : 1 ≤ f) : 0 ≤ wayGone f p n ∧ wayGone f p n ≤ f := by
  unfold wayGone
  have h0 := Int.emod_nonneg (n / p) (b := 2 * f) (by omega)
  have h1 := Int.emod_lt_of_pos (n / p) (b := 2 * f) (by omega)
  split <;> omega
theorem wg_zero {f p : Int} (hf : 1 ≤ f) : wayGone f p 0 = 0 := by
  unfold wayGone
  rw [Int.zero_ediv, Int.zero_emod, if_pos (by omega)]
theorem wg_per {f p n : Int} (hp : 1 ≤ p) : wayGone f p (n + 2 * f * p) = wayGone f p n := by
  unfold wayGone
  rw [Int.add_mul_ediv_right _ _ (by omega), Int.add_emod_right]
theorem wg_next {f q x : Int} (hf : 1 ≤ f) (hx : x = q ∨ x = q + 1) : ∃ r s, q % (2 * f) = r ∧ x % (2 * f) = s ∧ 0 ≤ r ∧ r < 2 * f ∧ (s = r ∨ s = r + 1 ∧ s < 2 * f ∨ s = 0 ∧ r = 2 * f - 1) := by
  have h0 := Int.emod_nonneg q (b := 2 * f) (by omega)
  have h1 := Int.emod_lt_of_pos q (b := 2 * f) (by omega)
  rcases hx with rfl | rfl
  · exact ⟨_, _, rfl, rfl, h0, h1, .inl rfl⟩
  · have hd := Int.mul_ediv_add_emod q (2 * f)
    refine ⟨_, _, rfl, rfl, h0, h1, .inr ?_⟩
    generalize q / (2 * f) = y at hd
    generalize q % (2 * f) = r at hd h0 h1
    rw [show q + 1 = (r + 1) + 2 * f * y by omega, Int.add_mul_emod_self_left]
    by_cases z : r + 1 = 2 * f
    · rw [z, Int.emod_self]; omega
    · rw [Int.emod_eq_of_lt (by omega) (by omega)]; omega
theorem wg_step {f p n : Int} (hf : 1 ≤ f) (hp : 1 ≤ p) : -1 ≤ wayGone f p n - wayGone f p (n + 1) ∧ wayGone f p n - wayGone f p (n + 1) ≤ 1 := by
  have hx : (n + 1) / p = n / p ∨ (n + 1) / p = n / p + 1 := by
    have a1 : n / p ≤ (n + 1) / p := Int.ediv_le_ediv (by omega) (by omega)
    have a2 : (n + 1) / p ≤ (n + p) / p := Int.ediv_le_ediv (by omega) (by omega)
    have a3 : (n + p) / p = n / p + 1 := by
      have := Int.add_mul_ediv_right n 1 (c := p) (by omega)
      rw [Int.one_mul] at this
      exact this
    omega
  obtain ⟨r, s, e1, e2, h0, h1, h2⟩ := wg_next hf hx
  unfold wayGone
  rw [e1, e2]
  split <;> split <;> omega
theorem pl_zero {way : Str} {l t f p : Int} (hf : 1 ≤ f) : placeL way l t f p 0 = (l, t) := by
  unfold placeL
  rw [wg_zero hf]
  split
  · rw [Int.add_zero]
  · rw [Int.sub_zero]
theorem pl_per {way : Str} {l t f p n : Int} (hp : 1 ≤ p) : placeL way l t f p (n + 2 * f * p) = placeL way l t f p n := by
  unfold placeL
  rw [wg_per hp]
theorem pl_step {way : Str} {l t f p n : Int} (hf : 1 ≤ f) (hp : 1 ≤ p) : ((placeL way l t f p n).1 - (placeL way l t f p (n + 1)).1).natAbs + ((placeL way l t f p n).2 - (placeL way l t f p (n + 1)).2).natAbs ≤ 1 := by
  have := wg_step (n := n) hf hp
  unfold placeL
  split <;> dsimp only <;> omega
theorem pl_range {way : Str} {l t f p n : Int} (hf : 1 ≤ f) : (((placeL way l t f p n).1 - l).natAbs : Int) + ((placeL way l t f p n).2 - t).natAbs ≤ f := by
  have := wg_range (n := n) (p := p) hf
  unfold placeL
  split <;> dsimp only <;> omega

theorem depR (rs : List Str) : (PyData.list (rs.map PyData.str)).depth ≤ 60 := dep_strs rs
theorem pyR {M : Mem} (rs : List Str) : pyM M (rowsD rs) = some (.list (rs.map PyData.str)) := by
  show (pyL (rs.map D.str)).map PyData.list = _
  rw [pyL_str]; rfl
theorem pl_strs (rs : List Str) : (PyData.list (rs.map PyData.str)).plain = true := pyD_plain (d := rowsD rs) (pyR (M := []) rs)
def placeD (p : Int × Int) : D := .tup [.int p.1, .int p.2]

def unitIn (m w : Int) : D → Bool
  | .int u => decide (m ≤ u) && decide (u < m + w)
  | _ => false
theorem above_any {l m w : Int} (hw : 1 ≤ w) : ((upTo l (l + 6 - l).toNat).filter (unitIn m w)).isEmpty = !(decide (m < l + 6) && decide (l < m + w)) := by
  rw [show (l + 6 - l).toNat = 6 by omega]
  by_cases h : m < l + 6 ∧ l < m + w
  · rw [decide_eq_true h.1, decide_eq_true h.2]
    have hm : D.int (l + (((max l m - l).toNat : Nat) : Int)) ∈ upTo l 6 := by
      unfold upTo
      exact List.mem_map.mpr ⟨(max l m - l).toNat, List.mem_range.mpr (by omega), rfl⟩
    have hp : unitIn m w (D.int (l + (((max l m - l).toNat : Nat) : Int))) = true := by
      unfold unitIn
      rw [Bool.and_eq_true, decide_eq_true_iff, decide_eq_true_iff]
      omega
    have := List.mem_filter.mpr ⟨hm, hp⟩
    cases e : (upTo l 6).filter (unitIn m w) with
    | nil => rw [e] at this; cases this
    | cons a b => rfl
  · have e : (upTo l 6).filter (unitIn m w) = [] := by
      rw [List.filter_eq_nil_iff]
      intro x hx
      obtain ⟨k, hk⟩ := List.getElem?_of_mem hx
      obtain ⟨h1, rfl⟩ := upTo_get hk
      unfold unitIn
      rw [Bool.and_eq_true, decide_eq_true_iff, decide_eq_true_iff]
      omega
    rw [e]
    have : (decide (m < l + 6) && decide (l < m + w)) = false := by
      rw [← Bool.not_eq_true, Bool.and_eq_true, decide_eq_true_iff, decide_eq_true_iff]
      exact h
    rw [this]; rfl
theorem pyL_ints {xs : List D} (h : ∀ x ∈ xs, ∃ i, x = .int i) : ∃ ps, pyL xs = some ps ∧ ps.length = xs.length := by
  refine ⟨_, pyL_of (g := fun d => match d with
    | .int i => .int i
    | _ => .none) (fun x hx => ?_), by rw [List.length_map]⟩
  obtain ⟨i, rfl⟩ := h x hx
  rfl
theorem isEmpty_len {α β : Type} {xs : List α} {ys : List β} (h : xs.length = ys.length) : xs.isEmpty = ys.isEmpty := by
  cases xs <;> cases ys <;> first | rfl | cases h
/-- xs != [] -/
theorem ne_nil {M : Mem} {xs : List D} {ps : List PyData} {Q : SQ} (h : pyL xs = some ps) (hl : ps.length = xs.length) (q : Q (.bl (!xs.isEmpty)) M) : sNe (.lst xs) (.lst []) M Q := by
  show sEqG true (.lst xs) (.lst []) M Q
  refine ⟨.list ps, .list [], ?_, rfl, Nat.le_trans (Nat.min_le_right _ _) (by decide), ?_⟩
  · show (pyL xs).map PyData.list = _
    rw [h]; rfl
  · rw [if_pos rfl, eqv_nil, isEmpty_len hl]; exact q
theorem pyL_lifts (ls : List Lift) : ∃ ps, pyL (ls.map Lift.d) = some ps ∧ ps.length = (ls.map Lift.d).length := by
  refine ⟨_, pyL_of (g := fun d => match d with
    | .tup [.str way, .int l, .int t, .int w, .int f, .int p] => .tuple [.str way, .int l, .int t, .int w, .int f, .int p]
    | _ => .none) (fun x hx => ?_), by rw [List.length_map]⟩
  obtain ⟨z, _, rfl⟩ := List.mem_map.mp hx
  rfl
theorem under_empty (ls : List Lift) (l t n : Int) : (underM ls l t n).isEmpty = ((ls.filter fun z => onLift z l t n).map Lift.d).isEmpty := by
  rw [List.isEmpty_map]
  unfold underM
  cases e : ls.filter fun z => onLift z l t n with
  | nil =>
    have h := List.filter_eq_nil_iff.mp e
    have : (List.range ls.length).filter (onAt ls l t n) = [] := List.filter_eq_nil_iff.mpr fun i hi => by
      have hi := List.mem_range.mp hi
      unfold onAt
      rw [List.getElem?_eq_getElem hi]
      exact h _ (List.getElem_mem hi)
    rw [this]; rfl
  | cons z r =>
    have hz : z ∈ ls.filter fun z => onLift z l t n := by rw [e]; exact List.mem_cons_self
    obtain ⟨h1, h2⟩ := List.mem_filter.mp hz
    obtain ⟨i, hi⟩ := List.getElem?_of_mem h1
    have : i ∈ (List.range ls.length).filter (onAt ls l t n) := List.mem_filter.mpr ⟨List.mem_range.mpr (List.getElem?_eq_some_iff.mp hi).1, by unfold onAt; rw [hi]; exact h2⟩
    cases e2 : (List.range ls.length).filter (onAt ls l t n) with
    | nil => rw [e2] at this; cases this
    | cons a b => rfl
end J

namespace J
open PySem PySem.Spec PyProof.Rows L2
/-! ### o.k as a target -/
def gFld (K : PySem.W.Frag) (ta : TE) (f : Str) : TG := fun v σ H Q => ta σ H fun x H2 => ∃ a C dx fs, x = .ref a ∧ H2 a = some (.ins C dx fs) ∧ Cls K C ∧ NoAttr K C f ∧ fs.length < 1000 ∧ Q σ (upd H2 a (.ins C dx (putF f v fs)))
theorem pg_fld {X : Cx} {o : Expr} {f : Str} {pos : Pos} {ta : TE} (ha : PE X o ta) : PG X (.Attribute o f pos) (gFld X.K ta f) := by
  refine ⟨fun pins s σ H v u Q I r h => ?_⟩
  rw [assign_Attribute]
  refine wpAny_bind (wpAny_holding (thn (ha.run pins s σ H _ I h) fun ov s1 ⟨x, H1, I1, r1, a, C, dx, fs, ex, ea, c, n, l, q⟩ => ?_))
  subst ex
  obtain rfl : ov = Value.ref a := r1
  refine wpAny_bind (wpAny_standAt (wpAny_bind (wpAny_holding (setattr_ok I1 ea c n l r fun s3 I3 => ?_))))
  exact wpAny_release ⟨σ, _, I3, q⟩
section
variable {c : JC} {X : Cx} {a b e o : Expr} {es : List Expr} {pos p apos : Pos} {sa sb se so : SE} {sr : SA} {x : Str}
def gSetF (C : Addr) (kk : Str) (i : Nat) (so : SE) : SG := fun d ρ M Q => so ρ M fun x M2 => match x with
  | .ref r => ∃ ks ds, M2[r]? = some (.ins C ks ds) ∧ ks[i]? = some kk ∧ Q ρ (M2.set r (.ins C ks (ds.set i (some d))))
  | _ => False
theorem jg_fld {C : Addr} {kk : Str} (i : Nat) (ho : JE c X o so) (cl : Cls X.K C) (na : NoAttr X.K C kk) : JG c X (.Attribute o kk pos) (gSetF C kk i so) := by
  obtain ⟨t1, p1, z1⟩ := ho
  refine ⟨_, pg_fld p1, fun B loc M H σ ρ d v Q Qd A e h t => z1 B loc M H σ ρ _ _ A h fun d2 M2 v2 B2 l2 H2 g2 r2 e2 h2 => ?_⟩
  cases e2 with
  | ref hi =>
    obtain ⟨ks, ds, h3, h4, q⟩ := h2
    obtain ⟨_, dn⟩ := r2.obj _ _ _ hi h3 trivial
    obtain ⟨⟨hz, nd⟩, dx, ws, h6, h7⟩ := dn
    have hc := cnt_le ds
    have hl : ws.length < 1000 := by have := h7.1; have := h7.2.1; omega
    refine ⟨_, C, dx, ws, rfl, h6, cl, na, hl, ?_⟩
    obtain ⟨r3, g3⟩ := r2.put (o := .ins C ks (ds.set i (some d))) (ho := .ins C dx (putF kk v ws)) hi h3 trivial fun H' h' => ⟨⟨hz, nd⟩, dx, _, h', h7.put nd h4 (e.go g2)⟩
    have gg := g2.trans g3
    exact t _ _ _ _ _ _ gg r3 (A.env.go gg) q
  | _ => exact h2.elim
/-! ### d['k'] = v -/
theorem DenSV.put {K : PySem.W.Frag} {B : Hp} {loc : List Addr} {d : D} {v : V} {k : Str} : ∀ {ks : List Str} {ds : List D} {ws : List (Key × V)} {i : Nat}, DenSV K B loc ks ds ws → ks.Nodup → ks[i]? = some k → Den K B loc d v →
    DenSV K B loc ks (ds.set i d) (ws.map fun kv => if kv.1 = Sum.inr k then (kv.1, v) else kv) ∧ (ws.any fun kv => decide (kv.1 = Sum.inr k)) = true
  | _, _, _, i, .nil, _, h, _ => by cases h
  | k1 :: ks, d1 :: ds, _, i, .cons (v := v1) (vs := ws) h r, nd, hi, e => by
    obtain ⟨n1, n2⟩ := List.nodup_cons.mp nd
    cases i with
    | zero =>
      cases (Option.some.inj hi : k1 = k)
      refine ⟨?_, ?_⟩
      · rw [List.map_cons, if_pos rfl]
        have hn : ∀ {ks : List Str} {ds : List D} {ws : List (Key × V)}, DenSV K B loc ks ds ws → k ∉ ks → (ws.map fun kv => if kv.1 = Sum.inr k then (kv.1, v) else kv) = ws := by
          intro ks ds ws h
          induction h with
          | nil => intro _; rfl
          | cons h r ih =>
            intro hk
            rw [List.map_cons, if_neg (fun z => hk (by rw [Sum.inr.inj z]; exact List.mem_cons_self)), ih fun z => hk (List.mem_cons_of_mem _ z)]
        rw [hn r n1]
        exact .cons e r
      · rw [List.any_cons, decide_eq_true rfl]; rfl
    | succ i =>
      obtain ⟨h1, h2⟩ := DenSV.put (i := i) r n2 hi e
      have hne : ¬ ((Sum.inr k1 : Key) = Sum.inr k) := fun z => n1 (by rw [Sum.inr.inj z]; exact List.mem_of_getElem? hi)
      refine ⟨?_, ?_⟩
      · rw [List.map_cons, if_neg hne]
        exact .cons h h1
      · rw [List.any_cons, h2, Bool.or_true]
theorem DenSV.length {K : PySem.W.Frag} {B : Hp} {loc : List Addr} : ∀ {ks : List Str} {ds : List D} {ws : List (Key × V)}, DenSV K B loc ks ds ws → ws.length = ks.length ∧ ds.length = ks.length
  | _, _, _, .nil => ⟨rfl, rfl⟩
  | _, _, _, .cons _ r => ⟨congrArg Nat.succ (DenSV.length r).1, congrArg Nat.succ (DenSV.length r).2⟩
def gRSet (k : Str) (i : Nat) (so : SE) : SG := fun d ρ M Q => so ρ M fun x M1 => match x with
  | .ref r => ∃ ks ds, M1[r]? = some (.rcd ks ds) ∧ ks[i]? = some k ∧ ks.length ≤ 900 ∧ Q ρ (M1.set r (.rcd ks (ds.set i d)))
  | _ => False
theorem jg_rset {k : Str} {j : Nat} (i : Nat) (hu : X.A.units + 1 < cLine) (ho : JE c X o so)
    (ha : ∀ v, assign (.Subscript o (.Constant (.str k) j p) pos) X.env v = (do
      let ov ← holding [v] (eval o X.env)
      let iv ← holding [v, ov] (eval (.Constant (.str k) j p) X.env)
      standAt pos
      holding [v, ov, iv] (setItem ov iv v)
      release [v, ov, iv] []) := by intro _; rfl) : JG c X (.Subscript o (.Constant (.str k) j p) pos) (gRSet k i so) := by
  obtain ⟨t1, p1, z1⟩ := ho
  refine ⟨_, pg_sub p1 pe_str (set_dict hu) ha, fun B loc M H σ ρ d v Q Qd A e h t => z1 B loc M H σ ρ _ _ A h fun d1 M1 v1 B1 l1 H1 g1 r1 e1 h1 => ?_⟩
  cases e1 with
  | ref hi =>
    obtain ⟨ks, ds, h2, h3, h4, q⟩ := h1
    obtain ⟨_, nd, ws, hw, dw⟩ := r1.obj _ _ _ hi h2 trivial
    obtain ⟨x1, x2⟩ := dw.put nd h3 (e.go g1)
    have hl := dw.length.1
    refine ⟨_, _, rfl, .inl ⟨ws, .inr k, hw, rfl, Nat.lt_of_le_of_lt (show ws.length ≤ 900 by omega) (by decide), rfl⟩, ?_⟩
    have ep : putK ws (Sum.inr k) v = ws.map fun kv => if kv.1 = Sum.inr k then (kv.1, v) else kv := if_pos x2
    obtain ⟨r3, g3⟩ := r1.put (o := .rcd ks (ds.set i d)) (ho := .dK (putK ws (Sum.inr k) v)) hi h2 trivial fun H' h' => ⟨nd, _, h', by rw [ep]; exact x1⟩
    have gg := g1.trans g3
    exact t _ _ _ _ _ _ gg r3 (A.env.go gg) q
  | _ => exact h1.elim
/-! ### sorted(ints) -/
def sSortI : SN := fun xs M Q => match xs with
  | [x] => ∃ ns : List Int, asL M x = some (ns.map D.int) ∧ ns.length < 64 ∧ ∀ ys : List Int, ys.Perm ns → ys.Pairwise (· ≤ ·) → Q (.lst (ys.map D.int)) M
  | _ => False
theorem ints_of {K : PySem.W.Frag} {B : Hp} {loc : List Addr} : ∀ {ns : List Int} {vs : List V}, DenL K B loc (ns.map D.int) vs → vs = ns.map V.int
  | [], _, .nil => rfl
  | _ :: _, _, .cons .int r => by rw [ints_of r]; rfl
theorem ints_denL {K : PySem.W.Frag} {B : Hp} {loc : List Addr} : ∀ ns : List Int, DenL K B loc (ns.map D.int) (ns.map V.int)
  | [] => .nil
  | _ :: r => .cons .int (ints_denL r)
theorem jc_sorted : JCall X (.builtin "sorted") sSortI := ⟨_, cr_sorted, fun B loc M H xs vs Q Qd r d h t => by
  unfold sSortI at h
  split at h
  · obtain ⟨ns, h1, h2, q⟩ := h
    cases d with
    | cons d1 d2 =>
      cases d2
      obtain ⟨a, ws, rfl, s1, l1⟩ := asL_ok r d1 h1
      have := ints_of l1
      subst this
      refine ⟨a, ns, rfl, s1, h2, fun ys p hp hs hf => ?_⟩
      obtain ⟨r4, g4⟩ := r.new (o := .lst (ys.map V.int)) hf
      exact t _ _ _ _ _ _ g4 r4 (.lst upd_same (ints_denL ys)) (q ys hp hs)
  · exact h.elim⟩
/-! ### list(a text) -/
def sgs (z : Str) : List Str := z.cps.toList.map fun c => ⟨#[c]⟩
theorem vals_sg {z : Str} {acc : Array Value} (h : ItemsOf (SignAt z) acc z.cps.size) : Vals ((sgs z).map V.str) acc.toList := by
  refine vals_of_at (by rw [List.length_map]; unfold sgs; rw [List.length_map, Array.length_toList, Array.length_toList, h.1]) fun j x u h1 h2 => ?_
  have h3 := h.2 j u (by rw [← Array.getElem?_toList]; exact h2)
  unfold sgs at h1
  rw [List.map_map, List.getElem?_map] at h1
  obtain ⟨c, hc, rfl⟩ := Option.map_eq_some_iff.mp h1
  rw [Array.getElem?_toList] at hc
  obtain ⟨c2, t, e1, rfl⟩ := h3
  rw [hc] at e1
  cases e1
  exact ⟨t, rfl⟩
theorem call_listT (hc : X.calm = true) : CallR X (.type "list") (fun xs H Q => ∃ z : Str, xs = [.str z] ∧ z.length ≤ sizeLine ∧ ∀ l, H l = none → Q (.ref l) (upd H l (.lst ((sgs z).map V.str)))) := by
  intro pins s σ H xs us Q I r h
  obtain ⟨z, rfl, hz, q⟩ := h
  obtain ⟨u, rfl, t, rfl⟩ := vals1 r
  refine call_list_str (I.ok.hd hc) z t (fun h' tk acc c' hk e' hi => ?_) hz
  refine ⟨.ref s.heap.objs.size, upd H s.heap.objs.size (.lst ((sgs z).map V.str)), I.laid hk (Nat.le_refl _) (show ObjOk X.prog X.w _ _ _ (.lst ((sgs z).map V.str)) from ⟨?_, acc.toList, c', vals_sg hi, ?_⟩), rfl, q _ (I.hok.fresh (Nat.le_refl _))⟩
  · unfold sgs; rw [List.length_map, List.length_map, Array.length_toList]; exact hz
  · rw [Array.toArray_toList]; exact e'
def sListT : SN := fun xs M Q => match xs with
  | [.str z] => z.length ≤ sizeLine ∧ Q (.lst ((sgs z).map D.str)) M
  | _ => False
theorem strs_denL {K : PySem.W.Frag} {B : Hp} {loc : List Addr} : ∀ zs : List Str, DenL K B loc (zs.map D.str) (zs.map V.str)
  | [] => .nil
  | _ :: r => .cons .str (strs_denL r)
theorem jc_listT (hc : X.calm = true) : JCall X (.type "list") sListT := ⟨_, call_listT hc, fun B loc M H xs vs Q Qd r d h t => by
  unfold sListT at h
  split at h
  · cases d with
    | cons d1 d2 =>
      cases d2
      cases d1
      refine ⟨_, rfl, h.1, fun p hf => ?_⟩
      obtain ⟨r4, g4⟩ := r.new (o := .lst _) hf
      exact t _ _ _ _ _ _ g4 r4 (.lst upd_same (strs_denL _)) h.2
  · exact h.elim⟩
theorem eqv_strs (a b : List Str) : PyData.eqv (.list (a.map PyData.str)) (.list (b.map PyData.str)) = decide (a = b) := by
  show PyData.eqvAll (a.map PyData.str) (b.map PyData.str) = _
  induction a generalizing b with
  | nil =>
    cases b with
    | nil => rfl
    | cons y b => rfl
  | cons x a ih =>
    cases b with
    | nil => rfl
    | cons y b =>
      show (PyData.eqv (.str x) (.str y) && PyData.eqvAll (a.map PyData.str) (b.map PyData.str)) = _
      rw [ih, eqv_str]
      by_cases h : x = y <;> by_cases h2 : a = b <;> simp [h, h2]
end
end J

namespace J
open PySem PySem.Spec PyProof.Rows L2
/-! ### runners -/
structure Wd where
  rs : List Str
  W : Nat
  H : Nat
  ls : List Lift
def Wd.ok (e : Wd) : Prop := Grid e.rs e.W e.H ∧ (∀ z ∈ e.ls, z.ok) ∧ e.ls.length ≤ 1000
abbrev IsW (K : PySem.W.Frag) (M : Mem) (w : Nat) (e : Wd) : Prop := IsWorld K M w e.rs e.W e.H e.ls
theorem isW {K : PySem.W.Frag} {M : Mem} {w : Nat} {e : Wd} (h : M[w]? = some (worldO K e.rs e.ls)) (k : e.ok) : IsW K M w e := ⟨h, k.1, k.2.1, k.2.2⟩
theorem IsWorld.ok {K : PySem.W.Frag} {M : Mem} {w : Nat} {e : Wd} (h : IsW K M w e) : e.ok := ⟨h.2.1, h.2.2.1, h.2.2.2⟩
abbrev Wd.free (e : Wd) (x y : Int) : Bool := freeM e.rs e.W e.H x y
abbrev Wd.floor (e : Wd) (x y t : Int) (b : Bool) : Bool := floorM e.rs e.W e.H e.ls x y t b
structure RS where
  t : Int
  x : Int
  y : Int
  vx : Int
  vy : Int
  j : Bool
def runnerO (K : PySem.W.Frag) (w : Nat) (s : RS) : MO := .ins (He.ga K "Runner") ["world", "time", "left", "top", "across", "down", "was_jumping"] [some (.ref w), some (.int s.t), some (.int s.x), some (.int s.y), some (.int s.vx), some (.int s.vy), some (.bl s.j)]
theorem IsWorld.put {K : PySem.W.Frag} {M : Mem} {w r x : Nat} {e : Wd} {s : RS} {o : MO} (hw : IsW K M w e) (hr : M[r]? = some (runnerO K x s)) : IsW K (M.set r o) w e := by
  refine isW ?_ hw.ok
  by_cases q : r = w
  · have h := hw.1
    rw [← q, hr] at h
    have h2 := congrArg (fun o => match o with
      | some (MO.ins _ ks _) => ks.length
      | _ => 0) h
    exact absurd (show (7 : Nat) = 2 from h2) (by decide)
  · rw [List.getElem?_set_ne q]; exact hw.1
theorem set_self {M : Mem} {r : Nat} {o : MO} (h : M[r]? = some o) : M.set r o = M := by
  refine List.ext_getElem? fun i => ?_
  by_cases q : r = i
  · subst q
    rw [List.getElem?_set_self (List.getElem?_eq_some_iff.mp h).1, h]
  · rw [List.getElem?_set_ne q]
/-- whether a key is held -/
def has (c : Nat) (z : Str) : Bool := decide (c ∈ z.cps.toList)
def goodKeys (z : Str) : Bool := (z.cps.toList.all fun c => decide (c ∈ [108, 106, 114, 100])) && decide (z.cps.toList = [108, 106, 114, 100].filter fun c => decide (c ∈ z.cps.toList))
def isKeys : D → Bool
  | .str z => goodKeys z
  | _ => false
def carryM (e : Wd) (s : RS) : RS := match underM e.ls s.x s.y s.t with
  | [] => { s with t := s.t + 1 }
  | i :: _ => match e.ls[i]? with
    | none => { s with t := s.t + 1 }
    | some z =>
      if e.free (s.x + (placeL z.way z.l z.t z.f z.p (s.t + 1)).1 - (placeL z.way z.l z.t z.f z.p s.t).1) (s.y + (placeL z.way z.l z.t z.f z.p (s.t + 1)).2 - (placeL z.way z.l z.t z.f z.p s.t).2) = true then
        { s with t := s.t + 1, x := s.x + (placeL z.way z.l z.t z.f z.p (s.t + 1)).1 - (placeL z.way z.l z.t z.f z.p s.t).1, y := s.y + (placeL z.way z.l z.t z.f z.p (s.t + 1)).2 - (placeL z.way z.l z.t z.f z.p s.t).2 }
      else { s with t := s.t + 1 }
def pushM (z : Str) (vx : Int) : Int := if b2i (has 114 z) - b2i (has 108 z) = 0 then b2i (decide (vx < 0)) - b2i (decide (0 < vx)) else b2i (has 114 z) - b2i (has 108 z)
def speedM (z : Str) (s : RS) : RS := { s with vx := max (0 - 3) (min 3 (s.vx + pushM z s.vx)) }
def leapM (e : Wd) (z : Str) (s : RS) : RS := if e.floor s.x s.y s.t (has 100 z) = true ∧ 0 ≤ s.vy then { s with vy := if has 106 z = true ∧ s.j = false then 0 - 6 else 0 } else { s with vy := min 6 (s.vy + 1) }
/-- one unit to a side: what comes of it, or that nothing does -/
def stepM (e : Wd) (b : Int) (s : RS) : Option RS :=
  if e.free (s.x + b) s.y = true then
    some (if e.floor s.x s.y s.t false = true ∧ 0 ≤ s.vy ∧ e.floor (s.x + b) s.y s.t false = false ∧ e.floor (s.x + b) (s.y + 1) s.t false = true then { s with x := s.x + b, y := s.y + 1 } else { s with x := s.x + b })
  else if e.floor s.x s.y s.t false = true ∧ e.free (s.x + b) (s.y - 1) = true then some { s with x := s.x + b, y := s.y - 1 }
  else none
def acrossN (e : Wd) (b : Int) : Nat → RS → RS
  | 0, s => s
  | n + 1, s => match stepM e b s with
    | some s' => acrossN e b n s'
    | none => { s with vx := 0 }
def acrossM (e : Wd) (s : RS) : RS := acrossN e (if 0 < s.vx then 1 else -1) s.vx.natAbs s
def stopM (e : Wd) (d : Bool) (s : RS) : Bool := if 0 < s.vy then e.floor s.x s.y s.t d else !e.free s.x (s.y - 1)
def downN (e : Wd) (d : Bool) : Nat → RS → RS
  | 0, s => s
  | n + 1, s => if stopM e d s = true then { s with vy := 0 } else downN e d n { s with y := s.y + (if 0 < s.vy then 1 else -1) }
def downM (e : Wd) (d : Bool) (s : RS) : RS := downN e d s.vy.natAbs s
def tickM (e : Wd) (z : Str) (s : RS) : RS := { downM e (has 100 z) (acrossM e (leapM e z (speedM z (carryM e s)))) with j := has 106 z }
/-! #### what holds all along -/
structure RS.ok (e : Wd) (s : RS) : Prop where
  fr : e.free s.x s.y = true
  v1 : -3 ≤ s.vx
  v2 : s.vx ≤ 3
  d1 : -6 ≤ s.vy
  d2 : s.vy ≤ 6
  t0 : 0 ≤ s.t
theorem free_x {e : Wd} {x y : Int} (h : e.free x y = true) : 0 ≤ x ∧ x + 5 < 8 * (e.W : Int) := by
  have key : ∀ k : Nat, k < 6 → 0 ≤ x + (0 + (k : Int)) ∧ x + (0 + (k : Int)) < 8 * (e.W : Int) := fun k hk => by
    have h1 := List.all_eq_true.mp h 0 (List.mem_range.mpr (by omega))
    have h2 := List.all_eq_true.mp h1 k (List.mem_range.mpr hk)
    by_cases q : 0 ≤ x + (0 + (k : Int)) ∧ x + (0 + (k : Int)) < 8 * (e.W : Int)
    · exact q
    · have : solidM e.rs e.W e.H (x + (0 + (k : Int))) (y + (0 + ((0 : Nat) : Int))) = true := if_neg q
      rw [this] at h2; cases h2
  have a := key 0 (by omega)
  have b := key 5 (by omega)
  omega
theorem RS.ok.x {e : Wd} {s : RS} (h : s.ok e) (k : e.ok) : -(2 ^ 60) < s.x ∧ s.x < 2 ^ 60 := by
  have := free_x h.fr
  have := k.1.w2
  omega
theorem free_of_floor {e : Wd} {x y t : Int} {b : Bool} (h : e.floor x y t b = false) : e.free x (y + 1) = true := by
  unfold Wd.floor floorM at h
  rw [Bool.or_eq_false_iff] at h
  simpa using h.1
theorem carry_ok {e : Wd} {s : RS} (h : s.ok e) : (carryM e s).ok e ∧ (carryM e s).t = s.t + 1 := by
  have base : ({ s with t := s.t + 1 } : RS).ok e := ⟨h.fr, h.v1, h.v2, h.d1, h.d2, by have := h.t0; show 0 ≤ s.t + 1; omega⟩
  unfold carryM
  split
  · exact ⟨base, rfl⟩
  · split
    · exact ⟨base, rfl⟩
    · split
      · rename_i hf
        exact ⟨⟨hf, h.v1, h.v2, h.d1, h.d2, base.t0⟩, rfl⟩
      · exact ⟨base, rfl⟩
theorem speed_ok {e : Wd} {z : Str} {s : RS} (h : s.ok e) : (speedM z s).ok e ∧ (speedM z s).t = s.t := by
  refine ⟨⟨h.fr, ?_, ?_, h.d1, h.d2, h.t0⟩, rfl⟩
  · show -3 ≤ max (0 - 3) (min 3 (s.vx + pushM z s.vx)); omega
  · show max (0 - 3) (min 3 (s.vx + pushM z s.vx)) ≤ 3; omega
theorem leap_ok {e : Wd} {z : Str} {s : RS} (h : s.ok e) : (leapM e z s).ok e ∧ (leapM e z s).t = s.t := by
  have := h.d1
  have := h.d2
  unfold leapM
  split
  · refine ⟨⟨h.fr, h.v1, h.v2, ?_, ?_, h.t0⟩, rfl⟩
    · show -6 ≤ (if has 106 z = true ∧ s.j = false then 0 - 6 else 0 : Int); split <;> omega
    · show (if has 106 z = true ∧ s.j = false then 0 - 6 else 0 : Int) ≤ 6; split <;> omega
  · refine ⟨⟨h.fr, h.v1, h.v2, ?_, ?_, h.t0⟩, rfl⟩
    · show -6 ≤ min 6 (s.vy + 1); omega
    · show min 6 (s.vy + 1) ≤ 6; omega
theorem step_ok {e : Wd} {b : Int} {s s' : RS} (h : s.ok e) (hs : stepM e b s = some s') : s'.ok e ∧ s'.t = s.t ∧ s'.vx = s.vx ∧ s'.vy = s.vy ∧ s'.j = s.j := by
  unfold stepM at hs
  split at hs
  · rename_i hf
    cases hs
    split
    · rename_i hc
      exact ⟨⟨free_of_floor hc.2.2.1, h.v1, h.v2, h.d1, h.d2, h.t0⟩, rfl, rfl, rfl, rfl⟩
    · exact ⟨⟨hf, h.v1, h.v2, h.d1, h.d2, h.t0⟩, rfl, rfl, rfl, rfl⟩
  · split at hs
    · rename_i hc
      cases hs
      exact ⟨⟨hc.2, h.v1, h.v2, h.d1, h.d2, h.t0⟩, rfl, rfl, rfl, rfl⟩
    · cases hs
theorem acrossN_ok {e : Wd} {b : Int} : ∀ {n : Nat} {s : RS}, s.ok e → (acrossN e b n s).ok e ∧ (acrossN e b n s).t = s.t ∧ (acrossN e b n s).vy = s.vy
  | 0, s, h => ⟨h, rfl, rfl⟩
  | n + 1, s, h => by
    unfold acrossN
    cases q : stepM e b s with
    | none => exact ⟨⟨h.fr, by show (-3 : Int) ≤ 0; omega, by show (0 : Int) ≤ 3; omega, h.d1, h.d2, h.t0⟩, rfl, rfl⟩
    | some s' =>
      obtain ⟨h1, h2, h3, h4, h5⟩ := step_ok h q
      obtain ⟨h6, h7, h8⟩ := acrossN_ok (n := n) h1
      exact ⟨h6, h7.trans h2, h8.trans h4⟩
theorem across_ok {e : Wd} {s : RS} (h : s.ok e) : (acrossM e s).ok e ∧ (acrossM e s).t = s.t := ⟨(acrossN_ok h).1, (acrossN_ok h).2.1⟩
theorem stop_ok {e : Wd} {d : Bool} {s : RS} (h : s.ok e) (hv : s.vy ≠ 0) (hs : stopM e d s = false) : ({ s with y := s.y + (if 0 < s.vy then 1 else -1) } : RS).ok e := by
  refine ⟨?_, h.v1, h.v2, h.d1, h.d2, h.t0⟩
  unfold stopM at hs
  by_cases q : 0 < s.vy
  · rw [if_pos q] at hs
    show e.free s.x (s.y + (if 0 < s.vy then 1 else -1)) = true
    rw [if_pos q]
    exact free_of_floor hs
  · rw [if_neg q] at hs
    show e.free s.x (s.y + (if 0 < s.vy then 1 else -1)) = true
    rw [if_neg q, show s.y + -1 = s.y - 1 by omega]
    simpa using hs
theorem downN_ok {e : Wd} {d : Bool} : ∀ {n : Nat} {s : RS}, s.ok e → (n ≠ 0 → s.vy ≠ 0) → (downN e d n s).ok e ∧ (downN e d n s).t = s.t
  | 0, s, h, _ => ⟨h, rfl⟩
  | n + 1, s, h, hv => by
    unfold downN
    by_cases q : stopM e d s = true
    · rw [if_pos q]
      exact ⟨⟨h.fr, h.v1, h.v2, by show (-6 : Int) ≤ 0; omega, by show (0 : Int) ≤ 6; omega, h.t0⟩, rfl⟩
    · rw [if_neg q]
      exact downN_ok (stop_ok h (hv (Nat.succ_ne_zero n)) (by simpa using q)) fun _ => hv (Nat.succ_ne_zero n)
theorem down_ok {e : Wd} {d : Bool} {s : RS} (h : s.ok e) : (downM e d s).ok e ∧ (downM e d s).t = s.t := downN_ok h fun hn z => hn (by rw [z]; rfl)
theorem tick_ok {e : Wd} {z : Str} {s : RS} (h : s.ok e) : (tickM e z s).ok e ∧ (tickM e z s).t = s.t + 1 := by
  obtain ⟨a1, a2⟩ := carry_ok h
  obtain ⟨b1, b2⟩ := speed_ok (z := z) a1
  obtain ⟨c1, c2⟩ := leap_ok (z := z) b1
  obtain ⟨d1, d2⟩ := across_ok c1
  obtain ⟨e1, e2⟩ := down_ok (d := has 100 z) d1
  refine ⟨⟨e1.fr, e1.v1, e1.v2, e1.d1, e1.d2, e1.t0⟩, ?_⟩
  show (downM e (has 100 z) _).t = _
  rw [e2, d2, c2, b2, a2]
/-- where a runner is tick by tick -/
def runM (e : Wd) : List Str → RS → List (Int × Int)
  | [], _ => []
  | z :: zs, s => ((tickM e z s).x, (tickM e z s).y) :: runM e zs (tickM e z s)
def afterM (e : Wd) : List Str → RS → RS
  | [], s => s
  | z :: zs, s => afterM e zs (tickM e z s)
theorem afterM_snoc (e : Wd) : ∀ (zs : List Str) (z : Str) (s : RS), afterM e (zs ++ [z]) s = tickM e z (afterM e zs s)
  | [], _, _ => rfl
  | _ :: zs, z, s => afterM_snoc e zs z _
theorem runM_snoc (e : Wd) : ∀ (zs : List Str) (z : Str) (s : RS), runM e (zs ++ [z]) s = runM e zs s ++ [((tickM e z (afterM e zs s)).x, (tickM e z (afterM e zs s)).y)]
  | [], _, _ => rfl
  | a :: zs, z, s => by
    show _ :: runM e (zs ++ [z]) _ = _
    rw [runM_snoc e zs z]; rfl
theorem runM_len (e : Wd) : ∀ (zs : List Str) (s : RS), (runM e zs s).length = zs.length
  | [], _ => rfl
  | _ :: zs, _ => congrArg Nat.succ (runM_len e zs _)
theorem afterM_ok {e : Wd} : ∀ {zs : List Str} {s : RS}, s.ok e → (afterM e zs s).ok e ∧ (afterM e zs s).t = s.t + zs.length
  | [], s, h => ⟨h, by show s.t = s.t + 0; omega⟩
  | z :: zs, s, h => by
    obtain ⟨h1, h2⟩ := tick_ok (z := z) h
    obtain ⟨h3, h4⟩ := afterM_ok (zs := zs) h1
    refine ⟨h3, ?_⟩
    show (afterM e zs (tickM e z s)).t = _
    rw [h4, h2, List.length_cons]
    omega
theorem set_mid {M : Mem} {x y z : MO} : (M ++ [x] ++ [y]).set M.length z = M ++ [z] ++ [y] := by
  rw [List.append_assoc, List.set_append_right _ _ (Nat.le_refl _), Nat.sub_self, List.append_assoc]; rfl
theorem get_mid {M : Mem} {x y : MO} : (M ++ [x] ++ [y])[M.length]? = some x := get_left get_end
theorem set_pre {M E : Mem} {r : Nat} {o : MO} (h : r < M.length) : (M ++ E).set r o = M.set r o ++ E := List.set_append_left _ _ h
theorem places_lt (ps : List (Int × Int)) (n : Nat) : (D.lst (ps.map placeD)).lt n = true := by
  show D.ltL n (ps.map placeD) = true
  induction ps with
  | nil => rfl
  | cons r t ih => show (true && D.ltL n (t.map placeD)) = true; rw [ih]; rfl
theorem IsWorld.left {K : PySem.W.Frag} {M E : Mem} {w : Nat} {e : Wd} (h : IsW K M w e) : IsW K (M ++ E) w e := isW (get_left h.1) h.ok
theorem start_ok {e : Wd} {x y : Int} (h : e.free x y = true) : (⟨0, x, y, 0, 0, false⟩ : RS).ok e := ⟨h, by show (-3 : Int) ≤ 0; omega, by show (0 : Int) ≤ 3; omega, by show (-6 : Int) ≤ 0; omega, by show (0 : Int) ≤ 6; omega, Int.le_refl 0⟩
/-- the law's own runner -/
def oneO (s : RS) : MO := .rcd ["x", "y", "t", "vx", "vy", "j"] [.int s.x, .int s.y, .int s.t, .int s.vx, .int s.vy, .bl s.j]
theorem under_map (ls : List Lift) (l t n : Int) : (underM ls l t n).map (fun i => ls[i]?) = (ls.filter fun z => onLift z l t n).map some := by
  induction ls with
  | nil => rfl
  | cons z ls ih =>
    unfold underM at ih ⊢
    rw [List.length_cons, List.range_succ_eq_map, List.filter_cons, List.filter_map, List.filter_cons]
    have e1 : onAt (z :: ls) l t n 0 = onLift z l t n := rfl
    have e2 : (onAt (z :: ls) l t n ∘ Nat.succ) = onAt ls l t n := by funext i; rfl
    rw [e1, e2]
    have e3 : ((List.filter (onAt ls l t n) (List.range ls.length)).map Nat.succ).map (fun i => (z :: ls)[i]?) = (ls.filter fun z => onLift z l t n).map some := by
      rw [List.map_map, ← ih]
      rfl
    split
    · rw [List.map_cons, e3]; rfl
    · exact e3
theorem under_first {ls : List Lift} {l t n : Int} {z : Lift} {rest : List Lift} (h : (ls.filter fun z => onLift z l t n) = z :: rest) : ∃ i r2, underM ls l t n = i :: r2 ∧ ls[i]? = some z := by
  have hm := under_map ls l t n
  rw [h] at hm
  cases e : underM ls l t n with
  | nil => rw [e] at hm; cases hm
  | cons i r2 =>
    rw [e, List.map_cons, List.map_cons] at hm
    exact ⟨i, r2, rfl, (List.cons.inj hm).1⟩
theorem under_none {ls : List Lift} {l t n : Int} (h : (ls.filter fun z => onLift z l t n) = []) : underM ls l t n = [] := by
  have hm := under_map ls l t n
  rw [h] at hm
  exact List.map_eq_nil_iff.mp hm
/-- the middle of three -/
theorem sorted_mid {ys : List Int} {v : Int} (h : ys.Perm [-3, v, 3]) (hs : ys.Pairwise (· ≤ ·)) : atI ys 1 = some (max (0 - 3) (min 3 v)) := by
  have key : ∀ zs : List Int, zs.Pairwise (· ≤ ·) → zs.Perm [-3, v, 3] → ys = zs := fun zs hz hp =>
    List.Perm.eq_of_pairwise (le := (· ≤ ·)) (fun a b _ _ h1 h2 => Int.le_antisymm h1 h2) hs hz (h.trans hp.symm)
  by_cases h1 : v < -3
  · rw [key [v, -3, 3] (by simp; omega) (List.Perm.swap _ _ _), show max (0 - 3) (min 3 v) = -3 by omega]; rfl
  · by_cases h2 : 3 < v
    · rw [key [-3, 3, v] (by simp; omega) (List.Perm.cons _ (List.Perm.swap _ _ _)), show max (0 - 3) (min 3 v) = 3 by omega]; rfl
    · rw [key [-3, v, 3] (by simp; omega) (List.Perm.refl _), show max (0 - 3) (min 3 v) = v by omega]; rfl
theorem atI_map {α β : Type} {xs : List α} {i : Int} {x : α} (f : α → β) (h : atI xs i = some x) : atI (xs.map f) i = some (f x) := by
  unfold atI at h ⊢
  rw [List.length_map]
  obtain ⟨j, h1, h2⟩ := Option.bind_eq_some_iff.mp h
  rw [h1]
  show (xs.map f)[j]? = _
  rw [List.getElem?_map, h2]; rfl
theorem rgC_up {i j s : Int} (s0 : 0 < s) (s1 : s < 100) (i0 : -1000 ≤ i) (i1 : i ≤ 1000) (j0 : -1000 ≤ j) (j1 : j ≤ 1000) : ∃ n, RgC i j s n ∧ n ≤ 2000 ∧ ∀ k : Nat, k < n → i + (k : Int) * s < j := by
  have hs : Builtin.Range.rangeSize i j s = if i < j then (j - i - 1) / s + 1 else 0 := if_pos s0
  have hd : (j - i - 1) / s * s ≤ j - i - 1 := Int.ediv_mul_le _ (by omega)
  by_cases h : i < j
  · have hq : 0 ≤ (j - i - 1) / s := Int.ediv_nonneg (by omega) (by omega)
    have hq2 : (j - i - 1) / s ≤ j - i - 1 := Int.ediv_le_self _ (by omega)
    refine ⟨((j - i - 1) / s + 1).toNat, ⟨by omega, by omega, ?_, ?_⟩, by omega, fun k hk => ?_⟩
    · unfold Builtin.Range.small
      rw [hs, if_pos h]
      simp only [Builtin.Range.rangeFitsLong, Bool.and_eq_true, Bool.or_eq_true, decide_eq_true_eq, beq_iff_eq, if_pos s0]
      omega
    · rw [hs, if_pos h]
      omega
    · have : (k : Int) ≤ (j - i - 1) / s := by omega
      have := Int.mul_le_mul_of_nonneg_right this (show 0 ≤ s by omega)
      omega
  · refine ⟨0, ⟨by omega, by omega, ?_, ?_⟩, by omega, fun k hk => (by omega)⟩
    · unfold Builtin.Range.small
      rw [hs, if_neg h]
      simp only [Builtin.Range.rangeFitsLong, Bool.and_eq_true, Bool.or_eq_true, decide_eq_true_eq, beq_iff_eq, if_pos s0]
      omega
    · rw [hs, if_neg h]; rfl
theorem asL_ref {M : Mem} {i : Nat} {xs : List D} (h : M[i]? = some (.lst xs)) : asL M (.ref i) = some xs := by
  unfold asL
  dsimp only
  rw [h]
theorem pyM_ref {M : Mem} {i : Nat} {xs : List D} (h : M[i]? = some (.lst xs)) : pyM M (.ref i) = (pyL xs).map .list := by
  unfold pyM
  dsimp only
  rw [h]
theorem get_at {B L : Mem} {k : Nat} {o : MO} (h : L[k]? = some o) : (B ++ L)[B.length + k]? = some o := by
  rw [List.getElem?_append_right (Nat.le_add_right _ _), Nat.add_sub_cancel_left]; exact h
theorem set_at {B L : Mem} {k : Nat} {o : MO} : (B ++ L).set (B.length + k) o = B ++ L.set k o := by
  rw [List.set_append_right _ _ (Nat.le_add_right _ _), Nat.add_sub_cancel_left]
theorem len_app (B L : Mem) : (B ++ L).length = B.length + L.length := List.length_append
end J

namespace J
open PySem PySem.Spec PyProof.Rows L2
/-! ### max, min of a list of numbers -/
section
variable {c : JC} {X : Cx} {a b e o : Expr} {es : List Expr} {pos p apos : Pos} {sa sb se so : SE} {sr : SA} {x : Str}
def sMaxL : SN := fun xs M Q => match xs with
  | [x] => ∃ ns : List Int, asL M x = some (ns.map D.int) ∧ 0 < ns.length ∧ ∀ m, m ∈ ns → (∀ y, y ∈ ns → y ≤ m) → Q (.int m) M
  | _ => False
def sMinL : SN := fun xs M Q => match xs with
  | [x] => ∃ ns : List Int, asL M x = some (ns.map D.int) ∧ 0 < ns.length ∧ ∀ m, m ∈ ns → (∀ y, y ∈ ns → m ≤ y) → Q (.int m) M
  | _ => False
theorem jc_maxL (hc : X.calm = true) : JCall X (.builtin "max") sMaxL := ⟨_, cr_max hc, fun B loc M H xs vs Q Qd r d h t => by
  unfold sMaxL at h
  split at h
  · obtain ⟨ns, hx, hl, q⟩ := h
    cases d with
    | cons d1 d2 =>
      cases d2
      obtain ⟨a, vs, rfl, s1, l1⟩ := asL_ok r d1 hx
      rw [l1.ints] at s1
      exact ⟨a, ns, rfl, s1, hl, fun m h1 h2 => t _ _ _ _ _ _ .refl r .int (q m h1 h2)⟩
  · exact h.elim⟩
theorem jc_minL (hc : X.calm = true) : JCall X (.builtin "min") sMinL := ⟨_, cr_min hc, fun B loc M H xs vs Q Qd r d h t => by
  unfold sMinL at h
  split at h
  · obtain ⟨ns, hx, hl, q⟩ := h
    cases d with
    | cons d1 d2 =>
      cases d2
      obtain ⟨a, vs, rfl, s1, l1⟩ := asL_ok r d1 hx
      rw [l1.ints] at s1
      exact ⟨a, ns, rfl, s1, hl, fun m h1 h2 => t _ _ _ _ _ _ .refl r .int (q m h1 h2)⟩
  · exact h.elim⟩
/-! ### list(range(..)) -/
theorem denL_fn {K : PySem.W.Frag} {B : Hp} {loc : List Addr} (f : Nat → Int) : ∀ xs : List Nat, DenL K B loc (xs.map fun k => D.int (f k)) (xs.map fun k => V.int (f k))
  | [] => .nil
  | _ :: r => .cons .int (denL_fn f r)
def sLrg1 (sa : SE) : SE := fun ρ M Q => sa ρ M fun x M1 => match x with
  | .int j => (-(2 ^ 62) ≤ j ∧ j ≤ 16777216) ∧ Q (.lst (upTo 0 j.toNat)) M1
  | _ => False
def sLrg2 (sa sb : SE) : SE := fun ρ M Q => sa ρ M fun x M1 => sb ρ M1 fun y M2 => match x, y with
  | .int i, .int j => RgOk i j ∧ Q (.lst (upTo i (j - i).toNat)) M2
  | _, _ => False
theorem je_lrg1 {p2 pos2 : Pos} (hc : X.calm = true) (hg : Gl X "list") (hm : X.mg "list" = none) (hg2 : Gl X "range") (hm2 : X.mg "range" = none) (ha : JE c X a sa)
    (na : starEach [a] X.env = (false, eval a X.env) :: starEach [] X.env := by rfl) (ne : starEach [.Call (.Name "range" p2) [a] [] pos2] X.env = (false, eval (.Call (.Name "range" p2) [a] [] pos2) X.env) :: starEach [] X.env := by rfl) :
    JE c X (.Call (.Name "list" p) [.Call (.Name "range" p2) [a] [] pos2] [] pos) (sLrg1 sa) := by
  obtain ⟨ta, pa, za⟩ := ha
  refine ⟨_, pe_listRg hc hg hm (prg_1 hg2 hm2 pa na) ne, fun B loc M H σ ρ Q Qd A hs t => za B loc M H σ ρ _ _ A hs fun d1 M1 v1 B1 l1 H1 g1 r1 e1 h1 => ?_⟩
  cases e1 with
  | int =>
    rename_i j
    refine ⟨j, rfl, ⟨by decide, by decide, h1.1.1, by have := h1.1.2; omega, by have := h1.1.2; omega⟩, fun q hq => ?_⟩
    obtain ⟨r4, g4⟩ := r1.new (o := .lst (rgV 0 j)) hq
    refine t _ _ _ _ _ _ (g1.trans g4) r4 (.lst upd_same ?_) h1.2
    unfold upTo rgV
    rw [Int.sub_zero]
    exact denL_fn (fun i => 0 + (i : Int)) _
  | _ => exact h1.elim
theorem je_lrg2 {p2 pos2 : Pos} (hc : X.calm = true) (hg : Gl X "list") (hm : X.mg "list" = none) (hg2 : Gl X "range") (hm2 : X.mg "range" = none) (ha : JE c X a sa) (hb : JE c X b sb)
    (na : starEach [a, b] X.env = (false, eval a X.env) :: starEach [b] X.env := by rfl) (nb : starEach [b] X.env = (false, eval b X.env) :: starEach [] X.env := by rfl) (hp : (backTo pos2 (starEach [b] X.env)).any (·.1) = false := by rfl)
    (ne : starEach [.Call (.Name "range" p2) [a, b] [] pos2] X.env = (false, eval (.Call (.Name "range" p2) [a, b] [] pos2) X.env) :: starEach [] X.env := by rfl) :
    JE c X (.Call (.Name "list" p) [.Call (.Name "range" p2) [a, b] [] pos2] [] pos) (sLrg2 sa sb) := by
  obtain ⟨ta, pa, za⟩ := ha
  obtain ⟨tb, pb, zb⟩ := hb
  refine ⟨_, pe_listRg hc hg hm (prg_2 hg2 hm2 pa pb na nb hp) ne, fun B loc M H σ ρ Q Qd A hs t => za B loc M H σ ρ _ _ A hs fun d1 M1 v1 B1 l1 H1 g1 r1 e1 h1 => zb B1 l1 M1 H1 σ ρ _ _ (A.on g1 r1) h1 fun d2 M2 v2 B2 l2 H2 g2 r2 e2 h2 => ?_⟩
  have e3 := e1.go g2
  split at h2
  · cases e3; cases e2
    refine ⟨_, _, rfl, rfl, h2.1, fun q hq => ?_⟩
    obtain ⟨r4, g4⟩ := r2.new (o := .lst (rgV _ _)) hq
    exact t _ _ _ _ _ _ ((g1.trans g2).trans g4) r4 (.lst upd_same (denL_fn (fun i => _ + (i : Int)) _)) h2.2
  · exact h2.elim
theorem prg_3 {d : Expr} {ta : TA} {p2 pos2 : Pos} (hg2 : Gl X "range") (hm2 : X.mg "range" = none) (ha : PA X [a, b, d] ta)
    (hs : starEach [a, b, d] X.env = (false, eval a X.env) :: starEach [b, d] X.env) (hpl : (backTo pos2 (starEach [b, d] X.env)).any (·.1) = false) (pins : List (Addr × Obj)) (s : Shared) (σ : L2.St) (H : Hp) (Q : Int → Int → Int → Nat → Hp → Prop) (I : Inv X pins σ H s)
    (h : ta σ H fun vs H1 => ∃ (i j k : Int) (n : Nat), vs = [.int i, .int j, .int k] ∧ RgC i j k n ∧ Q i j k n H1) :
    wpAny (model X.prog X.w) X.A (eval (.Call (.Name "range" p2) [a, b, d] [] pos2) X.env) (fun x s' => ∃ r i j k n t u v H', x = .ref r ∧ IsRange s'.heap r i j k t u v ∧ Inv X pins σ H' s' ∧ RgC i j k n ∧ Q i j k n H') X.xe s := by
  refine Call_ (ld_blt I hg2 hm2 boot_range (PyProof.Rows.callWith_type1 (thn (ha.run pos2 pins s σ H _ I h) fun us s1 ⟨vs, H1, I1, r1, q1⟩ => ?_) hs hpl))
  obtain ⟨i, j, k, n, e, ⟨c0, c1, c2, c3⟩, q⟩ := q1
  subst e
  cases r1 with
  | cons r rr =>
    cases rr with
    | cons r' rr =>
      cases rr with
      | cons r'' rr =>
        cases rr
        obtain ⟨t, rfl⟩ := r
        obtain ⟨t', rfl⟩ := r'
        obtain ⟨t'', rfl⟩ := r''
        refine call_range_3 c0 ?_ (.inl (PyProof.noPylong_small c1))
        exact ⟨_, i, j, k, n, t, t', t'', H1, rfl, IsRange.new .., I1.kept (t' := s1.toks) fun b o e => Heap.get?_push_of_some _ e, ⟨c0, c1, c2, c3⟩, q⟩
def tLrg3 (ta : TA) : TE := fun σ H Q => ta σ H fun vs H1 => ∃ (i j k : Int) (n : Nat), vs = [.int i, .int j, .int k] ∧ RgC i j k n ∧ n ≤ 2 ^ 24 ∧ ∀ q, H1 q = none → Q (.ref q) (upd H1 q (.lst ((List.range n).map fun (m : Nat) => V.int (i + (m : Int) * k))))
theorem vals_rg3 {i k : Int} {n : Nat} {acc : Array Value} (h : ItemsOf (fun m v => ∃ t, v = .int (i + m * k) t) acc n) : Vals ((List.range n).map fun (m : Nat) => V.int (i + (m : Int) * k)) acc.toList := by
  have e : acc.toList.length = n := by rw [Array.length_toList]; exact h.1
  rw [← e]
  refine vals_of_get acc.toList (fun (m : Nat) => V.int (i + (m : Int) * k)) fun j u hj => ?_
  obtain ⟨t, rfl⟩ := h.2 j u (by rw [← hj, Array.getElem?_toList])
  exact ⟨t, rfl⟩
theorem pe_lrg3 {d : Expr} {ta : TA} {p2 pos2 : Pos} (hc : X.calm = true) (hg : Gl X "list") (hm : X.mg "list" = none) (hg2 : Gl X "range") (hm2 : X.mg "range" = none) (ha : PA X [a, b, d] ta)
    (hs : starEach [a, b, d] X.env = (false, eval a X.env) :: starEach [b, d] X.env) (hpl : (backTo pos2 (starEach [b, d] X.env)).any (·.1) = false)
    (ne : starEach [.Call (.Name "range" p2) [a, b, d] [] pos2] X.env = (false, eval (.Call (.Name "range" p2) [a, b, d] [] pos2) X.env) :: starEach [] X.env) :
    PE X (.Call (.Name "list" p) [.Call (.Name "range" p2) [a, b, d] [] pos2] [] pos) (tLrg3 ta) := by
  refine ⟨fun pins s σ H Q I h => ?_⟩
  refine Call_ (ld_blt I hg hm boot_list (PyProof.Rows.callWith_type1 (args_cons (thn (prg_3 hg2 hm2 ha hs hpl pins s σ H (fun i j k n H1 => n ≤ 2 ^ 24 ∧ ∀ q, H1 q = none → Q (.ref q) (upd H1 q (.lst ((List.range n).map fun (m : Nat) => V.int (i + (m : Int) * k))))) I h) fun x s1 ⟨r, i, j, k, n, t, u, v, H1, ex, hr, I1, ⟨c0, c1, c2, c3⟩, hn, q⟩ => args_nil ?_) ne) ne))
  subst ex
  refine call_list_range (n := n) (I1.ok.hd hc) hr c2 c3 hn fun h' tk acc c' hk e' hi => ?_
  refine ⟨.ref s1.heap.objs.size, upd H1 s1.heap.objs.size (.lst ((List.range n).map fun (m : Nat) => V.int (i + (m : Int) * k))), I1.laid hk (Nat.le_refl _) (show ObjOk X.prog X.w _ _ _ (.lst ((List.range n).map fun (m : Nat) => V.int (i + (m : Int) * k))) from ⟨?_, acc.toList, c', vals_rg3 hi, ?_⟩), rfl, q _ (I1.hok.fresh (Nat.le_refl _))⟩
  · rw [List.length_map, List.length_range, sizeLine_eq]; omega
  · rw [Array.toArray_toList]; exact e'
def sLrg3 (sr : SA) : SE := fun ρ M Q => sr ρ M fun ds M1 => match ds with
  | [.int i, .int j, .int k] => ∃ n, RgC i j k n ∧ n ≤ 2 ^ 24 ∧ Q (.lst (byStep i k n)) M1
  | _ => False
theorem je_lrg3 {d : Expr} {p2 pos2 : Pos} (hc : X.calm = true) (hg : Gl X "list") (hm : X.mg "list" = none) (hg2 : Gl X "range") (hm2 : X.mg "range" = none) (ha : JA c X [a, b, d] sr)
    (hs : starEach [a, b, d] X.env = (false, eval a X.env) :: starEach [b, d] X.env := by rfl) (hpl : (backTo pos2 (starEach [b, d] X.env)).any (·.1) = false := by rfl)
    (ne : starEach [.Call (.Name "range" p2) [a, b, d] [] pos2] X.env = (false, eval (.Call (.Name "range" p2) [a, b, d] [] pos2) X.env) :: starEach [] X.env := by rfl) :
    JE c X (.Call (.Name "list" p) [.Call (.Name "range" p2) [a, b, d] [] pos2] [] pos) (sLrg3 sr) := by
  obtain ⟨ta, pa, za⟩ := ha
  refine ⟨_, pe_lrg3 hc hg hm hg2 hm2 pa hs hpl ne, fun B loc M H σ ρ Q Qd A hs t => za B loc M H σ ρ _ _ A hs fun ds M' vs B' l' H' g r e h => ?_⟩
  split at h
  · cases e with
    | cons e1 e2 =>
      cases e2 with
      | cons e2 e3 =>
        cases e3 with
        | cons e3 e4 =>
          cases e4; cases e1; cases e2; cases e3
          obtain ⟨n, h1, h2, h3⟩ := h
          refine ⟨_, _, _, n, rfl, h1, h2, fun q hq => ?_⟩
          obtain ⟨r4, g4⟩ := r.new (o := .lst _) hq
          exact t _ _ _ _ _ _ (g.trans g4) r4 (.lst upd_same (denL_fn (fun m => _ + (m : Int) * _) _)) h3
  · exact h.elim
end
/-- the middle of three -/
theorem sorted_mid2 {ys : List Int} {lo v hi : Int} (hlh : lo ≤ hi) (h : ys.Perm [lo, v, hi]) (hs : ys.Pairwise (· ≤ ·)) : atI ys 1 = some (max lo (min hi v)) := by
  have key : ∀ zs : List Int, zs.Pairwise (· ≤ ·) → zs.Perm [lo, v, hi] → ys = zs := fun zs hz hp =>
    List.Perm.eq_of_pairwise (le := (· ≤ ·)) (fun a b _ _ h1 h2 => Int.le_antisymm h1 h2) hs hz (h.trans hp.symm)
  by_cases h1 : v < lo
  · rw [key [v, lo, hi] (by simp; omega) (List.Perm.swap _ _ _), show max lo (min hi v) = lo by omega]; rfl
  · by_cases h2 : hi < v
    · rw [key [lo, hi, v] (by simp; omega) (List.Perm.cons _ (List.Perm.swap _ _ _)), show max lo (min hi v) = hi by omega]; rfl
    · rw [key [lo, v, hi] (by simp; omega) (List.Perm.refl _), show max lo (min hi v) = v by omega]; rfl
end J

/-! JU: lists walked while an exception is handled -/
namespace HotX
open PySem PySem.Spec PyProof.Rows
section
variable {prog : Program} {w : World} {A : Around} {E : Value → Shared → Prop} {s : Shared}
/-- the list's end, an exception being handled -/
theorem listEnd_hot {l it x1 : Addr} {k : Nat} {us : Array Value} {Q : Option Value → Shared → Prop}
    (hot : HotAt A x1 s.heap) (ne : x1 ≠ it)
    (ti : s.heap.IsListIter it l k) (tl : s.heap.IsList l us) (over : us[k]? = none)
    (hQ : ∀ h', (∀ b o, b ≠ it → s.heap.get? b = some o → h'.get? b = some o) → Q none { s with heap := h' }) :
    wpAny (model prog w) A (pyNext (.ref it)) Q E s := by
  obtain ⟨hh, o1, vs1, h1, d1, c1⟩ := hot
  obtain ⟨oi, gi, ci, di⟩ := id ti
  obtain ⟨ol, gl, _, nl, dl⟩ := tl
  unfold pyNext
  refine wpAny_bind (wpAny_attempt (wpAny_callSpecial?_slot
    (name := Str.ofString "__next__") ti.typeIs slot_listiter_next
    (wpAny_call_entry slot_listiter_next ti.typeIs
      entry_listiter_next ?_ (args_listiter_next _))))
  show wpAny _ _ (field (.ref it) 0 >>= fun _ => _) _ _ s
  refine wpAny_bind (wpAny_field gi di (x := .ref l) rfl ?_)
  show wpAny _ _ (if (Value.ref l == Value.none) = true then _
    else _) _ _ s
  rw [if_neg (show ¬ ((Value.ref l == Value.none) = true)
    from Bool.false_ne_true)]
  show wpAny _ _ (field (.ref it) 1 >>= fun _ => _) _ _ s
  refine wpAny_bind (wpAny_field gi di (x := .int k 0) rfl ?_)
  show wpAny _ _ (seqItems? (.ref l) >>= fun _ => _) _ _ s
  refine wpAny_bind (wpAny_seqItems gl dl ?_)
  simp only [over, Int.toNat_natCast]
  refine wpAny_bind (wpAny_rule (wpAny_bind (wpAny_setField gi di (by simp) ?_)))
  show wpAny _ _ (newExc (.type "StopIteration") [] >>= fun _ => _) _ _ _
  refine wpAny_bind ?_
  simp only [newTuple, newExc]
  refine wpAny_bind (wpAny_newObj_type ?_ (by size_fits))
  refine wpAny_bind (m := firstArgMember _ _)
    (wpAny_of_eq (a := Value.none) (by first | rfl | (simp only [firstArgMember]; rfl)) ?_)
  refine wpAny_newObj_type ?_ (by size_fits)
  have stay : ∀ (f : Obj → Obj) (u u' : Obj) b o, b ≠ it → s.heap.get? b = some o →
      (((s.heap.update it f).push u).push u').get? b = some o := fun f u u' b o nb z =>
    Heap.get?_push_of_some _ (Heap.get?_push_of_some _ ((Heap.get?_update_other _ _ (Ne.symm nb)).trans z))
  have sz : ∀ (h : Heap) (u : Obj) b o, (h.push u).get? b = some o → b ≠ (h.push u).objs.size :=
    fun h u b o z => Nat.ne_of_lt (Heap.lt_size z)
  refine raiseNew_hot ⟨hh, o1, vs1, stay _ _ _ _ _ ne h1, d1, c1⟩ ?_ (Heap.get?_push_size _ rfl) rfl
    (by first | (simp; done) | (simp; omega) | (simp only [Array.size_append]; simp; omega)) ?_
  · exact Nat.ne_of_lt (Heap.lt_size (Heap.get?_push_of_some _ ((Heap.get?_update_other _ _ (Ne.symm ne)).trans h1)))
  refine wpAny_bind (wpAny_isInstance (T := "StopIteration") (b := true)
    ⟨_, Heap.get?_update_self _ (Heap.get?_push_size _ rfl) rfl, rfl⟩ isSubtype_stop ?_)
  refine wpAny_pure (hQ _ fun b o nb z => ?_)
  refine (Heap.get?_update_other _ _ (Nat.ne_of_gt (Heap.lt_size
    (Heap.get?_push_of_some _ ((Heap.get?_update_other _ _ (Ne.symm nb)).trans z))))).trans ?_
  exact stay _ _ _ _ _ nb z
end
end HotX

namespace L2H
open PySem PySem.Spec PyProof.Rows L2 HotX
/-- a list, walked there -/
theorem turn_listH {P : Program} {w : World} {K : PySem.W.Frag} {tg : Expr} (a it : Addr) :
    TurnH P w K tg (Itl K a) [it] it (fun i h => h.IsListIter it a i) where
  mem := (turn_list (P := P) (w := w) (K := K) (tg := tg) a it).mem
  obj := (turn_list (P := P) (w := w) (K := K) (tg := tg) a it).obj
  keep := (turn_list (P := P) (w := w) (K := K) (tg := tg) a it).keep
  self := (turn_list (P := P) (w := w) (K := K) (tg := tg) a it).self
  item := by
    intro X e1 e2 e3 hc i pins s σ H E I ft st go
    subst e1 e2 e3
    obtain ⟨zs, z, sq, hz⟩ := go
    obtain ⟨us, rv, pl, _⟩ := I.list sq
    obtain ⟨u, hu, ru⟩ := rv.get hz
    obtain ⟨n0, n1, n2, n3, n4, n5⟩ := ft it List.mem_cons_self
    refine wpAny_pyNext_list_item st pl.isList (x := u)
      (by simpa using hu) fun h2 st2 sb => ?_
    have J : Inv X pins σ H { s with heap := h2 } :=
      I.turned (t' := s.toks) (fun b o hb z => (sb.2 b hb).trans z) n0 n1 n3 n4 n5
    obtain ⟨o2, g2, c2, d2⟩ := id st2
    refine ⟨u, rfl, go_of (s := { s with heap := h2 }) g2 c2 d2 (by decide) ⟨z, H, J, ru, ⟨rfl, fun ys hy => ?_⟩, st2, fun b hb => (ft b hb).1⟩⟩
    rw [I.list_inj hy sq]
    exact hz
  done := by
    intro X e1 e2 e3 hc i pins s σ H E I ft st over
    subst e1 e2 e3
    obtain ⟨zs, sq, hz⟩ := over
    obtain ⟨us, rv, pl, _⟩ := I.list sq
    obtain ⟨n0, n1, n2, n3, n4, n5⟩ := ft it List.mem_cons_self
    have len := rv.length
    obtain ⟨p, ⟨hh, v1, d1, c1⟩, hp⟩ := hc
    have P1 := I.pin p (List.mem_append_left _ hp)
    exact listEnd_hot ⟨hh, p.2, v1, P1.1, d1, c1⟩ (n5 p (List.mem_append_left _ hp)) st pl.isList (by simp; omega)
      fun h2 kp => ⟨rfl, I.turned (t' := s.toks) (fun b o hb z => kp b o hb z) n0 n1 n3 n4 n5⟩
theorem pi_listH {X : Cx} {tg l : Expr} {tl : TE} (hl : PE X l tl) : PIH X tg l (iList X.K tl) := by
  refine ⟨fun pins s σ H R I h => ?_⟩
  refine thn (hl.run pins s σ H _ I h) fun v s1 ⟨z, H1, J, r1, a, e, ⟨zs, sq⟩, q⟩ => ?_
  subst e
  cases r1
  obtain ⟨us, _, pl, _⟩ := J.list sq
  refine wpAny_pyIter_list pl.isList ?_
  have J2 : Inv X pins σ H1 { s1 with heap := s1.heap.push { cls := .type "list_iterator", data := .fields #[.ref a, .int 0 0] } } :=
    J.kept (t' := s1.toks) fun b o z => Heap.get?_push_of_some _ z
  refine ⟨s1.heap.objs.size, [s1.heap.objs.size], _, _, H1, rfl, J2,
    turn_listH a _, ⟨_, Heap.get?_push_size _ rfl, rfl, rfl⟩, fun b hb => ?_, q⟩
  rw [List.mem_singleton.mp hb]
  exact J.fpOk (Nat.le_refl _) (J.hok.fresh (Nat.le_refl _))
end L2H

/-! JV: a list comprehension while an exception is handled -/
namespace L2H
open PySem PySem.Spec PyProof.Rows L2 HotX
/-- a comprehension's block, the handled exception p known there -/
abbrev blkH (X : Cx) (s : Shared) (H : Hp) (scope : Scope) (ce : Env) (fp : List Addr) (p : Addr × Obj) : Cx :=
  { X.blk s H scope ce fp with pn := [p] }
section
variable {X : Cx} {elt tg iter : Expr} {scope : Scope} {own : List (Str × Nat)} {pos pos' : Pos} {wi : TI} {g : TG} {te : TE}
/-- in all blocks that a comprehension of this scope may open -/
def EvB (X : Cx) (scope : Scope) (P : Cx → Prop) : Prop :=
  ∀ (s : Shared) (H : Hp) (C : Addr) (cl : List (Str × Addr)) (fp : List Addr) (p : Addr × Obj), P (blkH X s H scope (compEnvC scope cl C X.env) fp p)
theorem pin_in {s : Shared} {H : Hp} {ce : Env} {fp : List Addr} {p : Addr × Obj} {τ : St} {H' : Hp} {s' : Shared} (I : Inv (X.blk s H scope ce fp) [] τ H' s')
    (h : s'.heap.get? p.1 = some p.2 ∧ H' p.1 = none ∧ p.1 ≠ ce.locals ∧ p.1 ∉ frs X.stack ∧ ∀ v, p.2.data ≠ .cell v) : Inv (blkH X s H scope ce fp p) [] τ H' s' where
  ok := { mod := I.ok.mod, kind := I.ok.kind, glob := I.ok.glob, blt := I.ok.blt, above := I.ok.above, inj := I.ok.inj, has := I.ok.has, cab := I.ok.cab, hd := I.ok.hd, frames := I.ok.frames, stk := I.ok.stk, exf := I.ok.exf, bs := I.ok.bs, bsz := I.ok.bsz, noex := I.ok.noex, exfs := I.ok.exfs, funs := I.ok.funs, frf := I.ok.frf }
  os := I.os
  bare := I.bare
  base := I.base
  loc := I.loc
  cell := I.cell
  free := I.free
  freeC := I.freeC
  hok := I.hok
  len := I.len
  pin := fun q hq => by
    have e : q = p := by simpa using hq
    rw [e]
    exact h
theorem pe_lcH (hc : HotC X) (hN : X.N.Nodup) (hi : PIH X tg iter wi) (ok : BlkOk X.N X.env.scope scope own)
    (hg : EvB X scope fun Y => PG Y tg g) (he : EvB X scope fun Y => PE Y elt te) (hs : ∀ x, foldedSetIterable iter X.env x = pure x := by intro _; rfl) :
    PE X (.ListComp elt [⟨tg, iter, [], 0⟩] scope pos) (tLc wi g tYes te (own.map (·.2))) := by
  obtain ⟨p, hp1, hpm⟩ := hc
  refine ⟨fun pins s σ H Q I h => ?_⟩
  rw [eval_ListComp]
  have cells : ∀ y ∈ scope.names, y.2 = .free →
      ∃ c, X.env.cells.lookup y.1 = some c := fun y hy e =>
    (ok.free y hy e).elim (fun k => I.ok.has _ (.inl k)) (fun k => I.ok.has _ (.inr k))
  refine wpAny_comprehension_free (use := none) rfl hs (closure_ok cells) ok.kind
    (fun y hy e => by rw [ok.uniq y hy, e]) ?_
  refine thn (hi.run pins s σ H _ I h) fun xv s1 hx => thn hx fun itv s2 h2 => ?_
  obtain ⟨it, fp, tn, T, H2, e, I2, tr, t2, f2, q⟩ := h2
  subst e
  refine wpAny_newObj_type (newEnv_comp ?_) (by show 0 ≤ sizeLine; decide)
  -- the list to be made lies at L
  have hL : H2 s2.heap.objs.size = none := I2.hok.fresh (Nat.le_refl _)
  obtain ⟨W, ⟨m0, w0⟩, turn⟩ := q _ hL
  have I3 : Inv X pins σ (upd H2 s2.heap.objs.size (.lst [])) { s2 with heap := s2.heap.push { cls := .type "list", data := .seq ([] : List Value).toArray } } :=
    I2.laid (t' := s2.toks) (fun b o z => Heap.get?_push_of_some _ z) (Nat.le_refl _) ⟨Nat.zero_le _, [], 0, .nil, Heap.get?_push_size _ rfl⟩
  have t3 : tn 0 (s2.heap.push { cls := .type "list", data := .seq ([] : List Value).toArray }) :=
    tr.keep _ _ _ t2 fun b _ o z => Heap.get?_push_of_some _ z
  have low : ∀ b ∈ fp, b < s2.heap.objs.size := fun b hb => by
    obtain ⟨o, z, _⟩ := tr.obj _ _ t2 b hb
    exact Heap.lt_size z
  generalize hl : s2.heap.objs.size = L at *
  have f3 : ∀ b ∈ fp, FpOk X pins (upd H2 L (.lst [])) b := fun b hb =>
    ⟨by rw [upd_ne (Nat.ne_of_lt (low b hb))]; exact (f2 b hb).1, (f2 b hb).2⟩
  have f3s : ∀ b ∈ fp, b < (s2.heap.push { cls := .type "list", data := .seq ([] : List Value).toArray }).objs.size := fun b hb => by
    rw [Heap.size_push, hl]
    exact Nat.lt_succ_of_lt (low b hb)
  generalize hs3 : ({ s2 with heap := s2.heap.push { cls := .type "list", data := .seq ([] : List Value).toArray } } : Shared) = s3 at *
  have h3 : s3.heap = s2.heap.push { cls := .type "list", data := .seq ([] : List Value).toArray } := by rw [← hs3]
  rw [← h3] at t3 f3s
  generalize hH3 : upd H2 L (.lst []) = H3 at *
  have I4 := block_start I3 ok hN fun b hb => ⟨f3 b hb, f3s b hb⟩
  have pg := hg s3 H3 s3.heap.objs.size (cellsFrom (s3.heap.objs.size + 1) scope.names (cloFrom X.env.cells scope.names [])) fp p
  have pe := he s3 H3 s3.heap.objs.size (cellsFrom (s3.heap.objs.size + 1) scope.names (cloFrom X.env.cells scope.names [])) fp p
  show codeAny _ _ (.compStart (.ListComp elt [⟨tg, iter, [], 0⟩] scope pos) 0 (.ref it) (.ref L) (compEnvC scope (cellsFrom (s3.heap.objs.size + 1) scope.names (cloFrom X.env.cells scope.names [])) s3.heap.objs.size X.env))
    (compPost (model X.prog X.w) X.A X.xe none _ (.ref L) s3.heap.objs.size) { s3 with heap := pushCells (s3.heap.push { cls := .type "dict", data := .dict #[] }) scope.names }
  have P3 := I3.pin p (List.mem_append_left _ hpm)
  have t4 : tn 0 (pushCells (s3.heap.push { cls := .type "dict", data := .dict #[] }) scope.names) :=
    tr.keep _ _ _ t3 fun b _ o z => pushCells_keeps _ _ _ _ (Heap.get?_push_of_some _ z)
  have p4 : (pushCells (s3.heap.push { cls := .type "dict", data := .dict #[] }) scope.names).get? p.1 = some p.2 :=
    pushCells_keeps _ _ _ _ (Heap.get?_push_of_some _ P3.1)
  generalize hce : compEnvC scope (cellsFrom (s3.heap.objs.size + 1) scope.names (cloFrom X.env.cells scope.names [])) s3.heap.objs.size X.env = ce at I4 pg pe ⊢
  have cL : ce.locals = s3.heap.objs.size := by rw [← hce]; rfl
  have J4 := pin_in (p := p) I4 ⟨p4, P3.2.1, by rw [cL]; exact Nat.ne_of_lt (Heap.lt_size P3.1), fun hm => (List.mem_cons.mp (I3.stkSub p.1 hm)).elim P3.2.2.1 P3.2.2.2.1, P3.2.2.2.2⟩
  have hot : HotC (blkH X s3 H3 scope ce fp p) := ⟨p, hp1, List.mem_cons_self⟩
  have mine : ∀ {τ : St} {H' : Hp} {s' : Shared}, Inv (blkH X s3 H3 scope ce fp p) [] τ H' s' → (∀ b ∈ fp, H' b = none) → ∀ b ∈ fp, FpOk (blkH X s3 H3 scope ce fp p) [] H' b := by
    intro τ H' s' J nn b hb
    refine ⟨nn b hb, (J.ok.exf b hb).1, J.ok.exfs b hb, .inl hb, fun x c z => (J.ok.exf b hb).2 x c z, fun r hr => ?_⟩
    have z : r = p := by simpa using hr
    rw [z]
    exact (f2 b hb).2.2.2.2.2 p (List.mem_append_left _ hpm)
  have nf : ∀ b ∈ fp, H3 b = none := fun b hb => (f3 b hb).1
  refine codeAny_compStart_list ?_ (tr.self X.A 0 _ _ _ t4 ?_) <;>
  · refine compLoop_any (fun n s' => ∃ i H', Inv (blkH X s3 H3 scope ce fp p) [] (wipe σ (own.map (·.2))) H' s' ∧ tn i s'.heap ∧ (∀ b ∈ fp, H' b = none) ∧ W i n H') ?_ m0 ⟨0, H3, J4, t4, nf, w0⟩
    rintro n s5 ⟨i, H5, J5, t5, n5, w5⟩
    rcases turn i n H5 w5 with ⟨stop, qq⟩ | ⟨go, Nx, hNx, step⟩
    · refine thnF (tr.done (blkH X s3 H3 scope ce fp p) rfl rfl rfl hot i [] s5 _ H5 (fun _ _ => False) J5 (mine J5 n5) t5 stop) fun r s6 ⟨hr, J6⟩ => ?_
      subst hr
      have back : Inv X pins σ H5 s6 := I3.call' (ch := fp) J6.os J6.base J6.hok J6.bare
        fun b hb => ⟨(f3 b hb).2.2.2.1, (f3 b hb).2.1, (f3 b hb).2.2.2.2.1, (f3 b hb).2.2.2.2.2⟩
      have nC : H5 s3.heap.objs.size = none := by rw [← cL]; exact J6.free
      obtain ⟨m, hm, _⟩ := J6.loc
      obtain ⟨k0, k1, k2, k3, k4, k5⟩ := I3.fpOk (Nat.le_refl _) nC
      refine ⟨m, by rw [← cL]; exact hm, fun h6 sb => ⟨.ref L, H5, ?_, rfl, qq⟩⟩
      exact back.turned (t' := s6.toks) (fun b o hb z => (sb.2 b hb).trans z) k0 k1 k3 k4 k5
    · refine thnF (tr.item (blkH X s3 H3 scope ce fp p) rfl rfl rfl hot i [] s5 _ H5 (fun _ _ => False) J5 (mine J5 n5) t5 go) fun r s6 ⟨u, hr, h6⟩ => ?_
      subst hr
      refine thnF h6 fun _ s7 ⟨x, H7, J7, r7, y7, t7, n7⟩ => ?_
      have J7p := J7.pinned (mine J7 n7) (tr.obj _ _ t7)
      refine thnF (pg.run _ s7 _ H7 x u _ J7p r7 (step x H7 y7)) fun _ s8 ⟨σ8, H8, J8, hw, q8⟩ => ?_
      refine wpAny_tests_nil ?_
      have q8 := q8
      simp only [tYes, if_true] at q8 ⊢
      refine thnF (pe.run _ s8 σ8 H8 _ J8 q8) fun z s9 ⟨y, H9, J9, r9, acc, hacc, lacc, nx⟩ => ?_
      refine app_ok (X := blkH X s3 H3 scope ce fp p) J9 hacc lacc r9 fun s10 J10 => ?_
      obtain ⟨m', hm, w'⟩ := hNx _ nx
      have held : ∀ b ∈ fp, ∀ o, s7.heap.get? b = some o → s10.heap.get? b = some o ∧ (upd H9 L (.lst (acc ++ [y]))) b = none := fun b hb o z =>
        have k := J10.pin (b, o) (List.mem_append_right _ (List.mem_append_right _ (mem_pinsAt hb z)))
        ⟨k.1, k.2.1⟩
      have len8 : (wipe σ (own.map (·.2))).length = σ8.length := by rw [← hw, wipe_length]
      refine ⟨m', hm, i + 1, _, (J10.unpinned (pins := [])).weak len8 (fun j v z => ?_), tr.keep _ _ _ t7 fun b hb o z => (held b hb o z).1, fun b hb => ?_, w'⟩
      · rw [← hw] at z
        exact (wipe_some z).1
      · obtain ⟨o, z, _⟩ := tr.obj _ _ t7 b hb
        exact (held b hb o z).2
end
end L2H

/-! JW: sum, isinstance, comprehensions while an exception is handled -/
namespace HotX
open PySem PySem.Spec PyProof.Rows
section
variable {prog : Program} {w : World} {A : Around} {E : Value → Shared → Prop} {s : Shared}
theorem walks_listH {I l : Addr} {us : Array Value} {p : Addr × Obj} (hh : A.handled = some (.ref p.1)) (hv : ∃ vs : Array Value, p.2.data = .fields vs ∧ vs[2]? = some .none)
    (ne : l ≠ I) (np : p.1 ≠ I) :
    Walks prog w A I [I, l, p.1] [I] us.size (fun i v => us[i]? = some v) (fun i h => h.IsListIter I l i ∧ h.IsList l us ∧ h.get? p.1 = some p.2) where
  sub := fun b hb => by
    rw [List.mem_singleton.mp hb]
    exact List.mem_cons_self
  frame := fun _ _ _ ⟨a, b, c⟩ kp =>
    ⟨a.at fun o e => kp I (by simp) o e, b.at fun o e => kp l (by simp) o e, kp p.1 (by simp) _ c⟩
  item := by
    intro i s Q E hi ⟨a, b, c⟩ hq
    refine wpAny_pyNext_list_item a b (x := us[i]) (by simp [hi]) fun h2 a2 sb => ?_
    refine hq _ h2 s.toks (by simp [hi]) ⟨a2, b.extBut sb.extBut ne, (sb.2 _ np).trans c⟩ ?_
    exact fun b o hb e => sb.extBut b o (fun z => hb (by simp [z])) e
  done := by
    intro s Q E ⟨a, b, c⟩ hq
    obtain ⟨vs, d1, c1⟩ := hv
    exact listEnd_hot ⟨hh, p.2, vs, c, d1, c1⟩ np a b (by simp) fun h2 kp =>
      hq h2 s.toks fun b o hb e => kp b o (fun z => hb (by simp [z])) e
  self := fun _ _ _ _ st hq => wpAny_pyIter_listiter st.1 hq
theorem sum_hot {l : Addr} {its : List Value} {ns : List Int} {p : Addr × Obj} {Q : Value → Shared → Prop} (hh : A.handled = some (.ref p.1)) (hv : ∃ vs : Array Value, p.2.data = .fields vs ∧ vs[2]? = some .none)
    (hp : s.heap.get? p.1 = some p.2) (hl : s.heap.IsList l its.toArray) (hi : IntsAre its ns)
    (h : ∀ h' tk t', (∀ b o, s.heap.get? b = some o → h'.get? b = some o) → Q (.int ns.sum t') { s with heap := h', toks := tk }) :
    wpAny (model prog w) A (call (.builtin "sum") [.ref l]) Q E s := by
  obtain ⟨xs, e⟩ := hi.allInts.items
  have hn : numsOf (intItems xs).toList = ns := by
    rw [← e]
    exact hi.numsOf
  rw [nums_intItems] at hn
  rw [e] at hl
  refine call_sum_walkG (iter_intList hl fun s₂ e2 st low ne => ?_)
  subst e2
  have np : p.1 ≠ s.heap.objs.size := Nat.ne_of_lt (Heap.lt_size hp)
  have hp2 := Heap.get?_push_of_some { cls := .type "list_iterator", data := .fields #[.ref l, .int 0 0] } hp
  refine ⟨_, _, _, _, _, _, numAt xs, rfl, walks_listH (A := A.in1) (p := p) hh hv ne np, ⟨st.1, st.2, hp2⟩, ?_, (fun _ _ => intItems_at), fun h' tk t' hk => ?_⟩
  · intro b hb
    rcases List.mem_cons.mp hb with z | hb
    · exact low b (by simp [z])
    rcases List.mem_cons.mp hb with z | hb
    · exact low b (by simp [z])
    rw [List.mem_singleton.mp hb]
    exact Heap.lt_size hp2
  · have z := h h' tk t' (old_kept hk)
    rw [← hn] at z
    rw [preSum_eq, List.take_of_length_le (by simp [intItems])]
    exact z
end
end HotX

namespace J
open PySem PySem.Spec PyProof.Rows L2
section
variable {X : Cx} {c : JC} {pos p p2 : Pos} {se : SE} {elt tg iter e : Expr}
theorem cr_sumH (hc : L2H.HotC X) : CallR X (.builtin "sum") (rSum X.K) := by
  intro pins s σ H vs us Q I r h
  obtain ⟨a, ns, rfl, hs, q⟩ := h
  obtain ⟨its, rv, hl, _⟩ := I.list hs
  obtain ⟨p, ⟨hh, hv⟩, hp⟩ := hc
  rw [Vals.ref1 r]
  exact HotX.sum_hot hh hv (I.pin p (List.mem_append_left _ hp)).1 hl.isList rv.ints
    fun h' tk t' hk => ⟨.int _, H, I.kept hk, ⟨_, rfl⟩, q⟩
theorem jc_sumH (hc : L2H.HotC X) : JCall X (.builtin "sum") sSum := by
  refine ⟨_, cr_sumH hc, fun B loc M H xs vs Q Qd r d h t => ?_⟩
  unfold sSum at h
  split at h
  · obtain ⟨bs, hx, q⟩ := h
    cases d with
    | cons d1 d2 =>
      cases d2
      obtain ⟨a, vs, rfl, s1, l1⟩ := asL_ok r d1 hx
      rw [l1.ints] at s1
      exact ⟨a, bs, rfl, s1, t _ _ _ _ _ _ .refl r .int q⟩
  · exact h.elim
/-- isinstance(e, C) of the exception p -/
theorem call_isP {p : Addr × Obj} {D : Addr} (hp : p ∈ X.pn) (C : ExcC X.K D) (hz : Zc (.ref D) none p.2) (hf : ∃ vs, p.2.data = .fields vs) : CallR X (.builtin "isinstance") (rIsE X.K D p.1) := by
  intro pins s σ H xs us Q I r h
  obtain ⟨cl, cv, b, rfl, hcv, e, q⟩ := h
  cases r with
  | cons rx rr => cases rr with
    | cons rt rr =>
      cases rr
      cases rx
      have ec := hcv _ rt
      subst ec
      have P := (I.pin p (List.mem_append_left _ hp)).1
      obtain ⟨vs, hv⟩ := hf
      have J : PySem.W.InstAt s.heap p.1 p.2 D none := by
        obtain ⟨pa, ⟨oc, od, oda, osl⟩⟩ := p
        obtain ⟨h1, h2⟩ := hz
        dsimp only at h1 h2 hv P
        subst h1 h2 hv
        exact ⟨P, rfl, rfl, trivial⟩
      refine PySem.W.kia_one (PySem.W.handS_kitx_exc C.hg C.hk C.hs C.hd C.ha C.hn C.ht C.hm) I.kIn J e (fun z => nomatch z) fun tk => ?_
      exact ⟨.bl b, H, I.kept (t' := tk) fun _ _ z => z, rfl, q⟩
def sIsP (K : PySem.W.Frag) (D : Addr) (cv : Value) (a : Addr) (se : SE) : SE := fun ρ M Q => se ρ M fun d M1 => match d with
  | .adr b => b = a ∧ ∃ z, PySem.W.kitOne K (.ref D) cv = some z ∧ Q (.bl z) M1
  | _ => False
theorem je_isP {q : Addr × Obj} {D : Addr} {x : Str} {y : V} {cv : Value} (hp : q ∈ X.pn) (EC : ExcC X.K D) (hz : Zc (.ref D) none q.2) (hf : ∃ vs, q.2.data = .fields vs) (hg : Gl X "isinstance") (hm : X.mg "isinstance" = none)
    (he : JE c X e se) (hC : PE X (.Name x p2) (tC y)) (hy : ∀ u, RelV y u → u = cv) (h1 : starEach [e, .Name x p2] X.env = (false, eval e X.env) :: starEach [.Name x p2] X.env := by rfl)
    (h2 : starEach [.Name x p2] X.env = (false, eval (.Name x p2) X.env) :: starEach [] X.env := by rfl) (h3 : (backTo pos (starEach [.Name x p2] X.env)).any (·.1) = false := by rfl) :
    JE c X (.Call (.Name "isinstance" p) [e, .Name x p2] [] pos) (sIsP X.K D cv q.1 se) := by
  obtain ⟨t, pe, z⟩ := he
  refine ⟨_, pe_callB (call_isP hp EC hz hf) hg hm boot_isinstance (pa_cons pe (pa_cons hC pa_nil h2) h1) (by decide) (by decide) h1 h3, fun B loc M H σ ρ Q Qd A hs t => ?_⟩
  refine z B loc M H σ ρ _ _ A hs fun d M1 v B1 l1 H1 g1 r1 e1 hh => ?_
  unfold sIsP at hs
  cases e1 with
  | adr =>
    obtain ⟨rfl, b, hk, hq⟩ := hh
    exact ⟨y, cv, b, rfl, hy, hk, t _ _ _ _ _ _ g1 r1 .bl hq⟩
  | _ => exact hh.elim
end
end J

/-! JX: [.. for x in list] in a suite; a def called there, the exception known by its class -/
namespace J
open PySem PySem.Spec PyProof.Rows L2
section
variable {X : Cx} {c : JC} {pos p : Pos} {se so : SE} {sg : SG} {elt tg iter e : Expr}
theorem list_sim {t : TE} (z : ∀ B loc M H σ ρ Q Qd, At c X.K B loc M H σ ρ → so ρ M Qd → To X.K B loc H Qd Q → t σ H Q) :
    ∀ B loc M H σ ρ (R : It → Hp → Prop) (Qd : List D → (Mem → Prop) → Mem → Prop), At c X.K B loc M H σ ρ → iSeq so ρ M Qd →
    (∀ items st M' J B' loc' H', Go B loc H B' loc' H' → Rel X.K B' loc' M' H' → ItOk X.K B' loc' H' J items st → Qd items st M' → R J H') → iList X.K t σ H R :=
  fun B loc M H σ ρ R Qd A hs q => z B loc M H σ ρ _ _ A hs fun d M1 v B1 l1 H1 g1 r1 e1 h1 => by
    cases e1 with
    | lst s1 dl =>
      exact ⟨_, rfl, ⟨_, SqL.of (r1.ext _ _ s1)⟩, q _ _ _ _ _ _ _ g1 r1 (it_list dl fun B' l' M' H' g r _ => ⟨_, SqL.of (r.ext _ _ (g.b _ _ s1)), dl.go g⟩) h1⟩
    | scr s1 =>
      exact ⟨_, rfl, ⟨_, r1.ext.seq s1⟩, q _ _ _ _ _ _ _ g1 r1 (it_list (denL_ints _) fun B' l' M' H' g r _ => ⟨_, r.ext.seq (g.b.seq s1), denL_ints _⟩) h1⟩
    | ref hi =>
      obtain ⟨xs, h2, h3⟩ := h1
      obtain ⟨_, vs, h4, dl⟩ := r1.obj _ _ _ hi h2 trivial
      refine ⟨_, rfl, ⟨_, SqL.of h4⟩, q _ _ _ _ _ _ _ g1 r1 (it_list dl fun B' l' M' H' g r s => ?_) h3⟩
      obtain ⟨_, ws, h5, dw⟩ := r.obj _ _ _ (pre_get g.l hi) s trivial
      exact ⟨ws, SqL.of h5, dw⟩
    | _ => exact h1.elim
theorem je_lcH {scope : Scope} {own : List (Str × Nat)} (hc : L2H.HotC X) (hN : X.N.Nodup) (hi : JE c X iter so) (ok : BlkOk X.N X.env.scope scope own)
    (hg : L2H.EvB X scope fun Y => JGc (own.map (·.2)) c.in Y tg sg) (he : L2H.EvB X scope fun Y => JE c.in Y elt se) (hs : ∀ x, foldedSetIterable iter X.env x = pure x := by intro _; rfl) :
    JE c X (.ListComp elt [⟨tg, iter, [], 0⟩] scope pos) (sLc (iSeq so) sg sYes se (own.map (·.2))) := by
  obtain ⟨t, pe, z⟩ := hi
  refine ⟨tLc (iList X.K t) (fun v σ H Q => ∀ s H0 C cl fp q, Classical.choose (hg s H0 C cl fp q) v σ H Q) tYes (fun σ H Q => ∀ s H0 C cl fp q, Classical.choose (he s H0 C cl fp q) σ H Q) (own.map (·.2)), ?_, ?_⟩
  · refine L2H.pe_lcH hc hN (L2H.pi_listH pe) ok (fun s H C cl fp q => ?_) (fun s H C cl fp q => ?_) hs
    · have w := (Classical.choose_spec (hg s H C cl fp q)).1
      exact ⟨fun pins s' σ H' v u Q I r h => w.run pins s' σ H' v u Q I r (h s H C cl fp q)⟩
    · have w := (Classical.choose_spec (he s H C cl fp q)).1
      exact ⟨fun pins s' σ H' Q I h => w.run pins s' σ H' Q I (h s H C cl fp q)⟩
  · intro B loc M H σ ρ Q Qd A h t
    refine lc_ok (fin := fun acc M' => Qd (.lst acc) M') (st := sYes) (list_sim z) ?_ ?_ ?_ A h (lc_frz t)
    · exact fun B loc M H σ ρ d v Q Qd A e h t s H0 C cl fp q => (Classical.choose_spec (hg s H0 C cl fp q)).2 B loc M H σ ρ d v Q Qd A e h t
    · exact fun B loc M H σ ρ Q Qd A h t => t _ _ _ _ _ .refl A.rel h
    · exact fun B loc M H σ ρ Q Qd A h t s H0 C cl fp q => (Classical.choose_spec (he s H0 C cl fp q)).2 B loc M H σ ρ Q Qd A h t
end
end J

namespace L2H
open PySem PySem.Spec PyProof.Rows L2 HotX
/-- the exception that is handled: of the class cls, its context None -/
abbrev Held (cls : Value) (p : Addr × Obj) : Prop := L2N.Zn cls none p.2 ∧ ∃ vs, p.2.data = .fields vs
/-- what a def promises of that very exception -/
structure FnE (P : Program) (w : World) (K : PySem.W.Frag) (mg : Str → Option Value) (base : Heap) (CX : CXT) (k : Nat) (f : Addr) (fd : FuncData) (ps : List Str) (sp : Value → Addr → Sp) : Prop where
  len : ∀ cls a vs H Q E, sp cls a vs H Q E → vs.length = ps.length
  run : ∀ (cls : Value) (A : Around) (outer : List Env) (s : Shared) (H : Hp) (args : Args) (us : List Value) (vs : List V) (Q : VK) (E : XK) (p : Addr × Obj),
    RoomH k A → Hot1 A p → Held cls p → PinOk outer H s p → Env0 P w K mg base A outer s H → BindsTo s fd args (ps.zip us) → Vals vs us → sp cls p.1 vs H Q E →
    codeAny (model P w) A (.call (.ref f) args) (CR CX outer P w H s Q E) s
theorem fnE_of {CX : CXT} {P : Program} {w : World} {K : PySem.W.Frag} {mg : Str → Option Value} {base : Heap} {k : Nat} {f : Addr} {name qual : Str} {params : Arguments} {body : List Stmt} {scope : Scope} {dV kV doc pm cdv ct oc : Value} {an od : Option Addr}
    {osl : Array (Option Value)} {N ps : List Str} {sp : Value → Addr → Sp} (lk : K.lookup f = some ⟨oc, od, .func (PySem.W.fnOf name qual params body scope dV kV doc pm an cdv ct), osl⟩)
    (hcd : PySem.W.codeIn K cdv qual = true) (S : FnScope N ps scope) (len : ∀ cls a vs H Q E, sp cls a vs H Q E → vs.length = ps.length)
    (hbody : ∀ (cls : Value) (A : Around) (outer : List Env) (s : Shared) (H : Hp) (vs : List V) (Q : VK) (E : XK) (p : Addr × Obj),
      Hot1 A p → Held cls p → RoomH k (A.deeper (envOfC qual scope s.heap.objs.size f cdv)) → sp cls p.1 vs H Q E →
      ∃ t, PSs (cxH CX P w K mg base N qual scope f cdv A outer s H E p) body t ∧ t { nx := fun _ H' => Q .non H', rt := Q } (L2.start N vs) H) :
    FnE P w K mg base CX (k + 1) f (PySem.W.fnOf name qual params body scope dV kV doc pm an cdv ct) ps sp := by
  refine ⟨len, fun cls A outer s H args us vs Q E p hr hot held hpin e0 hb r hsp => ?_⟩
  have KX : K.In s.heap :=
    e0.mod.kin.keeps fun b o z => (e0.bs b o z).1
  have lim : s.heap.NoLimit :=
    e0.mod.nolimit.keeps fun b o z => (e0.bs b o z).1
  have kinds : ∀ y ∈ ps.zip us, scope.names.lookup y.1 = some .local ∨
      (scope.names.lookup y.1 = some .cell ∧ ((cellsFrom (s.heap.objs.size + 1) scope.names []).lookup y.1).isSome = true) := by
    rintro ⟨n, v⟩ hy
    rcases S.par n (List.of_mem_zip hy).1 with z | z
    · exact .inl z
    · exact .inr ⟨z, PySem.W.cellsFrom_some _ _ _ (.inl z)⟩
  obtain ⟨t, ht, hq⟩ := hbody cls A outer s H vs Q E p hot held (hr.deeper _) hsp
  refine codeAny_call_function hr.depth (KX _ _ lk) rfl S.co S.gen rfl
    (PySem.W.codeRec_of KX hcd) (hb _ _ _ _
      (wpAny_newFunctionEnv_cells S.kind kinds fun env he s1 x => ?_))
  subst he
  have I := inv_startH (CX := CX) (qual := qual) (f := f) (cd := cdv) (E := E) S hpin e0 (len _ _ _ _ _ _ hsp) r x
  refine ⟨lim.keeps x.toInCall.keep, codeAny_func (wpAny_mono (ht.run [] s1 _ H _ I hq) (fun fl s2 h2 => ?_) fun _ _ z => z)⟩
  cases fl with
  | ret u => exact let ⟨v, τ, H2, J, rv, q⟩ := h2; ⟨v, H2, J.os, J.bare, J.base, J.hok, rv, q⟩
  | next => exact let ⟨τ, H2, J, q⟩ := h2; ⟨V.non, H2, J.os, J.bare, J.base, J.hok, rfl, q⟩
  | brk => exact let ⟨_, _, _, q⟩ := h2; False.elim q
  | cont => exact let ⟨_, _, _, q⟩ := h2; False.elim q
/-- such a def, called in a suite (or a def) that holds the exception -/
theorem run_fnE {X : Cx} {CX : CXT} {k : Nat} {f : Addr} {fd : FuncData} {ps : List Str} {sp : Value → Addr → Sp} {E : XK} {cls : Value} {p : Addr × Obj} {pins : List (Addr × Obj)} {σ : St} {H : Hp} {s : Shared} {Q : VK} {us : List Value} {vs : List V}
    (F : FnE X.prog X.w X.K X.mg X.base CX k f fd ps sp) (hr : RoomH k X.A) (hot : Hot1 X.A p) (held : Held cls p) (hp : p ∈ X.pn) (hb : Binds X.K fd ps []) (hx : Passes CX X E)
    (I : Inv X pins σ H s) (r : Vals vs us) (h : sp cls p.1 vs H Q E) : wpAny (model X.prog X.w) X.A (call (.ref f) us) (EP X pins σ Q) X.xe s := by
  have b := hb s us I.kIn (by rw [List.append_nil, ← r.length]; exact F.len _ _ _ _ _ _ h)
  rw [List.append_nil] at b
  have P := I.pin p (List.mem_append_left _ hp)
  have hpin : PinOk X.stack H s p := ⟨P.1, P.2.1,
    fun hm => (List.mem_cons.mp (I.stkSub p.1 hm)).elim P.2.2.1 P.2.2.2.1, P.2.2.2.2⟩
  refine wpAny_call (codeAny_mono (F.run cls X.A X.stack s H ⟨us, []⟩ us vs Q E p hr hot held hpin I.env0 b r h) fun res s2 h2 => ?_)
  match res, h2 with
  | .error e, h2 => exact hx pins σ H s e s2 I h2
  | .ok (.ret u), h2 => exact I.after h2
  | .ok .next, h2 => exact h2.elim
  | .ok .brk, h2 => exact h2.elim
  | .ok .cont, h2 => exact h2.elim
theorem pe_callE {X : Cx} {CX : CXT} {k : Nat} {f : Addr} {fd : FuncData} {ps : List Str} {sp : Value → Addr → Sp} {E : XK} {cls : Value} {p : Addr × Obj} {x : Str} {e : Expr} {es : List Expr} {t : TA} {q pos : Pos}
    (F : FnE X.prog X.w X.K X.mg X.base CX k f fd ps sp) (hr : RoomH k X.A) (hot : Hot1 X.A p) (held : Held cls p) (hp : p ∈ X.pn) (hg : Gl X x) (hm : X.mg x = some (.ref f)) (hk : PySem.W.keepIn X.K (.ref f) = true) (hb : Binds X.K fd ps []) (hx : Passes CX X E)
    (ha : PA X (e :: es) t) (hdb : (x == ("__debug__" : Str)) = false := by decide) (he : starEach (e :: es) X.env = (false, eval e X.env) :: starEach es X.env := by rfl) (hpl : (backTo pos (starEach es X.env)).any (·.1) = false := by rfl) :
    PE X (.Call (.Name x q) (e :: es) [] pos) (fun σ H Q => t σ H fun vs H2 => sp cls p.1 vs H2 Q E) := by
  refine ⟨fun pins s σ H Q I h => wpAny_Call_Name_kw (ld_glob I hg hm ?_ hdb)⟩
  refine PySem.W.callWith_K (h₀ := X.base) I.ok.mod.kin hk
    (thn (ha.run pos pins s σ H _ I h) fun us s1 ⟨vs, H1, I1, r, h1⟩ => ⟨I1.kIn, ?_⟩) he hpl
  exact run_fnE F hr hot held hp hb hx I1 r h1
end L2H

/-! JY: a def that calls the lambda it got, exceptions let out of it with their context known -/
namespace LamN
open PySem PySem.Spec PyProof.Rows L2 LamX
section
variable {X : Cx} {pins : List (Addr × Obj)} {σ : L2.St} {H HZ : Hp} {s s1 : Shared}
/-- what leaves the lambda's frame -/
abbrev lxe (X : Cx) (A : Around) (outer : List Env) (s : Shared) (H : Hp) (E : XK) (scope : Scope) (f c' : Addr) : Value → Shared → Prop := fun e s' =>
  wpAny (model X.prog X.w) (A.deeper (lamEnv X scope s.heap.objs.size f c')) (leaving (lamEnv X scope s.heap.objs.size f c') e)
    (fun _ s2 => L2N.CX X.prog X.w outer H s E e s2) (fun e2 s2 => L2N.CX X.prog X.w outer H s E e2 s2) s'
/-- the lambda's context -/
abbrev lcx (X : Cx) (A : Around) (outer : List Env) (s : Shared) (H : Hp) (E : XK) (scope : Scope) (f c' : Addr) : Cx :=
  { lamCx X A outer s H E scope f c' with xe := lxe X A outer s H E scope f c' }
theorem to_lcx {A : Around} {outer : List Env} {s0 : Shared} {H0 : Hp} {E : XK} {scope : Scope} {f c' : Addr} (I : Inv (lamCx X A outer s0 H0 E scope f c') pins σ H s) : Inv (lcx X A outer s0 H0 E scope f c') pins σ H s where
  ok := { mod := I.ok.mod, kind := I.ok.kind, glob := I.ok.glob, blt := I.ok.blt, above := I.ok.above, inj := I.ok.inj, has := I.ok.has, cab := I.ok.cab, hd := I.ok.hd, frames := I.ok.frames, stk := I.ok.stk, exf := I.ok.exf, bs := I.ok.bs, bsz := I.ok.bsz, noex := I.ok.noex, exfs := I.ok.exfs, funs := I.ok.funs, frf := I.ok.frf }
  os := I.os
  bare := I.bare
  base := I.base
  loc := I.loc
  cell := I.cell
  free := I.free
  freeC := I.freeC
  hok := I.hok
  len := I.len
  pin := I.pin
theorem pe_act {CXg : CXT} {Eg : XK} {Ng : List Str} {qg : Str} {sg : Scope} {g f c' : Addr} {cdg pm ctv : Value} {params : Arguments} {body : Expr} {scope : Scope} {k i : Nat} {a : Str} {pn : List (Addr × Obj)} {xe : Value → Shared → Prop} {W : WX} {E : XK} {tb : TE} {p1 p2 : Pos}
    (I : Inv X pins σ H s) (L : LamS X.env.scope scope) (hf : s.heap.get? f = some (PySem.W.kla_obj "<lambda>" (X.env.qual ++ "<lambda>") params body scope (cloFrom X.env.cells scope.names []) pm c' ctv))
    (hfn : H f = none) (hfr : f ∉ frs X.stack)
    (hbind : bindArgs (PySem.W.kla_fn "<lambda>" (X.env.qual ++ "<lambda>") params body scope (cloFrom X.env.cells scope.names []) pm (.ref c') ctv) ⟨[], []⟩ = pure [])
    (tk : L2N.Takes ((cxOf CXg X.prog X.w X.K X.mg X.base Ng qg sg g cdg X.A X.stack s H Eg).tr pn xe) W) (hW : ∀ cls d τ H', τ.length = Ng.length → E cls d H' → W cls d τ H')
    (hr : Room (k + 1) (X.A.deeper (envOfC qg sg s.heap.objs.size g cdg)))
    (hbody : ∀ (A : Around) (outer : List Env) (s : Shared) (H : Hp), Room k (A.deeper (lamEnv X scope s.heap.objs.size f c')) → PE (lcx X A outer s H E scope f c') body tb)
    (hN : Ng[i]? = some a) (hv : Vis sg a) (hd : (a == ("__debug__" : Str)) = false := by decide) (hcd : (a == ("__classdict__" : Str)) = false := by decide) :
    PE ((cxOf CXg X.prog X.w X.K X.mg X.base Ng qg sg g cdg X.A X.stack s H Eg).tr pn xe) (.Call (.Name a p1) [] [] p2)
      (fun τ HZ Q => τ[i]? = some (some (.ref f)) ∧ HZ c' = some (CodeO c' (X.env.qual ++ "<lambda>")) ∧ tb σ HZ Q) := by
  refine ⟨fun pinsZ sZ τ HZ Q IZ ⟨at_i, hc, ht⟩ => ?_⟩
  have look := (pe_var (X := (cxOf CXg X.prog X.w X.K X.mg X.base Ng qg sg g cdg X.A X.stack s H Eg).tr pn xe) (pos := p1) (i := i) hN hv hd hcd).run pinsZ sZ τ HZ (fun v H1 => v = .ref f ∧ H1 = HZ) IZ ⟨.ref f, at_i, rfl, rfl⟩
  refine wpAny_Call_Name_kw (thn look fun u s1 ⟨v, H1, I1, r1, ev, eH⟩ => ?_)
  subst ev
  rw [eH] at I1
  obtain rfl : u = Value.ref f := r1
  have of1 := I1.base.keep f _ hf hfn hfr
    (fun z => nomatch (show f ∈ ([] : List Addr) from z))
  refine PySem.W.callWith_F0 ⟨_, _, _, _, of1⟩ ?_
  obtain ⟨⟨oc, vs, t, hoc, hdc, hvc⟩, _, _⟩ := I1.hok c' _ hc
  have run : codeAny (model X.prog X.w) (X.A.deeper (envOfC qg sg s.heap.objs.size g cdg)) (.call (.ref f) ⟨[], []⟩)
      (CR (L2N.CX X.prog X.w) (envOfC qg sg s.heap.objs.size g cdg :: X.stack) X.prog X.w HZ s1 Q E) s1 := by
    refine PySem.W.kla_callFunE hr.depth of1 rfl L.co L.gen rfl
      ⟨c', oc, vs, t, rfl, hoc, hdc, hvc⟩ ?_
    rw [hbind]
    refine wpAny_pure (wpAny_newFunctionEnv (fun y hy => (L.own y hy).2)
      (fun y hy => absurd hy (by simp)) (fun h₁ hns hsb => ⟨I1.nolimit.fresh _ hsb, ?_⟩) L.kind)
    show codeAny _ _ (.expr body (lamEnv X scope s1.heap.objs.size f c')) _ _
    have kp : ∀ b o, s1.heap.get? b = some o → h₁.get? b = some o := fun b o z =>
      hsb.extBut b o (Nat.ne_of_lt (Heap.lt_size z)) (Heap.get?_push_of_some _ z)
    have J := to_lcx (lam_start2 (A := X.A.deeper (envOfC qg sg s.heap.objs.size g cdg)) (outer := envOfC qg sg s.heap.objs.size g cdg :: X.stack) (E := E) (f := f) (c' := c')
      (tk := s1.toks + ([] : List (Str × Value)).length) I L I1.env0 hr.hd I1.base hns kp)
    refine PySem.W.kla_codeExpr (wpAny_mono ((hbody _ _ s1 HZ (hr.deeper _)).run [] _ _ HZ Q J ht)
      (fun v s2 ⟨w', H', J', rv, q⟩ => ⟨w', H', J'.os, J'.bare, J'.base, J'.hok, rv, q⟩) fun _ _ z => z)
  refine wpAny_call (codeAny_mono run fun res s2 h2 => ?_)
  match res, h2 with
  | .error e, h2 => exact tk e s2 (L2N.XE.of_call I1 (fun cls d H' z => hW cls d τ H' I1.len z) h2)
  | .ok (.ret u), h2 => exact I1.after h2
  | .ok .next, h2 => exact h2.elim
  | .ok .brk, h2 => exact h2.elim
  | .ok .cont, h2 => exact h2.elim
end
section
variable {X : Cx} {pins : List (Addr × Obj)} {σ : L2.St} {H : Hp} {s : Shared}
/-- all but the table at P is as before -/
abbrev But (P : Addr) (H H1 : Hp) : Prop := ∀ b o, b ≠ P → H b = some o → H1 b = some o
/-- a lambda is made: its code object is laid into the def's table, or found there -/
theorem lam_new {c P : Addr} {params : Arguments} {body : Expr} {scope : Scope} {pos : Pos} {E : Value → Shared → Prop} {Q : Value → Shared → Prop} (I : Inv X pins σ H s) (TB : TabB X.base X.mg c P) (hcode : X.env.code = .ref c)
    (hT : TabS H P (X.env.qual ++ "<lambda>")) (hdef : defaultsOf params X.env = ([], [])) (hfree : ∀ y ∈ scope.names, y.2 = .free → ∃ c, X.env.cells.lookup y.1 = some c)
    (h : ∀ (f c' : Addr) (pm ctv : Value) (H1 : Hp) (s' : Shared), Inv X pins σ H1 s' → But P H H1 → TabS H1 P (X.env.qual ++ "<lambda>") →
      s'.heap.get? f = some (PySem.W.kla_obj "<lambda>" (X.env.qual ++ "<lambda>") params body scope (cloFrom X.env.cells scope.names []) pm c' ctv) →
      H1 f = none → f ∉ frs X.stack → H1 c' = some (CodeO c' (X.env.qual ++ "<lambda>")) → Q (.ref f) s') :
    wpAny (model X.prog X.w) X.A (eval (.Lambda params body scope pos) X.env) Q E s := by
  obtain ⟨ps, hP, three, known⟩ := hT
  have hP' : s.heap.get? P = some { cls := .none, data := .fields ps } := I.hok P _ hP
  have new_fr : ∀ f, s.heap.objs.size ≤ f → f ∉ frs X.stack := fun f hf z => by
    rcases List.mem_cons.mp (I.stkSub _ z) with e | e
    · exact Nat.lt_irrefl _ (Nat.lt_of_lt_of_le (by rw [e]; exact I.lt) hf)
    · exact I.nofs hf e
  refine PySem.W.kla_eval hdef ?_
  match hc : codeAmong pos ps.toList with
  | some cv =>
    obtain ⟨c', rfl, hco⟩ := known pos cv hc
    refine PySem.W.kla_makeFunctionHit (mg := X.mg) (c := c) (P := P) (ps := ps) (closure_ok hfree) I.ok.glob (I.mod.glob.keeps I.bk)
      hcode (TB.code.keeps I.bk) hP' three hc (TB.bm.keeps I.bk) fun ctv h' tk hx hsz => ?_
    exact h h'.objs.size c' ((X.mg "__name__").getD .none) ctv H _ (I.kept (t' := tk) fun b o z => Heap.get?_push_of_some _ (hx b o z)) (fun _ _ _ z => z) ⟨ps, hP, three, known⟩
      (Heap.get?_push_size _ rfl) (I.hok.fresh hsz) (new_fr _ hsz) hco
  | none =>
    refine PySem.W.kla_makeFunction (mg := X.mg) (c := c) (P := P) (ps := ps) (closure_ok hfree) I.ok.glob (I.mod.glob.keeps I.bk)
      hcode (TB.code.keeps I.bk) hP' three hc TB.gP (TB.bm.keeps I.bk) fun c' ctv h' tk hx hge hlt hrec htb => ?_
    obtain ⟨c2, oc, vs, t, e2, hoc, hd, hv⟩ := hrec
    cases e2
    have big : s.heap.objs.size ≤ h'.objs.size := Nat.le_trans hge (Nat.le_of_lt hlt)
    have nC : H c' = none := I.hok.fresh hge
    have J := inv_table (t' := tk) (more := #[rawInt pos.line, rawInt pos.col, .ref c'])
      (h' := h'.push (PySem.W.kla_obj "<lambda>" (X.env.qual ++ "<lambda>") params body scope (cloFrom X.env.cells scope.names []) ((X.mg "__name__").getD .none) c' ctv)) I hP
      (fun b o hb z => Heap.get?_push_of_some _ (hx b o hb z)) (Heap.get?_push_of_some _ htb) hge ⟨oc, vs, t, Heap.get?_push_of_some _ hoc, hd, hv⟩
    have but : But P H (upd (upd H P (.tbl (ps ++ #[rawInt pos.line, rawInt pos.col, .ref c']))) c' (CodeO c' (X.env.qual ++ "<lambda>"))) := fun b o nb z => by
      rw [upd_ne (ne_of_none z nC), upd_ne nb]
      exact z
    refine h h'.objs.size c' ((X.mg "__name__").getD .none) ctv _ _ J but ⟨ps ++ #[rawInt pos.line, rawInt pos.col, .ref c'], ?_, ?_, fun p' cv hcv => ?_⟩ (Heap.get?_push_size _ rfl) ?_ (new_fr _ big) upd_same
    · rw [upd_ne (ne_of_none hP nC), upd_same]
    · rw [show (ps ++ #[rawInt pos.line, rawInt pos.col, .ref c']).toList = ps.toList ++ [rawInt pos.line, rawInt pos.col, .ref c'] by simp]
      exact PySem.TriplesOk_snoc _ _ _ _ three
    · rw [show (ps ++ #[rawInt pos.line, rawInt pos.col, .ref c']).toList = ps.toList ++ [rawInt pos.line, rawInt pos.col, .ref c'] by simp] at hcv
      rcases among_app _ three hcv with z | z
      · obtain ⟨c0, e1, e2⟩ := known p' cv z
        refine ⟨c0, e1, but _ _ (fun w => ?_) e2⟩
        rw [w, hP] at e2
        exact codeO_ne _ (Option.some.inj e2).symm
      · exact ⟨c', z, upd_same⟩
    · have n1 : h'.objs.size ≠ c' := Nat.ne_of_gt hlt
      have n2 : h'.objs.size ≠ P := Nat.ne_of_gt (Nat.lt_of_lt_of_le (Heap.lt_size hP') big)
      rw [upd_ne n1, upd_ne n2]
      exact I.hok.fresh big
end
/-- the reading of a call of the def g with a lambda, made where the def's table lies at P -/
def tLam (P : Addr) (q : Str) (TT : (XK → Hp → VK → Prop) → Hp → VK → Prop) (t : XK → TE) : TE := fun σ H Q =>
  TabS H P q ∧ ∀ H1, But P H H1 → TabS H1 P q → TT (fun E H' Q' => t E σ H' Q') H1 Q
/-- the def g that calls what it got -/
def Gives (X : Cx) (j : Nat) (Ng : List Str) (x : Str) (sg : Scope) (g : Addr) (cdg : Value) (bg : List Stmt) (a : Str) (q : Str) (TT : (XK → Hp → VK → Prop) → Hp → VK → Prop) : Prop :=
  ∀ (f c' : Addr) (s : Shared) (H : Hp) (Q : VK) (tl : XK → Hp → VK → Prop), Room j (X.A.deeper (envOfC x sg s.heap.objs.size g cdg)) →
    (∀ (W : WX) (pn : List (Addr × Obj)) (xe : Value → Shared → Prop) (E : XK) (p1 p2 : Pos),
      L2N.Takes ((cxOf C8.CX0 X.prog X.w X.K X.mg X.base Ng x sg g cdg X.A X.stack s H C8.E0).tr pn xe) W → (∀ cls d τ H', τ.length = Ng.length → E cls d H' → W cls d τ H') →
      PE ((cxOf C8.CX0 X.prog X.w X.K X.mg X.base Ng x sg g cdg X.A X.stack s H C8.E0).tr pn xe) (.Call (.Name a p1) [] [] p2)
        (fun τ HZ Q => τ[0]? = some (some (.ref f)) ∧ HZ c' = some (CodeO c' q) ∧ tl E HZ Q)) →
    H c' = some (CodeO c' q) → TT tl H Q →
    ∃ t, PSs (cxOf C8.CX0 X.prog X.w X.K X.mg X.base Ng x sg g cdg X.A X.stack s H C8.E0).nox bg t ∧
      t { nx := fun _ H' => Q .non H', rt := Q } (L2.start Ng [.ref f]) H
section
variable {X : Cx}
theorem pe_lamcall {TT : (XK → Hp → VK → Prop) → Hp → VK → Prop} {x a : Str} {g c P : Addr} {k : Nat} {pg : Arguments} {bg : List Stmt} {sg : Scope} {dV kV doc pm cdv ct oc : Value} {an od : Option Addr} {osl : Array (Option Value)} {Ng : List Str}
    {params : Arguments} {body : Expr} {scope : Scope} {t : XK → TE} {p lpos pos : Pos} (hg : Gl X x) (hm : X.mg x = some (.ref g)) (hk : PySem.W.keepIn X.K (.ref g) = true)
    (lk : X.K.lookup g = some ⟨oc, od, .func (PySem.W.fnOf x x pg bg sg dV kV doc pm an cdv ct), osl⟩)
    (hcg : PySem.W.codeIn X.K cdv x = true) (hb : L2.Binds X.K (PySem.W.fnOf x x pg bg sg dV kV doc pm an cdv ct) [a] []) (Sg : FnScope Ng [a] sg) (hNg : Ng[0]? = some a) (hva : Vis sg a)
    (hG : Gives X (k + 1) Ng x sg g cdv bg a (X.env.qual ++ "<lambda>") TT)
    (TB : TabB X.base X.mg c P) (hcode : X.env.code = .ref c)
    (hr : Room (k + 2) X.A) (L : LamS X.env.scope scope) (hdef : defaultsOf params X.env = ([], []))
    (hbind : ∀ (q : Str) (cl : List (Str × Addr)) (pm cv ctv : Value), bindArgs (PySem.W.kla_fn "<lambda>" q params body scope cl pm cv ctv) ⟨[], []⟩ = pure [])
    (hbody : ∀ (A : Around) (outer : List Env) (s : Shared) (H : Hp) (E : XK) (f c' : Addr), Room k (A.deeper (lamEnv X scope s.heap.objs.size f c')) → PE (lcx X A outer s H E scope f c') body (t E))
    (hdb : (x == ("__debug__" : Str)) = false := by decide) (hd : (a == ("__debug__" : Str)) = false := by decide) (hcd : (a == ("__classdict__" : Str)) = false := by decide) :
    PE X (.Call (.Name x p) [.Lambda params body scope lpos] [] pos) (tLam P (X.env.qual ++ "<lambda>") TT t) := by
  refine ⟨fun pins s σ H Q I ⟨hT, h⟩ => wpAny_Call_Name_kw (ld_glob I hg hm ?_ hdb)⟩
  refine PySem.W.callWith_K (h₀ := X.base) I.ok.mod.kin hk ?_ (by rfl) (by rfl)
  show wpAny _ _ (spliced ((false, eval (.Lambda params body scope lpos) X.env) :: backTo pos (starEach [] X.env))) _ _ s
  refine Calls.spliced_cons (lam_new I TB hcode hT hdef (L.has I.ok)
    fun f c' pm' ctv H1 s1 I1 eN T1 hf hfn hfr hco => Calls.spliced_nil ⟨I1.kIn, ?_⟩)
  have run : codeAny (model X.prog X.w) X.A (.call (.ref g) ⟨[.ref f], []⟩) (CR C8.CX0 X.stack X.prog X.w H1 s1 Q C8.E0) s1 := by
    refine run_ofS (N := Ng) (ps := [a]) (us := [.ref f]) (vs := [.ref f]) lk hcg Sg hr I1.env0
      (hb s1 [.ref f] I1.kIn rfl) (.cons rfl .nil) rfl fun hr1 => ?_
    obtain ⟨t', ht', hq'⟩ := hG f c' s1 H1 Q (fun E H' Q' => t E σ H' Q') hr1
      (fun W pn xe E p1 p2 tk hW => pe_act (i := 0) I1 L hf hfn hfr (hbind _ _ _ _ _) tk hW hr1
        (fun A outer s H hr2 => hbody A outer s H E f c' hr2) hNg hva hd hcd) hco (h H1 eN T1)
    exact ⟨t', ht'.nox, hq'⟩
  refine wpAny_call (codeAny_mono run fun res s2 h2 => ?_)
  match res, h2 with
  | .error e, h2 => exact (show False from h2).elim
  | .ok (.ret u), h2 => exact I1.after h2
  | .ok .next, h2 => exact h2.elim
  | .ok .brk, h2 => exact h2.elim
  | .ok .cont, h2 => exact h2.elim
theorem takes0 {X : Cx} : L2N.Takes X (fun _ _ _ _ => False) := fun _ _ x => by
  obtain ⟨_, _, _, _, _, _, _, _, _, _, _, _, _, _, _, _, z⟩ := x
  exact z.elim
/-- try: return a() / except x as n: return w(n) -/
def TTw (K : PySem.W.Frag) (CS : Addr) (sp : Value → Addr → Sp) : (XK → Hp → VK → Prop) → Hp → VK → Prop := fun tl H Q =>
  tl (fun cls d H' => d = none ∧ PySem.W.exmOne K cls (.ref CS) = some true ∧ ∀ a, H' a = none → sp cls a [.ref a] H' Q (fun _ _ _ => False)) H Q
theorem gives_word {Ng : List Str} {j k : Nat} {x a e n w q : Str} {sg : Scope} {g CS fw : Addr} {cdg : Value} {fdw : FuncData} {psw : List Str} {sp : Value → Addr → Sp} {p1 p2 p3 p4 p5 p6 p7 p8 p9 p10 : Pos}
    (hge : sg.names.lookup e = some .globalImplicit) (hme : X.mg e = some (.ref CS)) (hde : (e == ("__debug__" : Str)) = false)
    (h0 : ∀ f : Addr, (L2.start Ng [V.ref f])[0]? = some (some (V.ref f))) (hNn : Ng.Nodup) (h1 : Ng[1]? = some n) (hln : sg.names.lookup n = some .local)
    (hgw : sg.names.lookup w = some .globalImplicit) (hmw : X.mg w = some (.ref fw)) (hkw : PySem.W.keepIn X.K (.ref fw) = true) (hbw : L2.Binds X.K fdw psw [])
    (F : L2H.FnE X.prog X.w X.K X.mg X.base (L2N.CX X.prog X.w) k fw fdw psw sp) (hk : k ≤ j) (hdn : (n == ("__debug__" : Str)) = false := by decide) (hcn : (n == ("__classdict__" : Str)) = false := by decide) (hdw : (w == ("__debug__" : Str)) = false := by decide) :
    Gives X j Ng x sg g cdg [.Try [.Return (some (.Call (.Name a p1) [] [] p2)) p3] [.ExceptHandler (some (.Name e p4)) (some n) [.Return (some (.Call (.Name w p5) [.Name n p6] [] p7)) p8] p9] [] [] p10] a q (TTw X.K CS sp) := by
  intro f c' s H Q tl hr act hc h
  refine ⟨_, pss_one (L2N.ps_try_as (X := (cxOf C8.CX0 X.prog X.w X.K X.mg X.base Ng x sg g cdg X.A X.stack s H C8.E0).nox) (c := .ref CS) (i := 1)
      (tb := fun W D σ H => ∃ Ech : XK, (∀ cls d τ H', τ.length = Ng.length → Ech cls d H' → W cls d τ H') ∧ σ[0]? = some (some (.ref f)) ∧ H c' = some (CodeO c' q) ∧ tl Ech H D.rt)
      (ts := fun a cls d D σ H => d = none ∧ σ[1]? = some (some (.ref a)) ∧ sp cls a [.ref a] H D.rt (fun _ _ _ => False))
      rfl rfl hNn h1 hln ⟨hge, hde, .inl hme⟩ takes0 (fun W pn xe tk _ => ?_) (fun a oe cls d pn hz hv => ?_)), ?_⟩
  · refine ⟨fun pins s2 σ H D I ⟨Ech, hW, a1, a2, a3⟩ => ?_⟩
    exact (pss_one (ps_ret (pos := p3) (act W pn xe Ech p1 p2 tk hW))).run pins s2 σ H D I ⟨a1, a2, a3⟩
  · refine ⟨fun pins s2 σ HS D I ⟨dn, a1, a2⟩ => ?_⟩
    subst dn
    obtain ⟨vs, hv⟩ := hv
    have pv := pe_var (X := (cxOf C8.CX0 X.prog X.w X.K X.mg X.base Ng x sg g cdg X.A X.stack s H C8.E0).nox.suite a ((a, oe) :: pn)) (pos := p6) (i := 1) h1 (.inl hln) hdn hcn
    have pc := L2H.pe_callE (X := (cxOf C8.CX0 X.prog X.w X.K X.mg X.base Ng x sg g cdg X.A X.stack s H C8.E0).nox.suite a ((a, oe) :: pn)) (pos := p7) (q := p5) (x := w) (E := fun _ _ _ => False) (p := (a, oe)) (cls := cls) F (L2H.RoomH.mono ⟨hr.dp, hr.un⟩ hk) ⟨rfl, vs, hv, hz.2.2 vs hv⟩ ⟨hz, vs, hv⟩ List.mem_cons_self hgw hmw hkw hbw J.passN
      (pa_cons pv pa_nil) hdw
    exact (pss_one (ps_ret (pos := p8) pc)).run pins s2 σ HS D I ⟨_, a1, a2⟩
  · refine ⟨_, fun cls d τ H' hl ⟨dn, e1, e2⟩ => ⟨true, e1, fun _ b hb => ⟨dn, ?_, e2 b hb⟩, fun z => nomatch z⟩, h0 f, hc, h⟩
    rw [List.getElem?_set_self (by rw [hl]; exact (List.getElem?_eq_some_iff.mp h1).1)]
end
end LamN

/-! JZ: told(lambda: ..) by data -/
namespace J
open PySem PySem.Spec PyProof.Rows L2 LamX
section
variable {K : PySem.W.Frag} {B : Hp} {loc : List Addr} {M : Mem} {H H1 : Hp} {j : Nat} {P : Addr} {q : Str}
theorem tab_at (r : Rel K B loc M H) (h : M[j]? = some (.tab P q)) : loc[j]? = some P ∧ B P = none ∧ TabS H P q := by
  have hj : j < loc.length := by rw [r.len]; exact (List.getElem?_eq_some_iff.mp h).1
  obtain ⟨b0, ea, ps, h1, h2, h3⟩ := r.obj j _ _ (List.getElem?_eq_getElem hj) h trivial
  rw [ea] at b0 h1
  refine ⟨by rw [← ea]; exact List.getElem?_eq_getElem hj, b0, ps, h1, h2, fun pos cv hc => ?_⟩
  obtain ⟨c, e, hB⟩ := h3 pos cv hc
  exact ⟨c, e, r.ext _ _ hB⟩
/-- what stands for good, and the code objects -/
def addX (B H1 : Hp) : Hp := fun b => match B b with
  | some o => some o
  | none => match H1 b with
    | some (.ext φ) => some (.ext φ)
    | _ => none
theorem addX_old {b : Addr} {o : HO} (h : B b = some o) : addX B H1 b = some o := by
  unfold addX
  rw [h]
theorem addX_new {b : Addr} {φ : Heap → Prop} (n : B b = none) (h : H1 b = some (.ext φ)) : addX B H1 b = some (.ext φ) := by
  unfold addX
  rw [n, h]
theorem addX_inv {b : Addr} {o : HO} (h : addX B H1 b = some o) : B b = some o ∨ (∃ φ, o = .ext φ) ∧ H1 b = some o := by
  unfold addX at h
  split at h
  · rename_i e
    exact .inl (e.trans h)
  · split at h
    · rename_i φ e
      cases h
      exact .inr ⟨⟨φ, rfl⟩, e⟩
    · cases h
theorem tab_step (r : Rel K B loc M H) (h : M[j]? = some (.tab P q)) (x : LamN.But P H H1) (t : TabS H1 P q) : Rel K (addX B H1) loc M H1 ∧ Go B loc H (addX B H1) loc H1 := by
  obtain ⟨lj, bP, ps0, hP, _, _⟩ := tab_at r h
  obtain ⟨ps, hP1, t2, t3⟩ := t
  have nP : ∀ {b o}, B b = some o → b ≠ P := fun {b o} e z => by rw [z, bP] at e; cases e
  have sB : Same B (addX B H1) := fun b o e => addX_old e
  have ext1 : ∀ b o, B b = some o → H1 b = some o := fun b o e => x b o (nP e) (r.ext b o e)
  have code : ∀ {b φ}, H1 b = some (.ext φ) → addX B H1 b = some (.ext φ) := fun {b φ} e => by
    cases hb : B b with
    | none => exact addX_new hb e
    | some o =>
      rw [ext1 b o hb] at e
      rw [addX_old hb, Option.some.inj e]
  have noX : ∀ {i : Nat} {a : Addr} {o : MO}, loc[i]? = some a → M[i]? = some o → o.live → ∀ u, addX B H1 a ≠ some u := fun {i a o} e1 e2 l u e => by
    obtain ⟨b0, d⟩ := r.obj i a o e1 e2 l
    rcases addX_inv e with z | ⟨⟨φ, rfl⟩, z⟩
    · rw [b0] at z; cases z
    · by_cases ha : a = P
      · rw [ha, hP1] at z; cases z
      · cases o with
        | dead => exact l
        | lst ds => obtain ⟨vs, h1, _⟩ := d; rw [x _ _ ha h1] at z; cases z
        | dic kvs => obtain ⟨vs, h1, _⟩ := d; rw [x _ _ ha h1] at z; cases z
        | rcd ks ds => obtain ⟨_, vs, h1, _⟩ := d; rw [x _ _ ha h1] at z; cases z
        | ins C ks ds => obtain ⟨_, dx, vs, h1, _⟩ := d; rw [x _ _ ha h1] at z; cases z
        | tab P' q' => obtain ⟨_, vs, h1, _⟩ := d; rw [x _ _ ha h1] at z; cases z
        | lck ho kvs => obtain ⟨h1, od, ws, rfl, _⟩ := d; rw [x _ _ ha h1] at z; cases z
  refine ⟨⟨fun b o e => ?_, r.len, fun i a o e1 e2 l => ⟨?_, ?_⟩, r.inj, fun a ha => ?_, fun b ps e => ?_, fun i a o ps e1 e2 e3 => ?_⟩, ⟨sB, List.prefix_rfl, fun a o e n => x a o (fun z => n (by rw [z]; exact List.mem_of_getElem? lj)) e, fun a q => .inl q, fun a o e => ?_⟩⟩
  · rcases addX_inv e with z | ⟨_, z⟩
    · exact ext1 b o z
    · exact z
  · cases e : addX B H1 a with
    | none => rfl
    | some u => exact absurd e (noX e1 e2 l u)
  · obtain ⟨_, d⟩ := r.obj i a o e1 e2 l
    by_cases ha : a = P
    · subst ha
      have ij := r.inj i j a o _ e1 lj e2 h l trivial
      subst ij
      rw [h] at e2
      cases e2
      refine ⟨rfl, ps, hP1, t2, fun pos cv hc => ?_⟩
      obtain ⟨c, ec, hcc⟩ := t3 pos cv hc
      exact ⟨c, ec, code hcc⟩
    · exact d.mono sB List.prefix_rfl fun u hu => x a u ha hu
  · obtain ⟨o, e⟩ := r.all a ha
    by_cases hp : a = P
    · rw [hp]; exact ⟨_, hP1⟩
    · exact ⟨o, x a o hp e⟩
  · rcases addX_inv e with z | ⟨⟨φ, z⟩, _⟩
    · exact r.nt b ps z
    · cases z
  · by_cases hp : a = P
    · exact r.tb i a o ps0 e1 e2 (by rw [hp]; exact hP)
    · obtain ⟨u, hu⟩ := r.all a (List.mem_of_getElem? e1)
      rw [x a u hp hu] at e3
      exact r.tb i a o ps e1 e2 (by rw [hu]; exact e3)
  · rcases addX_inv e with z | ⟨z, _⟩
    · exact .inl z
    · exact .inr (.inr (.inr z))
end
/-- what the word of a refusal is to be: by its class -/
def spW (K : PySem.W.Frag) (ctw : Addr → Mem → SQ → Prop) : Value → Addr → Sp := fun cls a vs H Q E => vs = [.ref a] ∧ ∃ C B loc M Qd, cls = .ref C ∧ Rel K B loc M H ∧ ctw C M Qd ∧ To K B loc H Qd Q
/-- a standing that knows of its wish alone -/
def edJ (Ed : Addr → Mem → Prop) : JC := ⟨fun _ => none, [], fun _ => none, E0, Ed⟩
def sTold (K : PySem.W.Frag) (j : Nat) (P : Addr) (q : Str) (CS : Addr) (ctw : Addr → Mem → SQ → Prop) (sf : JC → SE) : SE := fun ρ M Qd =>
  M[j]? = some (.tab P q) ∧ sf (edJ fun C M' => PySem.W.exmOne K (.ref C) (.ref CS) = some true ∧ ctw C M' Qd) ρ M Qd
theorem je_told {X : Cx} {c : JC} {k j : Nat} {P CS : Addr} {q : Str} {ctw : Addr → Mem → SQ → Prop} {sf : JC → SE} {e body : Expr} {scope : Scope}
    (hpe : ∀ t : XK → TE, (∀ (A : Around) (outer : List Env) (s : Shared) (H : Hp) (E : XK) (f c' : Addr), Room k (A.deeper (lamEnv X scope s.heap.objs.size f c')) → PE (LamN.lcx X A outer s H E scope f c') body (t E)) →
      PE X e (LamN.tLam P q (LamN.TTw X.K CS (spW X.K ctw)) t))
    (hbody : ∀ (A : Around) (outer : List Env) (s : Shared) (H0 : Hp) (f c' : Addr) (c1 : JC), Room k (A.deeper (lamEnv X scope s.heap.objs.size f c')) →
      JX c1 (LamN.lcx X A outer s H0 c1.E scope f c') → JE c1 (LamN.lcx X A outer s H0 c1.E scope f c') body (sf c1)) (hdep : ∀ c1 c2 : JC, c1.Ed = c2.Ed → sf c1 = sf c2) :
    JE c X e (sTold X.K j P q CS ctw sf) := by
  have jx : ∀ {B : Hp} {loc : List Addr} {H : Hp} {E : XK} {Ed : Addr → Mem → Prop} (ok : ∀ cl M' B' l' H', Go B loc H B' l' H' → Rel X.K B' l' M' H' → Ed cl M' → E (.ref cl) none H')
      (A : Around) (outer : List Env) (s : Shared) (H0 : Hp) (f c' : Addr), JX ⟨B, loc, H, E, Ed⟩ (LamN.lcx X A outer s H0 E scope f c') := fun ok A outer s H0 f c' =>
    ⟨fun cl M' B' l' H' g r z => ok cl M' B' l' H' g r z, L2N.passes_call (L2N.takes_of rfl rfl rfl rfl) fun _ _ _ _ h => h⟩
  refine ⟨_, hpe (fun E σ H Q => ∃ (B : Hp) (loc : List Addr) (Ed : Addr → Mem → Prop) (ok : ∀ cl M' B' l' H', Go B loc H B' l' H' → Rel X.K B' l' M' H' → Ed cl M' → E (.ref cl) none H'),
    ∀ (A : Around) (outer : List Env) (s : Shared) (H0 : Hp) (f c' : Addr) (hr : Room k (A.deeper (lamEnv X scope s.heap.objs.size f c'))), Classical.choose (hbody A outer s H0 f c' ⟨B, loc, H, E, Ed⟩ hr (jx ok A outer s H0 f c')) σ H Q)
    (fun A outer s H0 E f c' hr => ⟨fun pins s' σ H Q I ⟨B, loc, Ed, ok, h⟩ => ?_⟩), fun B loc M H σ ρ Q Qd A hs t => ?_⟩
  · exact (Classical.choose_spec (hbody A outer s H0 f c' ⟨B, loc, H, E, Ed⟩ hr (jx ok A outer s H0 f c'))).1.run pins s' σ H Q I (h A outer s H0 f c' hr)
  · obtain ⟨hM, hs⟩ := hs
    refine ⟨(tab_at A.rel hM).2.2, fun H1 but tab1 => ?_⟩
    obtain ⟨r1, g1⟩ := tab_step A.rel hM but tab1
    have ok : ∀ cl M' B' l' H', Go (addX B H1) loc H1 B' l' H' → Rel X.K B' l' M' H' → (PySem.W.exmOne X.K (.ref cl) (.ref CS) = some true ∧ ctw cl M' Qd) →
        (fun (cls : Value) (d : Option Addr) (H' : Hp) => d = none ∧ PySem.W.exmOne X.K cls (.ref CS) = some true ∧ ∀ a, H' a = none → spW X.K ctw cls a [.ref a] H' Q (fun _ _ _ => False)) (.ref cl) none H' :=
      fun cl M' B' l' H' g r z => ⟨rfl, z.1, fun a _ => ⟨rfl, cl, B', l', M', Qd, rfl, r, z.2, fun d M2 v B2 l2 H2 g2 r2 d2 h2 => t _ _ _ _ _ _ ((g1.trans g).trans g2) r2 d2 h2⟩⟩
    exact ⟨addX B H1, loc, _, ok, fun A0 outer s H0 f c' hr =>
      (Classical.choose_spec (hbody A0 outer s H0 f c' _ hr (jx ok A0 outer s H0 f c'))).2 (addX B H1) loc M H1 σ ρ Q Qd ⟨.refl, r1, A.env.go g1⟩ (cast (congrFun (congrFun (congrFun (hdep (edJ fun C M' => PySem.W.exmOne X.K (.ref C) (.ref CS) = some true ∧ ctw C M' Qd) ⟨addX B H1, loc, H1, fun (cls : Value) (d : Option Addr) (H' : Hp) => d = none ∧ PySem.W.exmOne X.K cls (.ref CS) = some true ∧ ∀ a, H' a = none → spW X.K ctw cls a [.ref a] H' Q (fun _ _ _ => False), fun C M' => PySem.W.exmOne X.K (.ref C) (.ref CS) = some true ∧ ctw C M' Qd⟩ rfl) ρ) M) Qd) hs) fun d M' v B' l' H' g r e hq => t _ _ _ _ _ _ (g1.trans g) r e hq⟩
end J

/-! KA: a def of the handled exception (the word of a refusal), by data -/
namespace J
open PySem PySem.Spec PyProof.Rows L2
abbrev wordX (P : Program) (w : World) (K : PySem.W.Frag) (mg : Str → Option Value) (base : Heap) (N : List Str) (qual : Str) (scope : Scope) (f : Addr) (cdv : Value) (A : Around) (outer : List Env) (s : Shared) (H : Hp) (E : XK) (p : Addr × Obj) : Cx :=
  L2H.cxH (L2N.CX P w) P w K mg base N qual scope f cdv A outer s H E p
theorem defJE {P : Program} {w : World} {K : PySem.W.Frag} {mg : Str → Option Value} {base : Heap} {x qual a : Str} {params : Arguments} {body : List Stmt} {scope : Scope} {f : Addr} {fd : FuncData} {N : List Str} {k : Nat} {ctw : Addr → Mem → SQ → Prop}
    (F : FunD K x qual params body scope [] [] f fd) (S : FnScope N [a] scope)
    (hbody : ∀ (cdv : Value) (A : Around) (outer : List Env) (s : Shared) (H : Hp) (E : XK) (p : Addr × Obj) (C : Addr) (c : JC), JX c (wordX P w K mg base N qual scope f cdv A outer s H E p) →
      L2H.HotC (wordX P w K mg base N qual scope f cdv A outer s H E p) → p ∈ (wordX P w K mg base N qual scope f cdv A outer s H E p).pn → L2H.Held (.ref C) p → L2H.RoomH k (wordX P w K mg base N qual scope f cdv A outer s H E p).A →
      ∀ M Qd, ctw C M Qd → ∃ ss, JSs c (wordX P w K mg base N qual scope f cdv A outer s H E p) body ss ∧ ss (endK M Qd) (startR N.length [.adr p.1]) M) :
    L2H.FnE P w K mg base (L2N.CX P w) (k + 1) f fd [a] (spW K ctw) := by
  obtain ⟨oc, od, dV, kV, doc, pm, an, cdv, ct, osl, rfl, lk, hcd, _, _⟩ := F.ex
  refine L2H.fnE_of lk hcd S (fun cls b vs H Q E h => by rw [h.1]; rfl) fun cls A outer s H vs Q E p hot held hr h => ?_
  obtain ⟨rfl, C, B, loc, M, Qd, rfl, r, hct, t⟩ := h
  obtain ⟨ss, ⟨ts, pp, z⟩, hs⟩ := hbody cdv A outer s H E p C ⟨B, loc, H, E0, fun _ _ => False⟩ ⟨fun _ _ _ _ _ _ _ h => h.elim, passN⟩ ⟨p, ⟨hot.1, hot.2⟩, List.mem_cons_self⟩ List.mem_cons_self held hr M Qd hct
  refine ⟨ts, pp, z B loc M H _ _ _ _ ⟨.refl, r, start_env (.cons .adr .nil)⟩ hs ⟨?_, ?_, ?_, ?_⟩⟩
  · intro ρ M' σ B' l' H' g r' e' h
    rcases h with h | ⟨M'', c1, h⟩
    · exact t _ _ _ _ _ _ g r' .non h
    · obtain ⟨g2, r2, d2⟩ := cut_rel r g r' (Den.non (K := K) (B := B') (loc := l')) c1
      exact t _ _ _ _ _ _ g2 r2 d2 h
  · intro d M' v B' l' H' g r' e' h
    rcases h with h | ⟨M'', c1, h⟩
    · exact t _ _ _ _ _ _ g r' e' h
    · obtain ⟨g2, r2, d2⟩ := cut_rel r g r' e' c1
      exact t _ _ _ _ _ _ g2 r2 d2 h
  · intro ρ M' σ B' l' H' g r' e' h
    exact h.elim
  · intro ρ M' σ B' l' H' g r' e' h
    exact h.elim
theorem roomH_units {k : Nat} {A : Around} (r : L2H.RoomH k A) : A.units + 64 < cLine := by
  have := r.un
  omega
/-- such a def keeps its word, is called by its name -/
def OkW (P : Program) (w : World) (K : PySem.W.Frag) (mg : Str → Option Value) (base : Heap) (k : Nat) (f : Addr) (a : Str) (ctw : Addr → Mem → SQ → Prop) : Prop :=
  ∃ fd, L2H.FnE P w K mg base (L2N.CX P w) k f fd [a] (spW K ctw) ∧ L2.Binds K fd [a] [] ∧ PySem.W.keepIn K (.ref f) = true
end J

/-! KB: a def that makes lambdas (its code object known); told(lambda: ..) whole -/
namespace J
open PySem PySem.Spec PyProof.Rows L2 LamX
/-- defJ, where the def's code object is told -/
theorem defJT {P : Program} {w : World} {K : PySem.W.Frag} {mg : Str → Option Value} {base : Heap} {x qual : Str} {at_ : Str × Option Str} {params : Arguments} {body : List Stmt} {scope : Scope} {fd : FuncData} {N ps : List Str} {k n : Nat} {ct : Ct}
    (F : FunD K x qual params body scope [] [] (He.fAd K at_) fd) (S : FnScope N ps scope) (hn : n = ps.length)
    (hbody : ∀ (A : Around) (outer : List Env) (s : Shared) (c : JC), JX c (defX P w K mg base N qual scope (He.fAd K at_) (.ref (He.codeOf K at_)) A outer s c.H c.E) → L2N.Takes (defX P w K mg base N qual scope (He.fAd K at_) (.ref (He.codeOf K at_)) A outer s c.H c.E) (fun cls d _ H => c.E cls d H) →
      PassesOwn (model P w) (defX P w K mg base N qual scope (He.fAd K at_) (.ref (He.codeOf K at_)) A outer s c.H c.E).A (defX P w K mg base N qual scope (He.fAd K at_) (.ref (He.codeOf K at_)) A outer s c.H c.E).env (defX P w K mg base N qual scope (He.fAd K at_) (.ref (He.codeOf K at_)) A outer s c.H c.E).xe →
      Room k (defX P w K mg base N qual scope (He.fAd K at_) (.ref (He.codeOf K at_)) A outer s c.H c.E).A →
      ∃ ss, JSs c (defX P w K mg base N qual scope (He.fAd K at_) (.ref (He.codeOf K at_)) A outer s c.H c.E) body ss ∧ ∀ ds M Qd, ct ds M Qd c.Ed → ss (endK M Qd) (startR N.length ds) M) :
    FnOk P w K mg base (L2N.CX P w) (k + 1) (He.fAd K at_) fd ps (spD K n ct) := by
  subst hn
  obtain ⟨oc, od, dV, kV, doc, pm, an, cdv, ct', osl, rfl, lk, hcd, _, _⟩ := F.ex
  obtain ⟨cc, rfl⟩ := He.codeIn_ref hcd
  have ec : He.codeOf K at_ = cc := He.codeOf_eq lk rfl
  subst ec
  refine fn_of lk hcd S (fun vs H Q E h => h.1) fun A outer s H vs Q E hr h => ?_
  obtain ⟨hl, ds, B, loc, M, Qd, Ed, r, e, hct, t, te⟩ := h
  let c : JC := ⟨B, loc, H, E, Ed⟩
  have tk : L2N.Takes (defX P w K mg base N qual scope (He.fAd K at_) (.ref (He.codeOf K at_)) A outer s c.H c.E) (fun cls d _ H => c.E cls d H) := L2N.takes_of rfl rfl rfl rfl
  have jx : JX c (defX P w K mg base N qual scope (He.fAd K at_) (.ref (He.codeOf K at_)) A outer s c.H c.E) := ⟨fun cl M' B' l' H' g r h => te cl M' B' l' H' g r h, L2N.passes_call tk fun _ _ _ _ h => h⟩
  obtain ⟨ss, ⟨ts, p, z⟩, hs⟩ := hbody A outer s c jx tk (passes_of rfl) hr
  refine ⟨ts, p, z B loc M H _ _ _ _ ⟨.refl, r, start_env e⟩ (hs ds M Qd hct) ⟨?_, ?_, ?_, ?_⟩⟩
  · intro ρ M' σ B' l' H' g r' e' h
    rcases h with h | ⟨M'', c1, h⟩
    · exact t _ _ _ _ _ _ g r' .non h
    · obtain ⟨g2, r2, d2⟩ := cut_rel r g r' (Den.non (K := K) (B := B') (loc := l')) c1
      exact t _ _ _ _ _ _ g2 r2 d2 h
  · intro d M' v B' l' H' g r' e' h
    rcases h with h | ⟨M'', c1, h⟩
    · exact t _ _ _ _ _ _ g r' e' h
    · obtain ⟨g2, r2, d2⟩ := cut_rel r g r' e' c1
      exact t _ _ _ _ _ _ g2 r2 d2 h
  · intro ρ M' σ B' l' H' g r' e' h
    exact h.elim
  · intro ρ M' σ B' l' H' g r' e' h
    exact h.elim
/-- told(lambda: body), told: try: return a() / except e as n: return w(n) -/
theorem je_toldW {X : Cx} {c : JC} {k kw j : Nat} {x a e n w : Str} {g CS fw cc P : Addr} {pg params : Arguments} {bg : List Stmt} {sg scope : Scope} {fdt : FuncData} {Ng : List Str} {ctw : Addr → Mem → SQ → Prop} {sf : JC → SE} {body : Expr} {p lpos pos p1 p2 p3 p4 p5 p6 p7 p8 p9 p10 : Pos}
    (hg : Gl X x) (hm : X.mg x = some (.ref g)) (FT : FunD X.K x x pg bg sg [] [] g fdt) (hb : L2.Binds X.K fdt [a] []) (Sg : FnScope Ng [a] sg)
    (hbg : bg = [.Try [.Return (some (.Call (.Name a p1) [] [] p2)) p3] [.ExceptHandler (some (.Name e p4)) (some n) [.Return (some (.Call (.Name w p5) [.Name n p6] [] p7)) p8] p9] [] [] p10])
    (hNg : Ng = [a, n]) (han : a ≠ n) (hva : sg.names.lookup a = some .local) (hln : sg.names.lookup n = some .local) (hge : sg.names.lookup e = some .globalImplicit) (hgw : sg.names.lookup w = some .globalImplicit)
    (hme : X.mg e = some (.ref CS)) (hmw : X.mg w = some (.ref fw)) (FW : OkW X.prog X.w X.K X.mg X.base kw fw n' ctw) (hk : kw ≤ k + 1)
    (TB : TabB X.base X.mg cc P) (hcode : X.env.code = .ref cc) (hr : Room (k + 2) X.A) (L : LamS X.env.scope scope) (hdef : defaultsOf params X.env = ([], []))
    (hbind : ∀ (q : Str) (cl : List (Str × Addr)) (pm cv ctv : Value), bindArgs (PySem.W.kla_fn "<lambda>" q params body scope cl pm cv ctv) ⟨[], []⟩ = pure [])
    (hbody : ∀ (A : Around) (outer : List Env) (s : Shared) (H0 : Hp) (f c' : Addr) (c1 : JC), Room k (A.deeper (lamEnv X scope s.heap.objs.size f c')) →
      JX c1 (LamN.lcx X A outer s H0 c1.E scope f c') → JE c1 (LamN.lcx X A outer s H0 c1.E scope f c') body (sf c1)) (hdep : ∀ c1 c2 : JC, c1.Ed = c2.Ed → sf c1 = sf c2)
    (d1 : (x == ("__debug__" : Str)) = false := by decide) (d2 : (a == ("__debug__" : Str)) = false := by decide) (d3 : (a == ("__classdict__" : Str)) = false := by decide) (d4 : (e == ("__debug__" : Str)) = false := by decide)
    (d5 : (n == ("__debug__" : Str)) = false := by decide) (d6 : (n == ("__classdict__" : Str)) = false := by decide) (d7 : (w == ("__debug__" : Str)) = false := by decide) :
    JE c X (.Call (.Name x p) [.Lambda params body scope lpos] [] pos) (sTold X.K j P (X.env.qual ++ "<lambda>") CS ctw sf) := by
  obtain ⟨oc, od, dV, kV, doc, pm, an, cdv, ct', osl, rfl, lk, hcd, _, _⟩ := FT.ex
  obtain ⟨fdw, F, bw, kpw⟩ := FW
  subst hbg hNg
  refine je_told (k := k) (fun t ht => LamN.pe_lamcall hg hm FT.kp lk hcd hb Sg rfl (.inl hva)
    (LamN.gives_word (a := a) (n := n) hge hme d4 (fun f => rfl) (by simp [han]) rfl hln hgw hmw kpw bw F hk d5 d6 d7) TB hcode hr L hdef hbind ht d1 d2 d3) hbody hdep
end J

/-! KC: what the head tells besides: of exception classes, of isinstance -/
namespace J
open PySem PySem.Spec PyProof.Rows L2
def excB (K : PySem.W.Frag) (D : Addr) : Bool :=
  He.eqO (PySem.W.findIn K (.ref D) "__getattribute__") (some (some (.builtin "BaseException.__getattribute__"))) && (He.eqO (PySem.W.findIn K (.ref D) "__getattr__") (some none) &&
  (decide (PySem.W.subIn K (.ref D) (.type "BaseException") = some true) && (PySem.W.hasDictIn K D && (He.eqO (PySem.W.findIn K (.ref D) "__class__") (some (some (.builtin "object.__class__"))) &&
  (He.eqO (PySem.W.specialIn K (.builtin "object.__class__") "__get__") (some (some (.builtin "getset_descriptor.__get__"))) && (decide (PySem.W.takesIn K (.builtin "object.__class__") = some true) &&
  decide (PySem.W.mroIn K D (.type "object") = some true)))))))
theorem excB_ok {K : PySem.W.Frag} {D : Addr} (h : excB K D = true) : ExcC K D := by
  unfold excB at h
  simp only [Bool.and_eq_true] at h
  obtain ⟨h1, h2, h3, h4, h5, h6, h7, h8⟩ := h
  exact ⟨He.eqO_ok h1, He.eqO_ok h2, of_decide_eq_true h3, h4, He.eqO_ok h5, He.eqO_ok h6, of_decide_eq_true h7, of_decide_eq_true h8⟩
def kitsB (K : PySem.W.Frag) (D : Addr) (cv : Value) (b : Bool) : Bool := decide (PySem.W.kitOne K (.ref D) cv = some b)
theorem kitsB_ok {K : PySem.W.Frag} {D : Addr} {cv : Value} {b : Bool} (h : kitsB K D cv b = true) : PySem.W.kitOne K (.ref D) cv = some b := of_decide_eq_true h
/-- flags.index(True) -/
def sIndexB : SM := fun d xs M Q => match xs with
  | [.bl true] => ∃ (bs : List Bool) (j : Nat), asL M d = some (bs.map D.bl) ∧ bs[j]? = some true ∧ (∀ m, m < j → bs[m]? = some false) ∧ Q (.int (j : Nat)) M
  | _ => False
theorem flat_bls : ∀ bs : List Bool, (bs.map V.bl).all flatV = true
  | [] => rfl
  | _ :: r => by
    rw [List.map_cons, List.all_cons, flat_bls r]
    rfl
theorem jm_indexB {X : Cx} : JMt X "list.index" sIndexB := ⟨_, mt_index, fun B loc M H x v xs vs Q Qd r d1 d2 h t => by
  unfold sIndexB at h
  split at h
  · obtain ⟨bs, j, h1, h2, h3, q⟩ := h
    obtain ⟨a, ws, rfl, s1, l1⟩ := asL_ok r d1 h1
    rw [l1.bls] at s1
    cases d2 with
    | cons e1 e2 =>
      cases e2
      cases e1
      refine ⟨a, _, .bl true, j, .bl true, rfl, rfl, s1, rfl, flat_bls bs, by rw [List.getElem?_map, h2]; rfl, rfl, fun m z hm hz => ?_, t _ _ _ _ _ _ .refl r .int q⟩
      rw [List.getElem?_map, h3 m hm] at hz
      cases hz
      rfl
  · exact h.elim⟩
end J

/-! KD: try: f(v) / except x: y = a truth -/
namespace J
open PySem PySem.Spec PyProof.Rows L2
def sTryC (K : PySem.W.Frag) (CS : Addr) (ct : Ct) (n i j : Nat) (b : Bool) : SS := fun k ρ M => ∃ d, ρ[i]? = some (some d) ∧ 1 = n ∧ ct [d] M (fun _ M2 => k.nx ρ M2) (fun C M2 => PySem.W.exmOne K (.ref C) (.ref CS) = some true ∧ k.nx (ρ.set j (some (.bl b))) M2)
theorem js_tryC {X : Cx} {c : JC} {W0 : WX} {g v x y : Str} {f CS : Addr} {fd : FuncData} {ps : List Str} {ct : Ct} {k n i j jj : Nat} {b : Bool} {p1 p2 p3 p4 p5 p6 p7 p8 p9 p10 : Pos}
    (hs : X.stack = X.env :: X.outer) (hf : X.env.frame = some X.env.locals) (tk : L2N.Takes X W0)
    (F : FnJ X k f fd ps n ct) (hr : Room k X.A) (hg : Gl X g) (hm : X.mg g = some (.ref f)) (hk : PySem.W.keepIn X.K (.ref f) = true) (hb : Binds X.K fd ps [])
    (hi : X.N[i]? = some v) (hv : Vis X.env.scope v) (hN : X.N.Nodup) (hj : X.N[j]? = some y) (hy : X.env.scope.names.lookup y = some .local) (hgx : Gl X x) (hmx : X.mg x = some (.ref CS))
    (d1 : (g == ("__debug__" : Str)) = false := by decide) (d2 : (v == ("__debug__" : Str)) = false := by decide) (d3 : (v == ("__classdict__" : Str)) = false := by decide) (d4 : (x == ("__debug__" : Str)) = false := by decide) :
    JS c X (.Try [.Expr (.Call (.Name g p1) [.Name v p2] [] p3) p4] [.ExceptHandler (some (.Name x p5)) none [.Assign [.Name y p6] (.Constant (.bool b) jj p7) p8] p9] [] [] p10) (sTryC X.K CS ct n i j b) := by
  refine ⟨_, L2N.ps_try_many (l := [(.ref CS, fun _ _ _ => tAsg (tC (.bl b)) (gName j))]) (tb := fun W => tDrop (tCallS (spD X.K n ct) (WE W) (tCons (tVar i) tNil))) hs hf tk
    (fun W pn xe tk' _ => pss_one (ps_expr (pe_callS (CX := L2N.CX X.prog X.w) F hr hg hm hk hb (fun σ => L2N.passAt tk' σ) (pa_cons (pe_var hi hv d2 d3) pa_nil) d1)))
    (.cons ⟨hgx, d4, .inl hmx⟩ (fun a oe cls d pn _ _ => pss_one (ps_set hN hj (.inl hy) pe_bl (by rfl) (.inr hy))) .nil), ?_⟩
  intro B loc M H σ ρ D K A h E
  obtain ⟨d, hd, hn, hct⟩ := h
  obtain ⟨u, e1, e2⟩ := A.env.get i d hd
  refine ⟨u, e1, ?_⟩
  refine ⟨hn, [d], B, loc, M, _, _, A.rel, .cons e2 .nil, hct, fun d' M' v' B' l' H' g r e h => E.nx _ _ _ _ _ _ g r (A.env.go g) h, fun cl M2 B2 l2 H2 g r h => ?_⟩
  exact ⟨true, h.1, fun _ a _ => E.nx _ _ _ _ _ _ g r ((A.env.go g).set .bl j) h.2, fun z => nomatch z⟩
/-- je_toldW, the def's names told apart from where one stands -/
theorem je_toldQ {X : Cx} {c : JC} {K : PySem.W.Frag} {q : Str} {k kw j : Nat} {x a e n w n' : Str} {g CS fw cc P : Addr} {pg params : Arguments} {bg : List Stmt} {sg scope : Scope} {fdt : FuncData} {Ng : List Str} {ctw : Addr → Mem → SQ → Prop} {sf : JC → SE} {body : Expr} {p lpos pos p1 p2 p3 p4 p5 p6 p7 p8 p9 p10 : Pos}
    (hK : X.K = K) (hq : X.env.qual ++ "<lambda>" = q)
    (hg : Gl X x) (hm : X.mg x = some (.ref g)) (FT : FunD X.K x x pg bg sg [] [] g fdt) (hb : L2.Binds X.K fdt [a] []) (Sg : FnScope Ng [a] sg)
    (hbg : bg = [.Try [.Return (some (.Call (.Name a p1) [] [] p2)) p3] [.ExceptHandler (some (.Name e p4)) (some n) [.Return (some (.Call (.Name w p5) [.Name n p6] [] p7)) p8] p9] [] [] p10])
    (hNg : Ng = [a, n]) (han : a ≠ n) (hva : sg.names.lookup a = some .local) (hln : sg.names.lookup n = some .local) (hge : sg.names.lookup e = some .globalImplicit) (hgw : sg.names.lookup w = some .globalImplicit)
    (hme : X.mg e = some (.ref CS)) (hmw : X.mg w = some (.ref fw)) (FW : OkW X.prog X.w X.K X.mg X.base kw fw n' ctw) (hk : kw ≤ k + 1)
    (TB : LamX.TabB X.base X.mg cc P) (hcode : X.env.code = .ref cc) (hr : Room (k + 2) X.A) (L : LamX.LamS X.env.scope scope) (hdef : defaultsOf params X.env = ([], []))
    (hbind : ∀ (q : Str) (cl : List (Str × Addr)) (pm cv ctv : Value), bindArgs (PySem.W.kla_fn "<lambda>" q params body scope cl pm cv ctv) ⟨[], []⟩ = pure [])
    (hbody : ∀ (A : Around) (outer : List Env) (s : Shared) (H0 : Hp) (f c' : Addr) (c1 : JC), Room k (A.deeper (LamX.lamEnv X scope s.heap.objs.size f c')) →
      JX c1 (LamN.lcx X A outer s H0 c1.E scope f c') → JE c1 (LamN.lcx X A outer s H0 c1.E scope f c') body (sf c1)) (hdep : ∀ c1 c2 : JC, c1.Ed = c2.Ed → sf c1 = sf c2)
    (d1 : (x == ("__debug__" : Str)) = false := by decide) (d2 : (a == ("__debug__" : Str)) = false := by decide) (d3 : (a == ("__classdict__" : Str)) = false := by decide) (d4 : (e == ("__debug__" : Str)) = false := by decide)
    (d5 : (n == ("__debug__" : Str)) = false := by decide) (d6 : (n == ("__classdict__" : Str)) = false := by decide) (d7 : (w == ("__debug__" : Str)) = false := by decide) :
    JE c X (.Call (.Name x p) [.Lambda params body scope lpos] [] pos) (sTold K j P q CS ctw sf) := by
  subst hK hq
  exact je_toldW hg hm FT hb Sg hbg hNg han hva hln hge hgw hme hmw FW hk TB hcode hr L hdef hbind hbody hdep d1 d2 d3 d4 d5 d6 d7
/-- a law's end: of its store the first object stays -/
theorem cut_one {o : MO} {M' : Mem} {d : D} (h : M'[0]? = some o) (hd : d.lt 1 = true) : Cut [o] d M' [o] := by
  refine ⟨?_, hd, fun i u hi ho => .inl ?_⟩
  · cases M' with
    | nil => cases h
    | cons a r => rw [show a = o from Option.some.inj h]; rfl
  · have : i = 0 := by have : i < 1 := hi; omega
    subst this
    exact (h.symm.trans ho).symm ▸ rfl
theorem asR_ref {M : Mem} {i : Nat} {xs : List D} (h : M[i]? = some (.lst xs)) : asR M (.ref i) = some xs := by
  unfold asR
  dsimp only
  rw [h]
def rf (x : Str) : D := .tup [.str (Str.ofString "refused"), .str x]
end J

/-! LE: texts of numbers, numbers of texts, a text in parts -/
namespace J
open PySem PySem.Spec PyProof.Rows L2
section
variable {X : Cx}
def sStrI : SN := fun xs M Q => match xs with
  | [.int i] => i.natAbs.log2 < 1920 ∧ Q (.str (toString i)) M
  | _ => False
theorem jc_strI : JCall X (.type "str") sStrI := ⟨_, call_str_int, fun B loc M H xs vs Q Qd r d h t => by
  unfold sStrI at h
  split at h
  · cases d with
    | cons d1 d2 =>
      cases d2; cases d1
      exact ⟨_, rfl, h.1, t _ _ _ _ _ _ .refl r .str h.2⟩
  · exact h.elim⟩
def sIntT : SN := fun xs M Q => match xs with
  | [.str a] => ∃ n, PySem.intText? a = some n ∧ a.length ≤ 640 ∧ Q (.int n) M
  | _ => False
theorem jc_intT : JCall X (.type "int") sIntT := ⟨_, call_int_str, fun B loc M H xs vs Q Qd r d h t => by
  unfold sIntT at h
  split at h
  · obtain ⟨n, h1, h2, q⟩ := h
    cases d with
    | cons d1 d2 =>
      cases d2; cases d1
      exact ⟨_, n, rfl, h1, h2, t _ _ _ _ _ _ .refl r .int q⟩
  · exact h.elim⟩
/-- x.split(sep) -/
def sSplit : SM := fun d xs M Q => match d, xs with
  | .str a, [.str b] => (b.length == 0) = false ∧ a.length + 2 ≤ sizeLine ∧ Q (.lst ((Txt.split a b).map D.str)) M
  | _, _ => False
theorem jm_split : JMt X "str.split" sSplit := ⟨_, mt_split, fun B loc M H x v xs vs Q Qd r d1 d2 h t => by
  unfold sSplit at h
  split at h
  · obtain ⟨h1, h2, q⟩ := h
    cases d1
    cases d2 with
    | cons e1 e2 =>
      cases e2
      cases e1
      refine ⟨_, _, rfl, rfl, h1, h2, fun p hp => ?_⟩
      obtain ⟨r4, g4⟩ := r.new (o := .lst _) hp
      exact t _ _ _ _ _ _ g4 r4 (.lst upd_same (strs_denL _)) q
  · exact h.elim⟩
end
theorem seq_setV {i j : Nat} {d : D} {u : SS} {k : SK} {ρ : Rho} {M : Mem} (h : ρ[i]? = some (some d)) (q : u k (ρ.set j (some d)) M) : sSeq (sAsg (sVar i) (gVar j)) u k ρ M := by
  show sVar i ρ M _
  unfold sVar
  rw [h]
  exact q
theorem seq_setC {j : Nat} {d : D} {u : SS} {k : SK} {ρ : Rho} {M : Mem} (q : u k (ρ.set j (some d)) M) : sSeq (sAsg (sC d) (gVar j)) u k ρ M := q
end J

/-! LF: lists of tuples of numbers: how many unlike ones, in their order -/
namespace J
open PySem PySem.Spec PyProof.Rows L2
def tupI (ns : List Int) : D := .tup (ns.map D.int)
section
variable {K : PySem.W.Frag} {B : Hp} {loc : List Addr}
theorem tups_den : ∀ {tss : List (List Int)} {vs : List V}, DenL K B loc (tss.map tupI) vs → ∃ ks : List (Addr × List Int), vs = ks.map (fun p => V.ref p.1) ∧ ks.map (·.2) = tss ∧ ∀ p ∈ ks, SqT K B p.1 (p.2.map V.int)
  | [], _, .nil => ⟨[], rfl, rfl, fun _ h => (nomatch h)⟩
  | t :: tss, _, .cons h r => by
    obtain ⟨ks, rfl, h2, h3⟩ := tups_den r
    cases h with
    | @tup ds vs a s l =>
      rw [l.ints] at s
      refine ⟨(a, t) :: ks, rfl, by rw [List.map_cons, h2], fun p hp => ?_⟩
      rcases List.mem_cons.mp hp with rfl | hp
      · exact s
      · exact h3 p hp
theorem tups_lay : ∀ {ks : List (Addr × List Int)}, (∀ p ∈ ks, SqT K B p.1 (p.2.map V.int)) → DenL K B loc ((ks.map (·.2)).map tupI) (ks.map fun p => V.ref p.1)
  | [], _ => .nil
  | p :: ks, h => .cons (.tup (h p List.mem_cons_self) (denL_ints _)) (tups_lay fun q hq => h q (List.mem_cons_of_mem _ hq))
end
theorem perm_map {α β : Type} {f : α → β} {l m : List β} (h : l.Perm m) : ∀ {ks : List α}, m = ks.map f → ∃ ks' : List α, ks'.Perm ks ∧ l = ks'.map f := by
  induction h with
  | nil =>
    intro ks e
    cases ks with
    | nil => exact ⟨[], List.Perm.refl _, rfl⟩
    | cons a r => cases e
  | cons x _ ih =>
    intro ks e
    cases ks with
    | nil => cases e
    | cons a r =>
      obtain ⟨e1, e2⟩ := List.cons.inj e
      obtain ⟨ks', p, q⟩ := ih e2
      exact ⟨a :: ks', p.cons a, by rw [e1, q]; rfl⟩
  | swap x y l =>
    intro ks e
    cases ks with
    | nil => cases e
    | cons a r =>
      cases r with
      | nil => cases e
      | cons b r =>
        obtain ⟨e1, e2⟩ := List.cons.inj e
        obtain ⟨e2, e3⟩ := List.cons.inj e2
        exact ⟨b :: a :: r, .swap a b r, by rw [e1, e2, e3]; rfl⟩
  | trans _ _ ih1 ih2 =>
    intro ks e
    obtain ⟨k1, p1, q1⟩ := ih2 e
    obtain ⟨k2, p2, q2⟩ := ih1 q1
    exact ⟨k2, p2.trans p1, q2⟩
section
variable {X : Cx} {c : JC} {a : Expr} {p p2 q pos : Pos} {sa : SE}
def tLenSetT (K : PySem.W.Frag) (ta : TE) : TE := fun σ H Q => ta σ H fun x H1 => ∃ (l : Addr) (ks : List (Addr × List Int)), x = V.ref l ∧ SqL K H1 l (ks.map fun p => V.ref p.1) ∧ (∀ p ∈ ks, SqT K H1 p.1 (p.2.map V.int)) ∧ ks.length < 64 ∧
  ∀ L : List (Addr × List Int), (∀ p ∈ L, p ∈ ks) → (∀ p ∈ ks, p.2 ∈ L.map (·.2)) → (L.map (·.2)).Nodup → Q (.int L.length) H1
theorem pe_lenSetT {ta : TE} (hc : X.calm = true) (hu : X.A.units + 64 < cLine) (hg : Gl X "len") (hm : X.mg "len" = none) (hg2 : Gl X "set") (hm2 : X.mg "set" = none) (ha : PE X a ta)
    (na : starEach [a] X.env = (false, eval a X.env) :: starEach [] X.env := by rfl) : PE X (.Call (.Name "len" p) [.Call (.Name "set" p2) [a] [] q] [] pos) (tLenSetT X.K ta) := by
  refine ⟨fun pins s σ H Q I h => ?_⟩
  refine Call_ (ld_blt I hg hm PySem.boot_len ?_)
  refine PyProof.Rows.callWith_builtin1 (PyProof.Rows.args_cons ?_ rfl) rfl rfl
  refine Call_ (ld_blt I hg2 hm2 PyProof.Rows.boot_set ?_)
  refine PyProof.Rows.callWith_type1 (PyProof.Rows.args_cons (thn (ha.run pins s σ H _ I h) fun v s1 ⟨x, H1, I1, r1, q1⟩ => PyProof.Rows.args_nil ?_) na) na rfl
  obtain ⟨l, ks, rfl, hq, hk, h64, q1⟩ := q1
  cases r1
  obtain ⟨its, r, pl, hz⟩ := I1.list hq
  refine call_set_tups (P := X.prog) (w := X.w) ks (I1.ok.hd hc) pl.isList (by simpa using refs_of_vals r) (fun p hp => I1.isT (hk p hp)) h64 (by omega) fun h' tk L es ep t R g k => ?_
  refine PyProof.Rows.args_nil ?_
  obtain ⟨o, ho, hex, hd⟩ := R.ob
  have I2 : Inv X pins σ H1 { s1 with heap := h', toks := tk } := I1.kept fun b o e => k b o e
  have hsz := R.size (s := { s1 with heap := h', toks := tk })
  have hfew := R.few
  refine call_len_set ho hex hd (R.fits (s := { s1 with heap := h', toks := tk })) (by omega) ⟨.int L.length, H1, I2.tok _, ⟨_, by rw [hsz]⟩, q1 L (fun p hp => ?_) (fun p hp => g.all p (by rw [List.take_length]; exact hp)) R.nd⟩
  have := g.sub p hp
  rwa [List.take_length] at this
def sLenSet (sa : SE) : SE := fun ρ M Q => sa ρ M fun d M1 => ∃ tss : List (List Int), asL M1 d = some (tss.map tupI) ∧ tss.length < 64 ∧ ∀ L : List (List Int), L.Nodup → (∀ t, t ∈ L ↔ t ∈ tss) → Q (.int L.length) M1
theorem je_lenSet (hc : X.calm = true) (hu : X.A.units + 64 < cLine) (hg : Gl X "len") (hm : X.mg "len" = none) (hg2 : Gl X "set") (hm2 : X.mg "set" = none) (ha : JE c X a sa)
    (na : starEach [a] X.env = (false, eval a X.env) :: starEach [] X.env := by rfl) : JE c X (.Call (.Name "len" p) [.Call (.Name "set" p2) [a] [] q] [] pos) (sLenSet sa) := by
  obtain ⟨t, pa, z⟩ := ha
  refine ⟨_, pe_lenSetT hc hu hg hm hg2 hm2 pa na, fun B loc M H σ ρ Q Qd A hs t => z B loc M H σ ρ _ _ A hs fun d M' v B' l' H' g r e h => ?_⟩
  obtain ⟨tss, h1, h2, h3⟩ := h
  obtain ⟨l, vs, rfl, s1, l1⟩ := asL_ok r e h1
  obtain ⟨ks, rfl, e2, hk⟩ := tups_den l1
  refine ⟨l, ks, rfl, s1, fun p hp => same_t r.ext (hk p hp), by have := congrArg List.length e2; rw [List.length_map] at this; omega, fun L hL1 hL2 hL3 => ?_⟩
  have := h3 (L.map (·.2)) hL3 fun t => ⟨fun ht => ?_, fun ht => ?_⟩
  · rw [List.length_map] at this
    exact t _ _ _ _ _ _ g r .int this
  · obtain ⟨p, hp, rfl⟩ := List.mem_map.mp ht
    rw [← e2]
    exact List.mem_map_of_mem (hL1 p hp)
  · rw [← e2] at ht
    obtain ⟨p, hp, rfl⟩ := List.mem_map.mp ht
    exact hL2 p hp
/-- sorted(xs), xs tuples of d numbers from 0 to B -/
def sSortT (d : Nat) (B : Int) : SN := fun xs M Q => match xs with
  | [x] => ∃ tss : List (List Int), asL M x = some (tss.map tupI) ∧ tss.length < 64 ∧ (∀ t ∈ tss, t.length = d ∧ TS.Bd B t) ∧ ∀ ys : List (List Int), ys.Perm tss → ys.Pairwise (fun a b => TS.code B a ≤ TS.code B b) → Q (.lst (ys.map tupI)) M
  | _ => False
theorem jc_sortT (d : Nat) (B : Int) (hd : 1 ≤ d := by decide) : JCall X (.builtin "sorted") (sSortT d B) := ⟨_, cr_sortT (d := d) (B := B) hd, fun B' loc M H xs vs Q Qd r d1 h t => by
  unfold sSortT at h
  split at h
  · obtain ⟨tss, h1, h2, h3, h4⟩ := h
    cases d1 with
    | cons e1 e2 =>
      cases e2
      obtain ⟨l, vs, rfl, s1, l1⟩ := asL_ok r e1 h1
      obtain ⟨ks, rfl, e2, hk⟩ := tups_den l1
      have hk2 : ∀ p ∈ ks, SqT X.K H p.1 (p.2.map V.int) := fun p hp => same_t r.ext (hk p hp)
      have hmem : ∀ p ∈ ks, p.2 ∈ tss := fun p hp => by rw [← e2]; exact List.mem_map_of_mem hp
      refine ⟨l, _, rfl, s1, by rw [List.length_map]; have := congrArg List.length e2; rw [List.length_map] at this; omega, fun x hx => ?_, fun ys q pm pw hq => ?_⟩
      · obtain ⟨p, hp, rfl⟩ := List.mem_map.mp hx
        exact ⟨p.2, ⟨p.1, rfl, hk2 p hp⟩, h3 _ (hmem p hp)⟩
      · obtain ⟨ks', p1, rfl⟩ := perm_map pm rfl
        obtain ⟨r4, g4⟩ := r.new (o := .lst (ks'.map fun p => V.ref p.1)) hq
        have hk' : ∀ p ∈ ks', SqT X.K B' p.1 (p.2.map V.int) := fun p hp => hk p (p1.subset hp)
        refine t _ _ _ _ _ _ g4 r4 (.lst upd_same (DenL.go (tups_lay hk') g4)) (h4 _ (by rw [← e2]; exact p1.map _) ?_)
        rw [List.pairwise_map]
        rw [List.pairwise_map] at pw
        refine List.Pairwise.imp_of_mem (fun {a b} ha hb hab => ?_) pw
        exact hab _ _ ⟨_, rfl, hk2 a (p1.subset ha)⟩ ⟨_, rfl, hk2 b (p1.subset hb)⟩
  · exact h.elim⟩
end
end J

/-! LG: dicts by numbers; a dict that stays while its keys are walked -/
namespace J
open PySem PySem.Spec PyProof.Rows L2
def lookI : List (Int × D) → Int → Option D
  | [], _ => none
  | (k, d) :: r, x => if k = x then some d else lookI r x
section
variable {K : PySem.W.Frag} {B : Hp} {loc : List Addr} {M : Mem} {H : Hp}
theorem lookI_den {x : Int} : ∀ {kvs : List (Int × D)} {ws : List (Key × V)}, DenKV K B loc kvs ws → (∀ d, lookI kvs x = some d → ∃ v, valV ws (.inl x) = some v ∧ Den K B loc d v) ∧ (lookI kvs x = none → valV ws (.inl x) = none)
  | _, _, .nil => ⟨fun _ h => (nomatch h), fun _ => rfl⟩
  | _, _, .cons (k := k) (d := d) (v := v) (ds := ds) (vs := ws) h r => by
    obtain ⟨h1, h2⟩ := lookI_den (x := x) r
    unfold lookI
    by_cases q : k = x
    · rw [if_pos q, valV_pos (p := (Sum.inl k, v)) (k := Sum.inl x) (by rw [q])]
      exact ⟨fun _ e => by cases e; exact ⟨_, rfl, h⟩, fun e => nomatch e⟩
    · rw [if_neg q, valV_neg (p := (Sum.inl k, v)) (k := Sum.inl x) (fun z => q (Sum.inl.inj z))]
      exact ⟨h1, h2⟩
theorem lookI_none {x : Int} : ∀ {kvs : List (Int × D)}, lookI kvs x = none → x ∉ kvs.map (·.1)
  | [], _, h => nomatch h
  | (k, d) :: r, e, h => by
    unfold lookI at e
    by_cases q : k = x
    · rw [if_pos q] at e; cases e
    · rw [if_neg q] at e
      rcases List.mem_cons.mp h with h | h
      · exact q h.symm
      · exact lookI_none e h
theorem kv_len : ∀ {kvs : List (Int × D)} {ws : List (Key × V)}, DenKV K B loc kvs ws → ws.length = kvs.length
  | _, _, .nil => rfl
  | _, _, .cons _ r => congrArg Nat.succ (kv_len r)
theorem kv_snoc {x : Int} {d : D} {v : V} (e : Den K B loc d v) : ∀ {kvs : List (Int × D)} {ws : List (Key × V)}, DenKV K B loc kvs ws → DenKV K B loc (kvs ++ [(x, d)]) (ws ++ [(Sum.inl x, v)])
  | _, _, .nil => .cons e .nil
  | _, _, .cons h r => .cons h (kv_snoc e r)
theorem kv_get : ∀ {kvs : List (Int × D)} {ws : List (Key × V)} {i : Nat} {k : Key} {v : V}, DenKV K B loc kvs ws → ws[i]? = some (k, v) → ∃ x d, kvs[i]? = some (x, d) ∧ k = .inl x
  | _, _, _, _, _, .nil, e => by simp at e
  | _, _, 0, _, _, .cons (k := x) (d := d) h _, e => by
    simp at e
    exact ⟨x, d, rfl, e.1.symm⟩
  | _, _, i + 1, _, _, .cons _ r, e => by
    obtain ⟨x, d, h1, h2⟩ := kv_get (i := i) r (by simpa using e)
    exact ⟨x, d, by simpa using h1, h2⟩
/-- a dict, locked or not, is there to be read -/
def isDic (M : Mem) (g : Nat) (kvs : List (Int × D)) : Prop := M[g]? = some (.dic kvs) ∨ ∃ ho, M[g]? = some (.lck ho kvs)
theorem dic_rd {g : Nat} {a : Addr} {kvs : List (Int × D)} (r : Rel K B loc M H) (hi : loc[g]? = some a) (h : isDic M g kvs) : ∃ ws, Rd H a (.dK ws) ∧ DenKV K B loc kvs ws := by
  rcases h with h | ⟨ho, h⟩
  · obtain ⟨_, ws, h1, h2, _⟩ := r.obj _ _ _ hi h trivial
    exact ⟨ws, .inl h1, h2⟩
  · obtain ⟨_, h1, od, ws, rfl, h2, _⟩ := r.obj _ _ _ hi h trivial
    exact ⟨ws, .inr ⟨od, h1⟩, h2⟩
theorem dic_get {a : Addr} {ws : List (Key × V)} {x : Int} (h : Rd H a (.dK ws)) : DGet H a (.int x) (valV ws (.inl x)) := .inl ⟨ws, .inl x, h, rfl, rfl⟩
end
section
variable {X : Cx} {c : JC} {a b o e tg : Expr} {pos p : Pos} {sa sb so se : SE}
/-- {} -/
def sDNew : SE := fun _ M Q => Q (.ref M.length) (M ++ [.dic []])
theorem je_dnew : JE c X (.Dict [] [] pos) sDNew := by
  refine ⟨_, pe_dnewK, fun B loc M H σ ρ Q Qd A hs t q hq => ?_⟩
  obtain ⟨r1, g1⟩ := A.rel.alloc (o := .dic []) (ho := .dK []) hq fun H' h' => ⟨[], h', .nil, List.nodup_nil⟩
  exact t _ _ _ _ _ _ g1 r1 (.ref (by rw [← A.rel.len]; exact get_snoc loc q)) hs
/-- d[number] -/
def sDGet (sd si : SE) : SE := fun ρ M Q => sd ρ M fun d M1 => si ρ M1 fun y M2 => match d, y with
  | .ref g, .int k => ∃ kvs v, isDic M2 g kvs ∧ lookI kvs k = some v ∧ Q v M2
  | _, _ => False
theorem je_dget (hu : X.A.units + 1 < cLine) (ha : JE c X a sa) (hb : JE c X b sb) (hs : NoSl b := by intro _ _; rfl) : JE c X (.Subscript a b pos) (sDGet sa sb) := by
  obtain ⟨ta, pa, za⟩ := ha
  obtain ⟨tb, pb, zb⟩ := hb
  refine ⟨_, pe_dget hu pa pb hs, fun B loc M H σ ρ Q Qd A hs t => za B loc M H σ ρ _ _ A hs fun d1 M1 v1 B1 l1 H1 g1 r1 e1 h1 => zb B1 l1 M1 H1 σ ρ _ _ (A.on g1 r1) h1 fun d2 M2 v2 B2 l2 H2 g2 r2 e2 h2 => ?_⟩
  have e3 := e1.go g2
  split at h2
  · obtain ⟨kvs, v, h3, h4, h5⟩ := h2
    cases e3 with
    | ref hi =>
      cases e2
      obtain ⟨ws, hw, dw⟩ := dic_rd r2 hi h3
      obtain ⟨u, h6, h7⟩ := (lookI_den dw).1 _ h4
      refine ⟨_, u, rfl, ?_, t _ _ _ _ _ _ (g1.trans g2) r2 h7 h5⟩
      rw [← h6]
      exact dic_get hw
  · exact h2.elim
/-- number in d -/
def sInD (neg : Bool) : S2 := fun x y M Q => match x, y with
  | .int k, .ref g => ∃ kvs, isDic M g kvs ∧ Q (.bl (if neg then !(lookI kvs k).isSome else (lookI kvs k).isSome)) M
  | _, _ => False
def rInK (neg : Bool) : R2 := fun x y H Q => ∃ a r, y = .ref a ∧ DGet H a x r ∧ Q (.bl (if neg then !r.isSome else r.isSome)) H
theorem op_inK (hu : X.A.units + 1 < cLine) : OpR X (compareOp .In) (rInK false) := by
  intro pins s σ H x y v u Q I rx ry h
  obtain ⟨a, r, rfl, g, q⟩ := h
  obtain rfl : u = Value.ref a := ry
  exact d_in hu I g rx fun s3 I3 => ⟨.bl r.isSome, H, I3, rfl, q⟩
theorem op_notInK (hu : X.A.units + 1 < cLine) : OpR X (compareOp .NotIn) (rInK true) := by
  intro pins s σ H x y v u Q I rx ry h
  obtain ⟨a, r, rfl, g, q⟩ := h
  obtain rfl : u = Value.ref a := ry
  exact d_notIn hu I g rx fun s3 I3 => ⟨.bl (!r.isSome), H, I3, rfl, q⟩
theorem inK_ok {K : PySem.W.Frag} {neg : Bool} : Sim2 K (rInK neg) (sInD neg) := fun B loc M H x y v w Q Qd r d1 d2 h t => by
  unfold sInD at h
  split at h
  · rename_i k g
    obtain ⟨kvs, h1, q⟩ := h
    cases d1
    cases d2 with
    | ref hi =>
      obtain ⟨ws, hw, dw⟩ := dic_rd r hi h1
      refine ⟨_, _, rfl, dic_get hw, t _ _ _ _ _ _ .refl r .bl ?_⟩
      have e : (valV ws (Sum.inl k)).isSome = (lookI kvs k).isSome := by
        cases q2 : lookI kvs k with
        | none => rw [(lookI_den dw).2 q2]; rfl
        | some d =>
          obtain ⟨u, h6, _⟩ := (lookI_den dw).1 _ q2
          rw [h6]; rfl
      rw [e]
      exact q
  · exact h.elim
theorem jo_inD (hu : X.A.units + 1 < cLine) : JOp X (compareOp .In) (sInD false) := ⟨_, op_inK hu, inK_ok⟩
theorem jo_notInD (hu : X.A.units + 1 < cLine) : JOp X (compareOp .NotIn) (sInD true) := ⟨_, op_notInK hu, inK_ok⟩
/-- len(d) -/
def sLenD : SN := fun xs M Q => match xs with
  | [.ref g] => ∃ kvs, M[g]? = some (.dic kvs) ∧ Q (.int kvs.length) M
  | _ => False
theorem jc_lenD : JCall X (.builtin "len") sLenD := ⟨_, call_lenD, fun B loc M H xs vs Q Qd r d h t => by
  unfold sLenD at h
  split at h
  · obtain ⟨kvs, h1, q⟩ := h
    cases d with
    | cons d1 d2 =>
      cases d2
      cases d1 with
      | ref hi =>
        obtain ⟨_, ws, h2, h3, _⟩ := r.obj _ _ _ hi h1 trivial
        refine ⟨_, ws, rfl, h2, ?_⟩
        rw [kv_len h3]
        exact t _ _ _ _ _ _ .refl r .int q
  · exact h.elim⟩
/-- d[a new number] = v -/
def gDSet (so si : SE) : SG := fun d ρ M Q => so ρ M fun x M1 => si ρ M1 fun y M2 => match x, y with
  | .ref g, .int k => ∃ kvs, M2[g]? = some (.dic kvs) ∧ lookI kvs k = none ∧ kvs.length ≤ 900 ∧ Q ρ (M2.set g (.dic (kvs ++ [(k, d)])))
  | _, _ => False
theorem jg_dset {i : Expr} {si : SE} (hu : X.A.units + 1 < cLine) (ho : JE c X o so) (hi : JE c X i si)
    (ha : ∀ v, assign (.Subscript o i pos) X.env v = (do
      let ov ← holding [v] (eval o X.env)
      let iv ← holding [v, ov] (eval i X.env)
      standAt pos
      holding [v, ov, iv] (setItem ov iv v)
      release [v, ov, iv] []) := by intro _; rfl) : JG c X (.Subscript o i pos) (gDSet so si) := by
  obtain ⟨t1, p1, z1⟩ := ho
  obtain ⟨t2, p2, z2⟩ := hi
  refine ⟨_, pg_sub p1 p2 (set_dict hu) ha, fun B loc M H σ ρ d v Q Qd A e h t => z1 B loc M H σ ρ _ _ A h fun d1 M1 v1 B1 l1 H1 g1 r1 e1 h1 => z2 B1 l1 M1 H1 σ ρ _ _ (A.on g1 r1) h1 fun d2 M2 v2 B2 l2 H2 g2 r2 e2 h2 => ?_⟩
  have e3 := e1.go g2
  split at h2
  · rename_i g k
    obtain ⟨kvs, h3, h4, h5, q⟩ := h2
    cases e3 with
    | ref hi =>
      cases e2
      obtain ⟨_, ws, hw, dw, nd⟩ := r2.obj _ _ _ hi h3 trivial
      have hl := kv_len dw
      have hn := (lookI_den dw).2 h4
      refine ⟨_, _, rfl, .inl ⟨ws, .inl k, hw, rfl, Nat.lt_of_le_of_lt (show ws.length ≤ 900 by omega) (by decide), rfl⟩, ?_⟩
      rw [putK_new v hn]
      have gg := g1.trans g2
      obtain ⟨r3, g3⟩ := r2.put (o := .dic (kvs ++ [(k, d)])) (ho := .dK (ws ++ [(Sum.inl k, v)])) hi h3 trivial fun H' h' => ⟨_, h', kv_snoc (e.go gg) dw, by
        rw [List.map_append]
        refine List.nodup_append.mpr ⟨nd, List.nodup_cons.mpr ⟨fun z => (nomatch z), List.nodup_nil⟩, fun a ha b hb => ?_⟩
        rw [List.mem_singleton.mp hb]
        exact fun z => lookI_none h4 (by have z : a = k := z; rw [← z]; exact ha)⟩
      exact t _ _ _ _ _ _ (gg.trans g3) r3 (A.env.go (gg.trans g3)) q
  · exact h2.elim
/-- for k in d, d locked -/
def iKeysD (se : SE) : SI := fun ρ M Q => se ρ M fun d M1 => match d with
  | .ref g => ∃ ho kvs, M1[g]? = some (.lck ho kvs) ∧ Q (kvs.map fun kv => D.int kv.1) (fun M => M[g]? = some (.lck ho kvs)) M1
  | _ => False
theorem ji_keys (he : JE c X e se) : JI c X tg e (iKeysD se) := by
  obtain ⟨t, pe, z⟩ := he
  refine ⟨_, pi_keys pe, fun B loc M H σ ρ R Qd A hs q => z B loc M H σ ρ _ _ A hs fun d M1 v B1 l1 H1 g1 r1 e1 h1 => ?_⟩
  cases e1 with
  | ref hi =>
    obtain ⟨ho, kvs, h2, h3⟩ := h1
    obtain ⟨_, h4, od, ws, rfl, dw, nd⟩ := r1.obj _ _ _ hi h2 trivial
    refine ⟨_, od, rfl, .inl ⟨ws, h4, q _ _ _ _ _ _ _ g1 r1 (fun i B' loc' M' H' g r s => ?_) h3⟩⟩
    obtain ⟨_, h5, od', ws', e5, dw', _⟩ := r.obj _ _ _ (pre_get g.l hi) s trivial
    cases e5
    have hl := kv_len dw'
    refine ⟨fun d hd => ⟨⟨h5, ?_⟩, fun x H2 hy => ?_⟩, fun hle => ⟨h5, ?_⟩⟩
    · have := (List.getElem?_eq_some_iff.mp hd).1
      rw [List.length_map] at this
      omega
    · obtain ⟨rfl, k, u, hk, rfl⟩ := hy
      obtain ⟨y, d2, h6, rfl⟩ := kv_get dw' hk
      rw [List.getElem?_map, h6] at hd
      cases hd
      exact ⟨B', .refl, r, .int⟩
    · rw [List.length_map] at hle
      omega
  | _ => exact h1.elim
/-- an expression while a dict is locked -/
def sLockE (se : SE) : SE := fun ρ M Q => ∃ g kvs, M[g]? = some (.dic kvs) ∧ ∀ ho, se ρ (M.set g (.lck ho kvs)) fun d M' => M'[g]? = some (.lck ho kvs) ∧ Q d (M'.set g (.dic kvs))
theorem je_lock (h : JE c X e se) : JE c X e (sLockE se) := by
  obtain ⟨t, pe, z⟩ := h
  refine ⟨_, pe_lock pe, fun B loc M H σ ρ Q Qd A hs t => ?_⟩
  obtain ⟨g, kvs, hg, hs⟩ := hs
  have hgl : g < loc.length := by rw [A.rel.len]; exact (List.getElem?_eq_some_iff.mp hg).1
  obtain ⟨adr, hi⟩ : ∃ adr, loc[g]? = some adr := ⟨_, List.getElem?_eq_getElem hgl⟩
  obtain ⟨_, ws, hw, dw, nd⟩ := A.rel.obj _ _ _ hi hg trivial
  refine ⟨adr, .dK ws, hw, trivial, fun od => ?_⟩
  obtain ⟨r1, g1⟩ := A.rel.put (o := .lck (.frz od (.dK ws)) kvs) (ho := .frz od (.dK ws)) hi hg trivial fun H' h' => ⟨h', od, ws, rfl, dw, nd⟩
  refine z _ _ _ _ σ ρ _ _ (A.on g1 r1) (hs (.frz od (.dK ws))) fun d M' v B' l' H' g2 r2 e2 h2 => ?_
  obtain ⟨hm, hq⟩ := h2
  have hi2 := pre_get g2.l hi
  obtain ⟨_, hw2, od2, ws2, e3, dw2, nd2⟩ := r2.obj _ _ _ hi2 hm trivial
  cases e3
  refine ⟨hw2, ?_⟩
  obtain ⟨r3, g3⟩ := r2.put (o := .dic kvs) (ho := .dK ws) hi2 hm trivial fun H' h' => ⟨ws, h', dw2, nd2⟩
  exact t _ _ _ _ _ _ ((g1.trans g2).trans g3) r3 (e2.go g3) hq
end
end J

/-! LH: a law's start with two tables of code objects; a list that grows beside others -/
namespace J
open PySem PySem.Spec PyProof.Rows L2
theorem sp_startT2 {K : PySem.W.Frag} {H : Hp} {a P1 P2 : Addr} {q1 q2 : Str} {ns : List Int} {ct : Ct} (hne : P1 ≠ P2) (h1 : H P1 = some (.tbl #[])) (h2 : H P2 = some (.tbl #[])) (hS : SqL K H a (ns.map V.int)) (h : ct [.scr ns] [.tab P1 q1, .tab P2 q2] (fun d _ => d = .bl true) fun _ _ => False) :
    spD K 1 ct [.ref a] H (fun v _ => v = .bl true) fun _ _ _ => False := by
  have n1 : offT H P1 = none := by
    unfold offT
    rw [h1]
  have n2 : offT H P2 = none := by
    unfold offT
    rw [h2]
  refine ⟨rfl, [.scr ns], offT H, [P1, P2], [.tab P1 q1, .tab P2 q2], fun d _ => d = .bl true, fun _ _ => False, ⟨offT_sub H, rfl, fun i b o e1 e2 _ => ?_, fun i j b o u e1 e2 _ _ _ _ => ?_, fun b hb => ?_, offT_nt H, fun i b o ps e1 e2 _ => ?_⟩, .cons (.scr (offT_seq hS)) .nil, h, fun d M' v B' l' H' g r e q => by subst q; cases e; rfl, fun _ _ _ _ _ _ _ q => q.elim⟩
  · match i, e1, e2 with
    | 0, e1, e2 =>
      cases e1
      cases e2
      exact ⟨n1, rfl, #[], h1, True.intro, fun pos cv hc => by simp [codeAmong] at hc⟩
    | 1, e1, e2 =>
      cases e1
      cases e2
      exact ⟨n2, rfl, #[], h2, True.intro, fun pos cv hc => by simp [codeAmong] at hc⟩
  · match i, j, e1, e2 with
    | 0, 0, _, _ => rfl
    | 1, 1, _, _ => rfl
    | 0, 1, e1, e2 => exact absurd ((Option.some.inj e1).trans (Option.some.inj e2).symm) hne
    | 1, 0, e1, e2 => exact absurd ((Option.some.inj e2).trans (Option.some.inj e1).symm) hne
  · rcases List.mem_cons.mp hb with rfl | hb
    · exact ⟨_, h1⟩
    · rw [List.mem_singleton.mp hb]
      exact ⟨_, h2⟩
  · match i, e1, e2 with
    | 0, e1, e2 =>
      cases e2
      exact ⟨_, _, rfl⟩
    | 1, e1, e2 =>
      cases e2
      exact ⟨_, _, rfl⟩
theorem get_midE {B E : Mem} {x : MO} : (B ++ [x] ++ E)[B.length]? = some x := get_left get_end
theorem set_midE {B E : Mem} {x y : MO} : (B ++ [x] ++ E).set B.length y = B ++ [y] ++ E := by
  rw [List.set_append_left _ _ (by rw [List.length_append]; show B.length < B.length + 1; omega), set_end]
end J

namespace J
open PySem PySem.Spec PyProof.Rows L2 TL
/-! ### runs as texts -/
def figB (c : Nat) : Bool := decide (c ∈ (Str.ofString "0123456789").cps.toList)
theorem figB_iff {c : Nat} : figB c = true ↔ 48 ≤ c ∧ c ≤ 57 := by
  unfold figB
  rw [decide_eq_true_iff]
  have e : (Str.ofString "0123456789").cps.toList = [48, 49, 50, 51, 52, 53, 54, 55, 56, 57] := rfl
  rw [e]
  simp only [List.mem_cons, List.not_mem_nil, or_false]
  omega
theorem good_mem {z : Str} (h : goodKeys z = true) : ∀ c ∈ z.cps.toList, c = 108 ∨ c = 106 ∨ c = 114 ∨ c = 100 := fun c hc => by
  unfold goodKeys at h
  rw [Bool.and_eq_true] at h
  have := of_decide_eq_true (List.all_eq_true.mp h.1 c hc)
  simpa using this
theorem good_len {z : Str} (h : goodKeys z = true) : z.length ≤ 4 := by
  unfold goodKeys at h
  rw [Bool.and_eq_true] at h
  have := congrArg List.length (of_decide_eq_true h.2)
  have h2 := List.length_filter_le (fun c => decide (c ∈ z.cps.toList)) [108, 106, 114, 100]
  rw [← this] at h2
  have h3 : z.length = z.cps.toList.length := (Array.length_toList).symm
  rw [h3]
  exact h2
def keyOf (r : List Nat) : Str := if r = [46] then ⟨#[]⟩ else ⟨r.toArray⟩
/-- the keys that a word tells -/
def partL (w : List Nat) : Option (List Str) :=
  if ((1 ≤ (w.takeWhile figB).length ∧ (w.takeWhile figB).length ≤ 4) ∧ (w.takeWhile figB).head? ≠ some 48 ∧ w.dropWhile figB ≠ []) ∧ goodKeys (keyOf (w.dropWhile figB)) = true then
    some (List.replicate (NumText.digitsVal (w.takeWhile figB)) (keyOf (w.dropWhile figB))) else none
def readW : List (List Nat) → List Str → Option (List Str)
  | [], acc => some acc
  | w :: ws, acc => match partL w with
    | none => none
    | some p => if acc.length + p.length ≤ 5000 then readW ws (acc ++ p) else none
def readT (z : Str) : Option (List Str) := if z.cps.toList = [] then some [] else readW (spl [32] 0 [] z.cps.toList) []
def readD : D → Option (List Str)
  | .str z => readT z
  | _ => none
def wordL (p : Nat × Str) : List Nat := numL p.1 ++ (if p.2.cps.toList = [] then [46] else p.2.cps.toList)
theorem numL_head : ∀ n : Nat, 1 ≤ n → (numL n).head? ≠ some 48 := by
  intro n
  induction n using Nat.strongRecOn with
  | ind n ih =>
    intro h
    by_cases q : n < 10
    · rw [numL_lt q]
      intro z
      have := Option.some.inj z
      omega
    · obtain ⟨c, r, e⟩ := List.exists_cons_of_ne_nil (numL_ne (n / 10))
      have ih := ih (n / 10) (by omega) (by omega)
      rw [numL_step (by omega), e]
      rw [e] at ih
      exact ih
theorem numL_fig (n : Nat) : ∀ c ∈ numL n, figB c = true := fun c hc => figB_iff.mpr (numL_digits n c hc)
theorem wordK_head {z : Str} (h : goodKeys z = true) : ∃ c r, (if z.cps.toList = [] then [46] else z.cps.toList) = c :: r ∧ figB c = false := by
  have nf : ∀ c : Nat, ¬ (48 ≤ c ∧ c ≤ 57) → figB c = false := fun c hc => by
    cases q : figB c with
    | false => rfl
    | true => exact absurd (figB_iff.mp q) hc
  by_cases e : z.cps.toList = []
  · rw [if_pos e]
    exact ⟨46, [], rfl, nf 46 (by omega)⟩
  · rw [if_neg e]
    cases q : z.cps.toList with
    | nil => exact absurd q e
    | cons c r =>
      refine ⟨c, r, rfl, nf c ?_⟩
      have := good_mem h c (by rw [q]; exact List.mem_cons_self)
      omega
theorem keyOf_word {z : Str} (h : goodKeys z = true) : keyOf (if z.cps.toList = [] then [46] else z.cps.toList) = z := by
  by_cases e : z.cps.toList = []
  · rw [if_pos e]
    exact (ext_tl (x := z) (y := ⟨#[]⟩) e).symm
  · rw [if_neg e]
    refine (if_neg fun q => ?_).trans (mk_tl z)
    have := good_mem h 46 (by rw [q]; exact List.mem_singleton.mpr rfl)
    omega
theorem part_word {p : Nat × Str} (h1 : 1 ≤ p.1) (h2 : p.1 < 10000) (hg : goodKeys p.2 = true) : partL (wordL p) = some (List.replicate p.1 p.2) := by
  obtain ⟨c, r, hk, hc⟩ := wordK_head hg
  have e1 : (wordL p).takeWhile figB = numL p.1 := by
    unfold wordL
    rw [hk, List.takeWhile_append_of_pos (numL_fig _), List.takeWhile_cons, hc]
    simp
  have e2 : (wordL p).dropWhile figB = c :: r := by
    unfold wordL
    rw [hk, List.dropWhile_append_of_pos (numL_fig _), List.dropWhile_cons, hc]
    simp
  have e3 : keyOf (c :: r) = p.2 := by rw [← hk]; exact keyOf_word hg
  unfold partL
  rw [e1, e2, e3, numL_val, if_pos]
  refine ⟨⟨⟨?_, numL_len (by decide) h2⟩, numL_head _ h1, by simp⟩, hg⟩
  exact List.length_pos_iff.mpr (numL_ne _)
def flatP (ps : List (Nat × Str)) : List Str := (ps.map fun p => List.replicate p.1 p.2).flatten
theorem flatP_app (a b : List (Nat × Str)) : flatP (a ++ b) = flatP a ++ flatP b := by
  unfold flatP
  rw [List.map_append, List.flatten_append]
abbrev OkP (p : Nat × Str) : Prop := 1 ≤ p.1 ∧ p.1 < 10000 ∧ goodKeys p.2 = true
theorem readW_words : ∀ (ps : List (Nat × Str)) (acc : List Str), (∀ p ∈ ps, OkP p) → acc.length + (flatP ps).length ≤ 5000 → readW (ps.map wordL) acc = some (acc ++ flatP ps)
  | [], acc, _, _ => by
    show some acc = some (acc ++ [])
    rw [List.append_nil]
  | p :: ps, acc, h, hl => by
    obtain ⟨h1, h2, h3⟩ := h p List.mem_cons_self
    have e : flatP (p :: ps) = List.replicate p.1 p.2 ++ flatP ps := rfl
    rw [e, List.length_append, List.length_replicate] at hl
    rw [List.map_cons]
    unfold readW
    rw [part_word h1 h2 h3]
    show (if acc.length + (List.replicate p.1 p.2).length ≤ 5000 then _ else _) = _
    rw [List.length_replicate, if_pos (by omega), readW_words ps _ (fun q hq => h q (List.mem_cons_of_mem _ hq)) (by rw [List.length_append, List.length_replicate]; omega), e, List.append_assoc]
theorem word_free {p : Nat × Str} (hg : goodKeys p.2 = true) : 32 ∉ wordL p := fun h => by
  unfold wordL at h
  rcases List.mem_append.mp h with h | h
  · exact numL_free (.inl (by omega)) h
  · split at h
    · have := List.mem_singleton.mp h
      omega
    · have := good_mem hg 32 h
      omega
theorem word_ne (p : Nat × Str) : wordL p ≠ [] := fun h => numL_ne p.1 (List.append_eq_nil_iff.mp h).1
theorem joinL_ne {S : List Nat} : ∀ {ps : List (List Nat)}, ps ≠ [] → (∀ p ∈ ps, p ≠ []) → joinL S ps ≠ []
  | [], h, _ => absurd rfl h
  | [p], _, h => h p (List.mem_singleton.mpr rfl)
  | p :: q :: r, _, h => fun z => h p List.mem_cons_self (List.append_eq_nil_iff.mp z).1
/-- a text of words, read -/
theorem read_words {z : Str} {ps : List (Nat × Str)} (hz : z.cps.toList = joinL [32] (ps.map wordL)) (h : ∀ p ∈ ps, OkP p) (hl : (flatP ps).length ≤ 5000) : readT z = some (flatP ps) := by
  unfold readT
  rw [hz]
  by_cases e : ps = []
  · subst e
    rfl
  · have ne : ps.map wordL ≠ [] := fun q => e (List.map_eq_nil_iff.mp q)
    rw [if_neg (joinL_ne ne fun p hp => by
      obtain ⟨q, _, rfl⟩ := List.mem_map.mp hp
      exact word_ne q), spl_join ne fun p hp => by
      obtain ⟨q, hq, rfl⟩ := List.mem_map.mp hp
      exact word_free (h q hq).2.2]
    rw [readW_words ps [] h (by rw [List.length_nil]; omega), List.nil_append]
/-! #### stretches -/
def rleStep (acc : List (Nat × Str)) (k : Str) : List (Nat × Str) := match acc.getLast? with
  | some (n, z) => if z = k then acc.dropLast ++ [(n + 1, k)] else acc ++ [(1, k)]
  | none => [(1, k)]
def rle (zs : List Str) : List (Nat × Str) := zs.foldl rleStep []
theorem rleStep_same {a : List (Nat × Str)} {n : Nat} {k : Str} : rleStep (a ++ [(n, k)]) k = a ++ [(n + 1, k)] := by
  unfold rleStep
  rw [List.getLast?_concat]
  show (if k = k then _ else _) = _
  rw [if_pos rfl, List.dropLast_concat]
theorem rleStep_new {a : List (Nat × Str)} {n : Nat} {z k : Str} (h : z ≠ k) : rleStep (a ++ [(n, z)]) k = a ++ [(n, z)] ++ [(1, k)] := by
  unfold rleStep
  rw [List.getLast?_concat]
  show (if z = k then _ else _) = _
  rw [if_neg h]
theorem snoc_cases {α : Type} (l : List α) : l = [] ∨ ∃ a x, l = a ++ [x] := by
  induction l with
  | nil => exact .inl rfl
  | cons x l ih =>
    rcases ih with rfl | ⟨a, y, rfl⟩
    · exact .inr ⟨[], x, rfl⟩
    · exact .inr ⟨x :: a, y, rfl⟩
theorem flat_step (acc : List (Nat × Str)) (k : Str) : flatP (rleStep acc k) = flatP acc ++ [k] := by
  rcases snoc_cases acc with rfl | ⟨a, ⟨n, z⟩, rfl⟩
  · rfl
  · by_cases h : z = k
    · subst h
      rw [rleStep_same, flatP_app, flatP_app, List.append_assoc]
      congr 1
      show List.replicate (n + 1) z ++ [] = (List.replicate n z ++ []) ++ [z]
      rw [List.append_nil, List.append_nil, List.replicate_succ']
    · rw [rleStep_new h, flatP_app]
      rfl
theorem flat_foldl : ∀ (zs : List Str) (acc : List (Nat × Str)), flatP (zs.foldl rleStep acc) = flatP acc ++ zs
  | [], acc => (List.append_nil _).symm
  | k :: zs, acc => by rw [List.foldl_cons, flat_foldl zs, flat_step, List.append_assoc]; rfl
theorem flat_rle (zs : List Str) : flatP (rle zs) = zs := flat_foldl zs []
theorem rstep_ok {G : Str → Prop} {acc : List (Nat × Str)} {k : Str} (h : ∀ p ∈ acc, 1 ≤ p.1 ∧ G p.2) (hk : G k) : ∀ p ∈ rleStep acc k, 1 ≤ p.1 ∧ G p.2 := fun p hp => by
  rcases snoc_cases acc with rfl | ⟨a, ⟨n, z⟩, rfl⟩
  · rw [List.mem_singleton.mp hp]; exact ⟨Nat.le_refl 1, hk⟩
  · by_cases q : z = k
    · subst q
      rw [rleStep_same] at hp
      rcases List.mem_append.mp hp with hp | hp
      · exact h p (List.mem_append_left _ hp)
      · rw [List.mem_singleton.mp hp]; exact ⟨Nat.le_add_left 1 n, hk⟩
    · rw [rleStep_new q] at hp
      rcases List.mem_append.mp hp with hp | hp
      · exact h p hp
      · rw [List.mem_singleton.mp hp]; exact ⟨Nat.le_refl 1, hk⟩
theorem foldl_ok {G : Str → Prop} : ∀ (zs : List Str) (acc : List (Nat × Str)), (∀ p ∈ acc, 1 ≤ p.1 ∧ G p.2) → (∀ z ∈ zs, G z) → ∀ p ∈ zs.foldl rleStep acc, 1 ≤ p.1 ∧ G p.2
  | [], acc, h, _ => h
  | k :: zs, acc, h, hz => foldl_ok zs _ (rstep_ok h (hz k List.mem_cons_self)) fun z q => hz z (List.mem_cons_of_mem _ q)
theorem rle_ok {G : Str → Prop} {zs : List Str} (h : ∀ z ∈ zs, G z) : ∀ p ∈ rle zs, 1 ≤ p.1 ∧ G p.2 := foldl_ok zs [] (fun _ q => (nomatch q)) h
theorem flat_le {ps : List (Nat × Str)} {p : Nat × Str} (h : p ∈ ps) : p.1 ≤ (flatP ps).length := by
  induction ps with
  | nil => cases h
  | cons q ps ih =>
    have e : flatP (q :: ps) = List.replicate q.1 q.2 ++ flatP ps := rfl
    rw [e, List.length_append, List.length_replicate]
    rcases List.mem_cons.mp h with rfl | h
    · omega
    · have := ih h
      omega
theorem flat_num {ps : List (Nat × Str)} (h : ∀ p ∈ ps, 1 ≤ p.1) : ps.length ≤ (flatP ps).length := by
  induction ps with
  | nil => exact Nat.le_refl _
  | cons q ps ih =>
    have e : flatP (q :: ps) = List.replicate q.1 q.2 ++ flatP ps := rfl
    rw [e, List.length_append, List.length_replicate, List.length_cons]
    have := ih fun p hp => h p (List.mem_cons_of_mem _ hp)
    have := h q List.mem_cons_self
    omega
theorem rle_le {zs : List Str} {p : Nat × Str} (h : p ∈ rle zs) : p.1 ≤ zs.length := by
  have := flat_le h
  rwa [flat_rle] at this
theorem rle_len (zs : List Str) : (rle zs).length ≤ zs.length := by
  have := flat_num (ps := rle zs) fun p hp => (rle_ok (G := fun _ => True) (fun _ _ => trivial) p hp).1
  rwa [flat_rle] at this
theorem rle_ne {zs : List Str} (h : zs ≠ []) : rle zs ≠ [] := fun e => by
  have := flat_rle zs
  rw [e] at this
  exact h this.symm
/-- a stretch behind others -/
theorem run_same {a : List (Nat × Str)} {k : Str} : ∀ (m n : Nat), (List.replicate m k).foldl rleStep (a ++ [(n, k)]) = a ++ [(n + m, k)]
  | 0, n => rfl
  | m + 1, n => by
    rw [List.replicate_succ, List.foldl_cons, rleStep_same, run_same m (n + 1), show n + 1 + m = n + (m + 1) by omega]
def Apart (a : List (Nat × Str)) (k : Str) : Prop := ∀ b n z, a = b ++ [(n, z)] → z ≠ k
theorem run_new {a : List (Nat × Str)} {k : Str} (h : Apart a k) (m : Nat) : (List.replicate (m + 1) k).foldl rleStep a = a ++ [(m + 1, k)] := by
  have e : rleStep a k = a ++ [(1, k)] := by
    rcases snoc_cases a with rfl | ⟨b, ⟨n, z⟩, rfl⟩
    · rfl
    · exact rleStep_new (h b n z rfl)
  rw [List.replicate_succ, List.foldl_cons, e, run_same, Nat.add_comm 1 m]
theorem rle_run {xs : List Str} {k : Str} (h : Apart (rle xs) k) (m : Nat) : rle (xs ++ List.replicate (m + 1) k) = rle xs ++ [(m + 1, k)] := by
  unfold rle
  rw [List.foldl_append]
  exact run_new h m
theorem apart_snoc {a : List (Nat × Str)} {n : Nat} {z k : Str} (h : z ≠ k) : Apart (a ++ [(n, z)]) k := fun b m y e => by
  have := (List.append_inj' e rfl).2
  cases this
  exact h
theorem apart_nil {k : Str} : Apart [] k := fun b m y e => by
  cases b <;> cases e
/-! #### the text -/
def wordS (p : Nat × Str) : Str := (Str.ofString (toString (p.1 : Int))) ++ (if p.2 = Str.ofString "" then Str.ofString "." else p.2)
theorem str_nil {z : Str} : z = Str.ofString "" ↔ z.cps.toList = [] := ⟨fun h => by rw [h]; rfl, fun h => ext_tl h⟩
theorem tl_word (p : Nat × Str) : tl (wordS p) = wordL p := by
  unfold wordS wordL
  rw [tl_append, tl_num]
  congr 1
  by_cases h : p.2.cps.toList = []
  · rw [if_pos (str_nil.mpr h), if_pos h]; rfl
  · rw [if_neg (fun q => h (str_nil.mp q)), if_neg h]
def textM (zs : List Str) : Str := Txt.join (Str.ofString " ") ((rle zs).map wordS)
theorem tl_joinS (ps : List (Nat × Str)) : tl (Txt.join (Str.ofString " ") (ps.map wordS)) = joinL [32] (ps.map wordL) := by
  rw [join_eq, tl_join, List.map_map]
  congr 1
  exact List.map_congr_left fun p _ => tl_word p
theorem tl_text (zs : List Str) : tl (textM zs) = joinL [32] ((rle zs).map wordL) := tl_joinS _
theorem okP_rle {zs : List Str} (h : ∀ z ∈ zs, goodKeys z = true) (hl : zs.length < 10000) : ∀ p ∈ rle zs, OkP p := fun p hp => by
  have h1 := rle_ok (G := fun z => goodKeys z = true) h p hp
  have h2 := rle_le hp
  exact ⟨h1.1, by omega, h1.2⟩
theorem read_text {zs : List Str} (h : ∀ z ∈ zs, goodKeys z = true) (hl : zs.length ≤ 5000) : readT (textM zs) = some zs := by
  rw [read_words (ps := rle zs) (tl_text zs) (okP_rle h (by omega)) (by rw [flat_rle]; exact hl), flat_rle]
theorem join_join {S : List Nat} : ∀ {Ps : List (List (List Nat))}, (∀ P ∈ Ps, P ≠ []) → joinL S (Ps.map (joinL S)) = joinL S Ps.flatten := by
  have app : ∀ (P Q : List (List Nat)), P ≠ [] → Q ≠ [] → joinL S (P ++ Q) = joinL S P ++ (S ++ joinL S Q) := by
    intro P
    induction P with
    | nil => intro Q h; exact absurd rfl h
    | cons p P ih =>
      intro Q _ hQ
      cases P with
      | nil =>
        cases Q with
        | nil => exact absurd rfl hQ
        | cons q Q => rfl
      | cons p2 P =>
        have := ih Q (by simp) hQ
        show p ++ (S ++ joinL S (p2 :: P ++ Q)) = (p ++ (S ++ joinL S (p2 :: P))) ++ (S ++ joinL S Q)
        rw [this]
        simp only [List.append_assoc]
  intro Ps
  induction Ps with
  | nil => intro _; rfl
  | cons P Ps ih =>
    intro h
    have hP := h P List.mem_cons_self
    have ih := ih fun Q hQ => h Q (List.mem_cons_of_mem _ hQ)
    cases Ps with
    | nil =>
      show joinL S P = joinL S (P ++ [])
      rw [List.append_nil]
    | cons Q Ps =>
      have hQ := h Q (List.mem_cons_of_mem _ List.mem_cons_self)
      show joinL S P ++ (S ++ joinL S ((Q :: Ps).map (joinL S))) = joinL S (P ++ (Q :: Ps).flatten)
      rw [ih]
      exact (app P (Q :: Ps).flatten hP (fun e => hQ (List.append_eq_nil_iff.mp e).1)).symm
/-- a text of texts -/
theorem tl_parted (cs : List (List Str)) (h : ∀ c ∈ cs, c ≠ []) : tl (Txt.join (Str.ofString " ") (cs.map textM)) = joinL [32] ((cs.map rle).flatten.map wordL) := by
  rw [join_eq, tl_join, List.map_map, List.map_flatten, ← join_join (Ps := (cs.map rle).map fun ps => ps.map wordL)]
  · rw [List.map_map, List.map_map]
    congr 1
    exact List.map_congr_left fun c _ => tl_text c
  · intro P hP
    obtain ⟨ps, hp, rfl⟩ := List.mem_map.mp hP
    obtain ⟨c, hc, rfl⟩ := List.mem_map.mp hp
    exact fun e => rle_ne (h c hc) (List.map_eq_nil_iff.mp e)
theorem flat_parted : ∀ cs : List (List Str), flatP (cs.map rle).flatten = cs.flatten
  | [] => rfl
  | c :: cs => by
    rw [List.map_cons, List.flatten_cons, flatP_app, flat_rle, flat_parted cs]
    rfl
theorem len_flat {c : List Str} {cs : List (List Str)} (h : c ∈ cs) : c.length ≤ cs.flatten.length := by
  induction cs with
  | nil => cases h
  | cons d cs ih =>
    rw [List.flatten_cons, List.length_append]
    rcases List.mem_cons.mp h with rfl | h
    · omega
    · have := ih h
      omega
theorem read_parted {cs : List (List Str)} (h : ∀ c ∈ cs, c ≠ []) (hg : ∀ c ∈ cs, ∀ z ∈ c, goodKeys z = true) (hl : cs.flatten.length ≤ 5000) : readT (Txt.join (Str.ofString " ") (cs.map textM)) = some cs.flatten := by
  have hf := flat_parted cs
  rw [read_words (ps := (cs.map rle).flatten) (tl_parted cs h) (fun p hp => ?_) (by rw [hf]; exact hl), hf]
  obtain ⟨ps, hps, hp⟩ := List.mem_flatten.mp hp
  obtain ⟨c, hc, rfl⟩ := List.mem_map.mp hps
  refine okP_rle (hg c hc) ?_ p hp
  have := len_flat hc
  omega
/-! #### lengths -/
theorem word_len {p : Nat × Str} (h : OkP p) : (wordL p).length ≤ 8 := by
  unfold wordL
  rw [List.length_append]
  have := numL_len (n := p.1) (k := 4) (by decide) h.2.1
  have h2 := good_len h.2.2
  have h3 : p.2.cps.toList.length = p.2.length := Array.length_toList
  split
  · show _ + 1 ≤ 8
    omega
  · omega
theorem wordS_len {p : Nat × Str} (h : OkP p) : (wordS p).length ≤ 8 := by
  rw [len_tl, tl_word]
  exact word_len h
theorem join_len {ps : List (Nat × Str)} (h : ∀ p ∈ ps, OkP p) : (joinL [32] (ps.map wordL)).length ≤ 9 * ps.length := by
  induction ps with
  | nil => exact Nat.le_refl _
  | cons p ps ih =>
    have h1 := word_len (h p List.mem_cons_self)
    have ih := ih fun q hq => h q (List.mem_cons_of_mem _ hq)
    cases ps with
    | nil =>
      show (wordL p).length ≤ 9
      omega
    | cons q ps =>
      show (wordL p ++ ([32] ++ joinL [32] ((q :: ps).map wordL))).length ≤ _
      rw [List.length_append, List.length_append, List.length_cons]
      have e : (p :: q :: ps).length = (q :: ps).length + 1 := rfl
      show (wordL p).length + (1 + _) ≤ _
      omega
theorem text_len {zs : List Str} (h : ∀ z ∈ zs, goodKeys z = true) (hl : zs.length < 10000) : (textM zs).length ≤ 9 * zs.length := by
  rw [len_tl, tl_text]
  have := join_len (okP_rle h hl)
  have := rle_len zs
  omega
theorem sum_le {ns : List Nat} {b : Nat} (h : ∀ n ∈ ns, n ≤ b) : ns.sum ≤ b * ns.length := by
  induction ns with
  | nil => exact Nat.zero_le _
  | cons n ns ih =>
    have := h n List.mem_cons_self
    have := ih fun m hm => h m (List.mem_cons_of_mem _ hm)
    rw [List.sum_cons, List.length_cons, Nat.mul_succ]
    omega
/-! #### a word's signs -/
theorem rep_flat1 (x : D) : ∀ k : Nat, (List.replicate k [x]).flatten = List.replicate k x
  | 0 => rfl
  | k + 1 => by rw [List.replicate_succ, List.flatten_cons, rep_flat1 x k, List.replicate_succ]; rfl
theorem fold_lt : ∀ (l : List Nat) (a : Nat), NumText.AllDigits l → l.foldl (fun acc c => acc * 10 + (c - 48)) a < (a + 1) * 10 ^ l.length
  | [], a, _ => by show a < (a + 1) * 1; omega
  | c :: l, a, h => by
    have hc := h.head
    have ih := fold_lt l (a * 10 + (c - 48)) h.tail
    have : (a * 10 + (c - 48) + 1) * 10 ^ l.length ≤ (a * 10 + 10) * 10 ^ l.length := Nat.mul_le_mul_right _ (by omega)
    rw [List.foldl_cons, List.length_cons, Nat.pow_succ]
    have e : (a + 1) * (10 ^ l.length * 10) = (a * 10 + 10) * 10 ^ l.length := by
      rw [Nat.mul_comm (10 ^ l.length) 10, ← Nat.mul_assoc, Nat.add_mul, Nat.one_mul]
    omega
theorem val_lt {l : List Nat} (h : NumText.AllDigits l) (hl : l.length ≤ 4) : NumText.digitsVal l < 10000 := by
  have h1 := fold_lt l 0 h
  have h2 : 10 ^ l.length ≤ 10 ^ 4 := Nat.pow_le_pow_right (by decide) hl
  unfold NumText.digitsVal
  omega
theorem slen (z : Str) : z.length = z.cps.toList.length := (Array.length_toList).symm
theorem tl_cut1 (z : Str) : (cutS z none (some 1)).cps.toList = z.cps.toList.take 1 := by
  unfold cutS
  rw [show HT.sIx z.length z.length (some 1) = min 1 z.length from HT.sIx_nat _ _ 1, HT.sIx_none, List.drop_zero, Nat.sub_zero, slen]
  show z.cps.toList.take (min 1 z.cps.toList.length) = _
  cases z.cps.toList with
  | nil => rfl
  | cons c r => rw [show min 1 (c :: r).length = 1 by rw [List.length_cons]; omega]
theorem tl_cutT (z : Str) : (cutS z (some 1) none).cps.toList = z.cps.toList.drop 1 := by
  unfold cutS
  rw [show HT.sIx z.length 0 (some 1) = min 1 z.length from HT.sIx_nat _ _ 1, HT.sIx_none, slen]
  show (z.cps.toList.drop (min 1 z.cps.toList.length)).take (z.cps.toList.length - min 1 z.cps.toList.length) = _
  cases z.cps.toList with
  | nil => rfl
  | cons c r =>
    rw [show min 1 (c :: r).length = 1 by rw [List.length_cons]; omega]
    exact List.take_of_length_le (by rw [List.length_drop]; exact Nat.le_refl _)
theorem str_eq {z w : Str} : z = w ↔ z.cps.toList = w.cps.toList := ⟨fun h => by rw [h], fun h => ext_tl h⟩
theorem while_of {p : Nat → Bool} {a b : List Nat} (h : ∀ c ∈ a, p c = true) (hb : ∀ c r, b = c :: r → p c = false) : (a ++ b).takeWhile p = a ∧ (a ++ b).dropWhile p = b := by
  rw [List.takeWhile_append_of_pos h, List.dropWhile_append_of_pos h]
  cases b with
  | nil => exact ⟨List.append_nil _, rfl⟩
  | cons c r =>
    rw [List.takeWhile_cons, List.dropWhile_cons, hb c r rfl]
    exact ⟨by simp, by simp⟩
theorem keyOf_eq (b : Str) : keyOf b.cps.toList = if b = Str.ofString "." then Str.ofString "" else b := by
  unfold keyOf
  by_cases h : b = Str.ofString "."
  · rw [if_pos h, if_pos (by rw [h]; rfl)]; rfl
  · rw [if_neg h]
    exact (if_neg (fun q => h (str_eq.mpr q))).trans (mk_tl b)
theorem take_fig (w : List Nat) : NumText.AllDigits (w.takeWhile figB) := fun c hc => figB_iff.mp (by
  induction w with
  | nil => cases hc
  | cons d w ih =>
    rw [List.takeWhile_cons] at hc
    split at hc
    · rename_i h
      rcases List.mem_cons.mp hc with rfl | hc
      · exact h
      · exact ih hc
    · cases hc)
theorem partL_len {w : List Nat} {p : List Str} (h : partL w = some p) : p.length < 10000 := by
  unfold partL at h
  split at h
  · rename_i hc
    cases h
    rw [List.length_replicate]
    exact val_lt (take_fig w) hc.1.1.2
  · cases h
theorem split_tl (z : Str) : (Txt.split z (Str.ofString " ")).map tl = spl [32] 0 [] z.cps.toList := by
  have := split_spl z (Str.ofString " ") (by decide) (kind_ok (by decide +kernel))
  exact this
theorem spl_len : ∀ (l acc : List Nat), ∀ w ∈ spl [32] 0 acc l, w.length ≤ acc.length + l.length
  | [], acc, w, h => by
    rw [spl_nil] at h
    rw [List.mem_singleton.mp h]
    exact Nat.le_add_right _ _
  | c :: l, acc, w, h => by
    by_cases q : pre [32] (c :: l) = true
    · rw [spl_hit q] at h
      rcases List.mem_cons.mp h with rfl | h
      · exact Nat.le_add_right _ _
      · have := spl_len l [] w h
        rw [List.length_nil] at this
        rw [List.length_cons]
        omega
    · rw [spl_miss (by simpa using q)] at h
      have := spl_len l (acc ++ [c]) w h
      rw [List.length_append, List.length_singleton] at this
      rw [List.length_cons]
      omega
theorem split_len {z w : Str} (h : w ∈ Txt.split z (Str.ofString " ")) : w.length ≤ z.length := by
  have h2 : tl w ∈ (Txt.split z (Str.ofString " ")).map tl := List.mem_map_of_mem h
  rw [split_tl] at h2
  have := spl_len _ _ _ h2
  rw [slen, slen z]
  rw [List.length_nil] at this
  show (tl w).length ≤ _
  omega
end J

namespace J
open PySem PySem.Spec PyProof.Rows L2
/-! ### the law's own runner, its entries in another order -/
def oneP (s : RS) : MO := .rcd ["x", "y", "vx", "vy", "t", "j"] [.int s.x, .int s.y, .int s.vx, .int s.vy, .int s.t, .bl s.j]
/-! ### steps -/
abbrev Step := (Int × Int) × Bool
def stM (e : Wd) (s : RS) : Step := ((s.x, s.y), e.floor s.x s.y s.t false)
def stepD (p : Step) : D := .tup [.tup [.int p.1.1, .int p.1.2], .bl p.2]
def stepsM (e : Wd) : List Str → RS → List Step
  | [], s => [stM e s]
  | z :: zs, s => stM e s :: stepsM e zs (tickM e z s)
theorem stepsM_snoc (e : Wd) : ∀ (zs : List Str) (z : Str) (s : RS), stepsM e (zs ++ [z]) s = stepsM e zs s ++ [stM e (tickM e z (afterM e zs s))]
  | [], _, _ => rfl
  | a :: zs, z, s => by
    show _ :: stepsM e (zs ++ [z]) _ = _
    rw [stepsM_snoc e zs z]; rfl
theorem stepsM_len (e : Wd) : ∀ (zs : List Str) (s : RS), (stepsM e zs s).length = zs.length + 1
  | [], _ => rfl
  | _ :: zs, _ => congrArg Nat.succ (stepsM_len e zs _)
def stepP (p : Step) : PyData := .tuple [.tuple [.int p.1.1, .int p.1.2], .bool p.2]
theorem pyL_mapF {α : Type} {f : α → D} {g : α → PyData} (h : ∀ c, pyD (f c) = some (g c)) : ∀ l : List α, pyL (l.map f) = some (l.map g)
  | [] => rfl
  | c :: r => by
    rw [List.map_cons]
    unfold pyL
    rw [h c, pyL_mapF h r]; rfl
theorem pyD_mapF {α : Type} {f : α → D} {g : α → PyData} (h : ∀ c, pyD (f c) = some (g c)) (l : List α) : pyD (.lst (l.map f)) = some (.list (l.map g)) := by
  show (pyL (l.map f)).map PyData.list = _
  rw [pyL_mapF h]; rfl
theorem dep_mapF {α : Type} {g : α → PyData} {n : Nat} (h : ∀ c, (g c).depth ≤ n) (hn : n + 1 ≤ 60) (l : List α) : (PyData.list (l.map g)).depth ≤ 60 := by
  have : PyData.depthAll (l.map g) ≤ n := dep_all fun p hp => by
    obtain ⟨s, _, rfl⟩ := List.mem_map.mp hp
    exact h s
  show PyData.depthAll _ + 1 ≤ 60
  omega
/-- a list that is the same is not another one -/
theorem ne_mapF {α : Type} {f : α → D} {g : α → PyData} {n : Nat} (h : ∀ c, pyD (f c) = some (g c)) (hd : ∀ c, (g c).depth ≤ n) (hn : n + 1 ≤ 60) (l : List α) {M : Mem} {Q : SQ} (q : Q (.bl false) M) : sNe (.lst (l.map f)) (.lst (l.map f)) M Q := by
  show sEqG true (.lst (l.map f)) (.lst (l.map f)) M Q
  exact ne_self (pyD_mapF h l) (pyD_mapF h l) (pyD_mapF h l) (dep_mapF hd hn l) q
theorem ne_steps (l : List Step) {M : Mem} {Q : SQ} (q : Q (.bl false) M) : sNe (.lst (l.map stepD)) (.lst (l.map stepD)) M Q :=
  ne_mapF (g := stepP) (n := 2) (fun _ => rfl) (fun _ => Nat.le_refl 2) (by decide) l q
theorem ne_ints (l : List Int) {M : Mem} {Q : SQ} (q : Q (.bl false) M) : sNe (.lst (l.map D.int)) (.lst (l.map D.int)) M Q :=
  ne_mapF (g := PyData.int) (n := 0) (fun _ => rfl) (fun _ => Nat.le_refl 0) (by decide) l q
/-! ### landings -/
def stBl (l : List Step) (i : Nat) : Bool := (l.getD i ((0, 0), false)).2
def landsM (l : List Step) : List Int := ((List.range (l.length - 1)).filter fun k => stBl l (k + 1) && !stBl l k).map fun (k : Nat) => (k : Int) + 1
/-! ### flights -/
def topAt (l : List Step) (i : Nat) : Int := (l.getD i ((0, 0), false)).1.2
def mx : List Int → Int
  | [] => 0
  | x :: xs => max x (mx xs)
theorem mx_ge : ∀ {xs : List Int} {x : Int}, x ∈ xs → x ≤ mx xs
  | y :: ys, x, h => by
    show x ≤ max y (mx ys)
    rcases List.mem_cons.mp h with rfl | h
    · omega
    · have := mx_ge h; omega
theorem mx_nn : ∀ xs : List Int, 0 ≤ mx xs
  | [] => Int.le_refl 0
  | y :: ys => by show 0 ≤ max y (mx ys); have := mx_nn ys; omega
theorem mx_is : ∀ xs : List Int, mx xs = 0 ∨ mx xs ∈ xs
  | [] => .inl rfl
  | y :: ys => by
    rcases Int.le_total y (mx ys) with h | h
    · have e : mx (y :: ys) = mx ys := by show max y (mx ys) = _; omega
      rw [e]
      rcases mx_is ys with q | q
      · exact .inl q
      · exact .inr (List.mem_cons_of_mem _ q)
    · have e : mx (y :: ys) = y := by show max y (mx ys) = _; omega
      rw [e]
      exact .inr List.mem_cons_self
theorem mx_uniq {xs : List Int} {m : Int} (h1 : m = 0 ∨ m ∈ xs) (h2 : 0 ≤ m) (h3 : ∀ x ∈ xs, x ≤ m) : m = mx xs := by
  have a : m ≤ mx xs := by
    rcases h1 with rfl | h1
    · exact mx_nn xs
    · exact mx_ge h1
  have b : mx xs ≤ m := by
    rcases mx_is xs with q | q
    · rw [q]; exact h2
    · exact h3 _ q
  omega
/-- how high a flight b .. n went -/
def hgt (l : List Step) (b n : Nat) : Int := mx ((List.range (n + 1 - b)).map fun k => topAt l (b - 1) - topAt l (b + k))
abbrev Flight := Nat × Nat × Int
def flD (f : Flight) : D := .tup [.int (f.1 : Int), .int (f.2.1 : Int), .int f.2.2]
def goF (l : List Step) : Nat → Option Nat → List Step → List Flight
  | _, _, [] => []
  | i, b, p :: r => match (if p.2 = false ∧ b = none then some i else b) with
    | some b0 => if p.2 = true ∨ r = [] then (b0, (if p.2 = true then i - 1 else i), hgt l b0 (if p.2 = true then i - 1 else i)) :: goF l (i + 1) none r else goF l (i + 1) (some b0) r
    | none => goF l (i + 1) none r
theorem goF_std {l : List Step} {i : Nat} {p : Step} {r : List Step} (h : p.2 = true) : goF l i none (p :: r) = goF l (i + 1) none r := by
  unfold goF
  rw [if_neg (fun z => by rw [h] at z; cases z.1)]
  cases r <;> rfl
theorem goF_run {l : List Step} {b e : Nat} (hel : e ≤ l.length) (he : e = l.length ∨ stBl l e = true) : ∀ (n i : Nat), n = e - i → b < i → i ≤ e → i < l.length → (∀ j, i ≤ j → j < e → stBl l j = false) →
    goF l i (some b) (l.drop i) = (b, e - 1, hgt l b (e - 1)) :: goF l e none (l.drop e) := by
  intro n
  induction n with
  | zero =>
    intro i hn hb hi hil hj
    have : i = e := by omega
    subst this
    have hs : stBl l i = true := he.resolve_left (by omega)
    rw [List.drop_eq_getElem_cons hil]
    have hp : (l[i]).2 = true := by
      unfold stBl at hs
      rw [List.getD_eq_getElem?_getD, List.getElem?_eq_getElem hil] at hs
      exact hs
    rw [goF_std hp]
    unfold goF
    rw [if_neg (fun z => by rw [hp] at z; cases z.1)]
    dsimp only
    rw [if_pos (.inl hp), if_pos hp]
    cases l.drop (i + 1) <;> rfl
  | succ n ih =>
    intro i hn hb hi hil hj
    have hs : stBl l i = false := hj i (Nat.le_refl i) (by omega)
    have hp : (l[i]).2 = false := by
      unfold stBl at hs
      rw [List.getD_eq_getElem?_getD, List.getElem?_eq_getElem hil] at hs
      exact hs
    have hpn : ¬ (l[i]).2 = true := by rw [hp]; exact Bool.false_ne_true
    rw [List.drop_eq_getElem_cons hil]
    by_cases q : i + 1 = l.length
    · have hd : l.drop (i + 1) = [] := List.drop_eq_nil_of_le (by omega)
      have hee : e = i + 1 := by omega
      subst hee
      rw [hd]
      unfold goF
      rw [if_neg (fun z => by cases z.2)]
      dsimp only
      rw [if_pos (.inr rfl), if_neg hpn]
      rfl
    · have hd : l.drop (i + 1) ≠ [] := fun z => by
        have := List.drop_eq_nil_iff.mp z
        omega
      rw [← ih (i + 1) (by omega) (by omega) (by omega) (by omega) fun j h1 h2 => hj j (by omega) h2]
      rw [goF]
      rw [if_neg (fun z => by cases z.2)]
      dsimp only
      rw [if_neg (fun z => z.elim hpn hd)]
/-- one turn of the law's own loop -/
theorem goF_turn {l : List Step} {a e : Nat} (ha : a < l.length) (hae : a ≤ e) (hel : e ≤ l.length) (he : e = l.length ∨ stBl l e = true) (hj : ∀ j, a ≤ j → j < e → stBl l j = false) :
    goF l a none (l.drop a) = if a < e then (a, e - 1, hgt l a (e - 1)) :: goF l e none (l.drop e) else goF l (a + 1) none (l.drop (a + 1)) := by
  rw [List.drop_eq_getElem_cons ha]
  by_cases q : a < e
  · rw [if_pos q]
    have hs := hj a (Nat.le_refl a) q
    have hp : (l[a]).2 = false := by
      unfold stBl at hs
      rw [List.getD_eq_getElem?_getD, List.getElem?_eq_getElem ha] at hs
      exact hs
    have hpn : ¬ (l[a]).2 = true := by rw [hp]; exact Bool.false_ne_true
    by_cases q2 : a + 1 = l.length
    · have hd : l.drop (a + 1) = [] := List.drop_eq_nil_of_le (by omega)
      have hee : e = a + 1 := by omega
      subst hee
      rw [hd]
      unfold goF
      rw [if_pos ⟨hp, rfl⟩]
      dsimp only
      rw [if_pos (.inr rfl), if_neg hpn]
      rfl
    · have hd : l.drop (a + 1) ≠ [] := fun z => by
        have := List.drop_eq_nil_iff.mp z
        omega
      rw [← goF_run hel he (e - (a + 1)) (a + 1) rfl (by omega) (by omega) (by omega) fun j h1 h2 => hj j (by omega) h2]
      rw [goF, if_pos ⟨hp, rfl⟩]
      dsimp only
      rw [if_neg (fun z => z.elim hpn hd)]
  · rw [if_neg q]
    have hea : e = a := by omega
    subst hea
    have hs : stBl l e = true := he.resolve_left (by omega)
    have hp : (l[e]).2 = true := by
      unfold stBl at hs
      rw [List.getD_eq_getElem?_getD, List.getElem?_eq_getElem ha] at hs
      exact hs
    exact goF_std hp
theorem flD_p (f : Flight) : pyD (flD f) = some (.tuple [.int (f.1 : Int), .int (f.2.1 : Int), .int f.2.2]) := rfl
theorem ne_flights (l : List Flight) {M : Mem} {Q : SQ} (q : Q (.bl false) M) : sNe (.lst (l.map flD)) (.lst (l.map flD)) M Q :=
  ne_mapF (g := fun f => .tuple [.int (f.1 : Int), .int (f.2.1 : Int), .int f.2.2]) (n := 1) flD_p (fun _ => Nat.le_refl 1) (by decide) l q
/-! ### apart -/
def placeAt (l : List Step) (i : Nat) : Int × Int := (l.getD i ((0, 0), false)).1
def apM (a b : List Step) (n : Nat) : Option Nat := (List.range n).find? fun i => !decide (placeAt a i = placeAt b i)
def optD : Option Nat → D
  | some i => .int (i : Int)
  | none => .non
theorem apM_comm (a b : List Step) (n : Nat) : apM a b n = apM b a n := by
  unfold apM
  congr 1
  funext i
  rw [decide_eq_decide.mpr (show placeAt a i = placeAt b i ↔ placeAt b i = placeAt a i from eq_comm)]
theorem apM_self (a : List Step) (n : Nat) : apM a a n = none := by
  unfold apM
  rw [List.find?_eq_none]
  intro i hi
  rw [decide_eq_true rfl]
  exact Bool.false_ne_true
theorem step_at {L : List J.Step} {i : Nat} (h : i < L.length) : ∃ p, L[i]? = some p ∧ stBl L i = p.2 ∧ topAt L i = p.1.2 ∧ placeAt L i = p.1 ∧ ∀ k : Int, k = (i : Int) → atI (L.map stepD) k = some (stepD p) := by
  refine ⟨L[i], List.getElem?_eq_getElem h, ?_, ?_, ?_, fun k hk => ?_⟩
  · unfold stBl; rw [List.getD_eq_getElem?_getD, List.getElem?_eq_getElem h]; rfl
  · unfold topAt; rw [List.getD_eq_getElem?_getD, List.getElem?_eq_getElem h]; rfl
  · unfold placeAt; rw [List.getD_eq_getElem?_getD, List.getElem?_eq_getElem h]; rfl
  · subst hk
    exact ix_nat (by rw [List.getElem?_map, List.getElem?_eq_getElem h]; rfl)
/-- whether a number is that of a landing -/
def landP (L : List J.Step) : D → Bool
  | .int i => stBl L i.toNat && !stBl L (i - 1).toNat
  | _ => false
theorem lands_eq (L : List J.Step) : ((upTo 1 ((L.length : Int) - 1).toNat).filter (landP L)).map id = (landsM L).map D.int := by
  unfold landsM upTo
  rw [List.map_id, List.filter_map, List.map_map, show ((L.length : Int) - 1).toNat = L.length - 1 by omega]
  have e : (landP L ∘ fun (i : Nat) => D.int (1 + (i : Int))) = fun k => stBl L (k + 1) && !stBl L k := by
    funext k
    show (stBl L (1 + (k : Int)).toNat && !stBl L (1 + (k : Int) - 1).toNat) = _
    rw [show (1 + (k : Int)).toNat = k + 1 by omega, show (1 + (k : Int) - 1).toNat = k by omega]
  rw [e]
  refine List.map_congr_left fun k hk => ?_
  show D.int (1 + (k : Int)) = D.int ((k : Int) + 1)
  rw [Int.add_comm]
/-- the tops of some steps -/
def topsOf (L : List J.Step) (b n : Nat) : List Int := ((L.drop b).take n).map fun p => p.1.2
theorem tops_mem {L : List J.Step} {b n : Nat} {t : Int} (h : t ∈ topsOf L b n) : ∃ j, b ≤ j ∧ j < b + n ∧ j < L.length ∧ t = topAt L j := by
  obtain ⟨p, hp, rfl⟩ := List.mem_map.mp h
  obtain ⟨k, hk⟩ := List.getElem?_of_mem hp
  have hk1 := (List.getElem?_eq_some_iff.mp hk).1
  rw [List.length_take, List.length_drop] at hk1
  rw [List.getElem?_take_of_lt (by omega), List.getElem?_drop] at hk
  refine ⟨b + k, by omega, by omega, by omega, ?_⟩
  unfold topAt
  rw [List.getD_eq_getElem?_getD, hk]; rfl
theorem tops_has {L : List J.Step} {b n j : Nat} (h1 : b ≤ j) (h2 : j < b + n) (h3 : j < L.length) : topAt L j ∈ topsOf L b n := by
  obtain ⟨p, hp, -, ht, -⟩ := step_at h3
  rw [ht]
  refine List.mem_map_of_mem (f := fun p : J.Step => p.1.2) (List.mem_of_getElem? (i := j - b) ?_)
  rw [List.getElem?_take_of_lt (by omega), List.getElem?_drop, show b + (j - b) = j by omega]
  exact hp
/-- the height, by the least of the tops from one ahead on -/
theorem hgt_min {L : List J.Step} {b n : Nat} {m : Int} (hbn : b ≤ n) (hn : n < L.length) (h1 : m ∈ topsOf L (b - 1) (n + 1 - (b - 1))) (h2 : ∀ y, y ∈ topsOf L (b - 1) (n + 1 - (b - 1)) → m ≤ y) : topAt L (b - 1) - m = hgt L b n := by
  have h0 := h2 _ (tops_has (L := L) (b := b - 1) (n := n + 1 - (b - 1)) (Nat.le_refl _) (by omega) (by omega))
  refine mx_uniq ?_ (by omega) fun x hx => ?_
  · obtain ⟨j, j1, j2, j3, rfl⟩ := tops_mem h1
    by_cases q : b ≤ j
    · exact .inr (List.mem_map.mpr ⟨j - b, List.mem_range.mpr (by omega), by rw [show b + (j - b) = j by omega]⟩)
    · rw [show j = b - 1 by omega]; exact .inl (by omega)
  · obtain ⟨k, hk, rfl⟩ := List.mem_map.mp hx
    have hk := List.mem_range.mp hk
    have := h2 _ (tops_has (L := L) (b := b - 1) (n := n + 1 - (b - 1)) (j := b + k) (by omega) (by omega) (by omega))
    omega
/-- .. by the greatest of what is higher -/
theorem hgt_max {L : List J.Step} {b n : Nat} {m : Int} (hbn : b ≤ n) (hn : n < L.length) (h1 : m ∈ 0 :: (topsOf L b (n + 1 - b)).map fun t => topAt L (b - 1) - t) (h2 : ∀ y, y ∈ 0 :: (topsOf L b (n + 1 - b)).map (fun t => topAt L (b - 1) - t) → y ≤ m) : m = hgt L b n := by
  have same : ∀ x, x ∈ (topsOf L b (n + 1 - b)).map (fun t => topAt L (b - 1) - t) ↔ x ∈ (List.range (n + 1 - b)).map fun k => topAt L (b - 1) - topAt L (b + k) := fun x => by
    constructor
    · intro hx
      obtain ⟨t, ht, rfl⟩ := List.mem_map.mp hx
      obtain ⟨j, j1, j2, j3, rfl⟩ := tops_mem ht
      exact List.mem_map.mpr ⟨j - b, List.mem_range.mpr (by omega), by rw [show b + (j - b) = j by omega]⟩
    · intro hx
      obtain ⟨k, hk, rfl⟩ := List.mem_map.mp hx
      have hk := List.mem_range.mp hk
      exact List.mem_map.mpr ⟨_, tops_has (b := b) (j := b + k) (by omega) (by omega) (by omega), rfl⟩
  refine mx_uniq ?_ (h2 0 List.mem_cons_self) fun x hx => h2 x (List.mem_cons_of_mem _ ((same x).mpr hx))
  rcases List.mem_cons.mp h1 with h | h
  · exact .inl h
  · exact .inr ((same m).mp h)
theorem cut_steps {L : List J.Step} {lo hi : Nat} (h1 : lo ≤ L.length) (h2 : hi ≤ L.length) : cutD (L.map stepD) (some (lo : Int)) (some (hi : Int)) = ((L.drop lo).take (hi - lo)).map stepD := by
  unfold cutD
  rw [HT.sIx_nat, HT.sIx_nat, List.length_map, Nat.min_eq_left h1, Nat.min_eq_left h2, List.map_take, List.map_drop]
/-- what is lower in a list, what is greater -/
def IsMin (xs : List Int) (m : Int) : Prop := m ∈ xs ∧ ∀ y, y ∈ xs → m ≤ y
def IsMax (xs : List Int) (m : Int) : Prop := m ∈ xs ∧ ∀ y, y ∈ xs → y ≤ m
theorem IsMin.uniq {xs : List Int} {a b : Int} (h : IsMin xs a) (k : IsMin xs b) : a = b := Int.le_antisymm (h.2 _ k.1) (k.2 _ h.1)
theorem IsMax.uniq {xs : List Int} {a b : Int} (h : IsMax xs a) (k : IsMax xs b) : a = b := Int.le_antisymm (k.2 _ h.1) (h.2 _ k.1)
def leftsOf (L : List J.Step) : List Int := L.map fun p => p.1.1
def topsAll (L : List J.Step) : List Int := L.map fun p => p.1.2
theorem flights_lt (ps : List Flight) (n : Nat) : (D.lst (ps.map flD)).lt n = true := by
  show D.ltL n (ps.map flD) = true
  induction ps with
  | nil => rfl
  | cons r t ih => show (true && D.ltL n (t.map flD)) = true; rw [ih]; rfl
theorem py_steps (L : List J.Step) : pyD (.lst (L.map stepD)) = some (.list (L.map stepP)) := pyD_mapF (fun _ => rfl) L
theorem de_steps (L : List J.Step) : min (PyData.list (L.map stepP)).depth (PyData.list (L.map stepP)).depth ≤ 60 := by
  rw [Nat.min_self]; exact dep_mapF (g := stepP) (n := 2) (fun _ => Nat.le_refl 2) (by decide) L
theorem py_ints (L : List Int) : pyD (.lst (L.map D.int)) = some (.list (L.map PyData.int)) := pyD_mapF (fun _ => rfl) L
theorem de_ints (L : List Int) : min (PyData.list (L.map PyData.int)).depth (PyData.list (L.map PyData.int)).depth ≤ 60 := by
  rw [Nat.min_self]; exact dep_mapF (g := PyData.int) (n := 0) (fun _ => Nat.le_refl 0) (by decide) L
def flP (f : Flight) : PyData := .tuple [.int (f.1 : Int), .int (f.2.1 : Int), .int f.2.2]
theorem py_flights (L : List Flight) : pyD (.lst (L.map flD)) = some (.list (L.map flP)) := pyD_mapF (fun _ => rfl) L
theorem de_flights (L : List Flight) : min (PyData.list (L.map flP)).depth (PyData.list (L.map flP)).depth ≤ 60 := by
  rw [Nat.min_self]; exact dep_mapF (g := flP) (n := 1) (fun _ => Nat.le_refl 1) (by decide) L
theorem due_head {n : Nat} (p : Nat → Bool) : atI (((List.range n).filter p).map (fun (k : Nat) => D.int (0 + (k : Int))) ++ [D.non]) 0 = some (optD ((List.range n).find? p)) := by
  rw [← List.head?_filter]
  cases (List.range n).filter p with
  | nil => rfl
  | cons k r =>
    refine (atI_zero (x := D.int (0 + (k : Int)))).trans ?_
    rw [Int.zero_add]; rfl
theorem cut_pre {α : Type} (f : α → D) (xs : List α) (n : Int) : ∃ k, cutD (xs.map f) none (some n) = (xs.take k).map f := by
  refine ⟨HT.sIx (xs.map f).length (xs.map f).length (some n), ?_⟩
  unfold cutD
  rw [HT.sIx_none, List.drop_zero, Nat.sub_zero, List.map_take]
end J

namespace J
open PySem PySem.Spec PyProof.Rows L2
-- @use Tx
-- @use M71
/-! ### courses -/
structure CO where
  e : Wd
  x : Int
  y : Int
  us : List (Int × Int)
  g : Int × Int
structure CT where
  zs : List Str
  gone : List Str
  s : RS
  got : List (Nat × Nat)
  re : Option Nat
def covB (s : RS) (u : Int × Int) : Bool := (decide (s.x ≤ u.1) && decide (u.1 < s.x + 6)) && (decide (s.y ≤ u.2) && decide (u.2 < s.y + 10))
def isGot (got : List (Nat × Nat)) (n : Nat) : Bool := got.any fun p => decide (p.1 = n)
def selM (P : Nat → Int × Int → Bool) : Nat → List (Int × Int) → List Nat
  | _, [] => []
  | k, u :: us => if P k u = true then k :: selM P (k + 1) us else selM P (k + 1) us
def foundM (o : CO) (t : CT) : List Nat := selM (fun n u => !isGot t.got n && covB t.s u) 0 o.us
def lookM (o : CO) (t : CT) : CT := { t with
  got := t.got ++ (foundM o t).map (fun n => (n, t.s.t.toNat))
  re := match t.re with
    | some r => some r
    | none => if covB t.s o.g = true then some t.s.t.toNat else none }
def rawC (o : CO) : CT := ⟨[], [], ⟨0, o.x, o.y, 0, 0, false⟩, [], none⟩
def beginM (o : CO) : CT := lookM o (rawC o)
def tickC (o : CO) (z : Str) (t : CT) : CT := { t with zs := t.zs ++ [z], s := tickM o.e z t.s }
def goM (o : CO) (z : Str) (t : CT) : CT := lookM o (tickC o z t)
def runC (o : CO) (zs : List Str) (t : CT) : CT := zs.foldl (fun t z => goM o z t) t
def kvD (p : Nat × Nat) : Int × D := ((p.1 : Int), .int (p.2 : Int))
def courseO (K : PySem.W.Frag) (w r q g : Nat) (o : CO) (t : CT) : MO := .ins (He.ga K "Course") ["runner", "begun", "things", "goal", "rows", "gone_back", "got", "reached"]
  [some (.ref r), some (.tup [.ref w, .int o.x, .int o.y]), some (.lst (o.us.map placeD)), some (placeD o.g), some (.ref q), some (.lst (t.gone.map D.str)), some (.ref g), some (optD t.re)]
theorem selM_mem {P : Nat → Int × Int → Bool} : ∀ {us : List (Int × Int)} {k n : Nat}, n ∈ selM P k us → k ≤ n ∧ n < k + us.length ∧ ∃ u, us[n - k]? = some u ∧ P n u = true
  | [], _, _, h => nomatch h
  | u :: us, k, n, h => by
    unfold selM at h
    have tl : n ∈ selM P (k + 1) us → k ≤ n ∧ n < k + (u :: us).length ∧ ∃ v, (u :: us)[n - k]? = some v ∧ P n v = true := fun h => by
      obtain ⟨h1, h2, v, h3, h4⟩ := selM_mem h
      rw [List.length_cons]
      refine ⟨by omega, by omega, v, ?_, h4⟩
      rw [show n - k = (n - (k + 1)) + 1 by omega, List.getElem?_cons_succ]
      exact h3
    split at h
    · rename_i hp
      rcases List.mem_cons.mp h with rfl | h
      · rw [List.length_cons]
        exact ⟨Nat.le_refl _, by omega, u, by rw [Nat.sub_self]; rfl, hp⟩
      · exact tl h
    · exact tl h
theorem selM_nodup {P : Nat → Int × Int → Bool} : ∀ (us : List (Int × Int)) (k : Nat), (selM P k us).Pairwise (· < ·)
  | [], _ => .nil
  | u :: us, k => by
    unfold selM
    split
    · refine List.Pairwise.cons (fun n hn => ?_) (selM_nodup us (k + 1))
      have := (selM_mem hn).1
      omega
    · exact selM_nodup us (k + 1)
theorem selM_len {P : Nat → Int × Int → Bool} : ∀ (us : List (Int × Int)) (k : Nat), (selM P k us).length ≤ us.length
  | [], _ => Nat.le_refl _
  | u :: us, k => by
    unfold selM
    have := selM_len (P := P) us (k + 1)
    rw [List.length_cons]
    split
    · rw [List.length_cons]; omega
    · omega
theorem lookI_got {got : List (Nat × Nat)} {n : Nat} : (lookI (got.map kvD) (n : Int)).isSome = isGot got n := by
  induction got with
  | nil => rfl
  | cons p got ih =>
    show (if ((p.1 : Nat) : Int) = (n : Int) then some (D.int (p.2 : Int)) else lookI (got.map kvD) (n : Int)).isSome = (decide (p.1 = n) || isGot got n)
    by_cases h : p.1 = n
    · rw [if_pos (by omega), decide_eq_true h]; rfl
    · rw [if_neg (by omega), decide_eq_false h, Bool.false_or]; exact ih
theorem lookI_free {got : List (Nat × Nat)} {n : Nat} (h : isGot got n = false) : lookI (got.map kvD) (n : Int) = none := by
  have := lookI_got (got := got) (n := n)
  rw [h] at this
  cases q : lookI (got.map kvD) (n : Int) with
  | none => rfl
  | some d => rw [q] at this; cases this
theorem lookI_at {got : List (Nat × Nat)} {p : Nat × Nat} (hn : (got.map (·.1)).Nodup) (h : p ∈ got) : lookI (got.map kvD) (p.1 : Int) = some (.int (p.2 : Int)) := by
  induction got with
  | nil => cases h
  | cons q got ih =>
    rw [List.map_cons, List.nodup_cons] at hn
    show (if ((q.1 : Nat) : Int) = (p.1 : Int) then some (D.int (q.2 : Int)) else lookI (got.map kvD) (p.1 : Int)) = _
    rcases List.mem_cons.mp h with rfl | h
    · rw [if_pos rfl]
    · rw [if_neg (fun e => hn.1 (by have : q.1 = p.1 := by omega
                                    rw [this]; exact List.mem_map_of_mem h))]
      exact ih hn.2 h
/-- what holds of what was taken -/
structure GotOk (o : CO) (t : CT) : Prop where
  nd : (t.got.map (·.1)).Nodup
  lt : ∀ p ∈ t.got, p.1 < o.us.length
theorem isGot_mem {got : List (Nat × Nat)} {n : Nat} : isGot got n = true ↔ n ∈ got.map (·.1) := by
  unfold isGot
  rw [List.any_eq_true, List.mem_map]
  exact ⟨fun ⟨p, h1, h2⟩ => ⟨p, h1, of_decide_eq_true h2⟩, fun ⟨p, h1, h2⟩ => ⟨p, h1, decide_eq_true h2⟩⟩
theorem range_len {l : List Nat} {n : Nat} (h : l.Nodup) (hl : ∀ x ∈ l, x < n) : l.length ≤ n := by
  have := L2.nat_nodup_len l (List.range n) h fun x hx => List.mem_range.mpr (hl x hx)
  rwa [List.length_range] at this
theorem GotOk.len {o : CO} {t : CT} (h : GotOk o t) : t.got.length ≤ o.us.length := by
  have := range_len h.nd (n := o.us.length) fun x hx => by
    obtain ⟨p, hp, rfl⟩ := List.mem_map.mp hx
    exact h.lt p hp
  rwa [List.length_map] at this
theorem GotOk.look {o : CO} {t : CT} (h : GotOk o t) : GotOk o (lookM o t) := by
  have e : (lookM o t).got = t.got ++ (foundM o t).map (fun n => (n, t.s.t.toNat)) := rfl
  have em : ((foundM o t).map (fun n => (n, t.s.t.toNat))).map (·.1) = foundM o t := by rw [List.map_map]; exact List.map_id _
  refine ⟨?_, fun p hp => ?_⟩
  · rw [e, List.map_append, em]
    refine List.nodup_append.mpr ⟨h.nd, List.Pairwise.imp (fun h => Nat.ne_of_lt h) (selM_nodup _ _), fun a ha b hb z => ?_⟩
    subst z
    obtain ⟨_, _, u, _, hP⟩ := selM_mem hb
    rw [Bool.and_eq_true, Bool.not_eq_true'] at hP
    rw [isGot_mem.mpr ha] at hP
    exact absurd hP.1 (by decide)
  · rw [e] at hp
    rcases List.mem_append.mp hp with hp | hp
    · exact h.lt p hp
    · obtain ⟨n, hn, rfl⟩ := List.mem_map.mp hp
      have := (selM_mem hn).2.1
      omega
/-! #### the store -/
def Frm (M M' : Mem) (S : List Nat) : Prop := M.length ≤ M'.length ∧ ∀ i, i < M.length → i ∉ S → M'[i]? = M[i]?
theorem Frm.refl (M : Mem) (S : List Nat) : Frm M M S := ⟨Nat.le_refl _, fun _ _ _ => rfl⟩
theorem Frm.trans {M M1 M2 : Mem} {S : List Nat} (a : Frm M M1 S) (b : Frm M1 M2 S) : Frm M M2 S := ⟨Nat.le_trans a.1 b.1, fun i h n => (b.2 i (Nat.lt_of_lt_of_le h a.1) n).trans (a.2 i h n)⟩
theorem Frm.set {M : Mem} {S : List Nat} {i : Nat} {o : MO} (h : i ∈ S) : Frm M (M.set i o) S := ⟨by rw [List.length_set]; exact Nat.le_refl _, fun j _ n => by
  rw [List.getElem?_set_ne]
  exact fun z => n (z ▸ h)⟩
theorem Frm.app (M E : Mem) (S : List Nat) : Frm M (M ++ E) S := ⟨by rw [List.length_append]; omega, fun j h _ => List.getElem?_append_left h⟩
theorem Frm.more {M M' : Mem} {S T : List Nat} (a : Frm M M' S) (h : ∀ i ∈ S, i ∈ T ∨ M.length ≤ i) : Frm M M' T := ⟨a.1, fun i hi n => a.2 i hi fun z => (h i z).elim n fun q => by omega⟩
theorem Frm.at {M M' : Mem} {S : List Nat} (a : Frm M M' S) {i : Nat} {o : MO} (h : M[i]? = some o) (n : i ∉ S) : M'[i]? = some o := (a.2 i (List.getElem?_eq_some_iff.mp h).1 n).trans h
structure IsC (K : PySem.W.Frag) (M : Mem) (c w r q g : Nat) (o : CO) (t : CT) : Prop where
  c : M[c]? = some (courseO K w r q g o t)
  r : M[r]? = some (runnerO K w t.s)
  q : M[q]? = some (.lst (t.zs.map D.str))
  g : M[g]? = some (.dic (t.got.map kvD))
  w : IsW K M w o.e
  ok : t.s.ok o.e
  go : GotOk o t
  us : o.us.length ≤ 20
def insLen : Option MO → Nat
  | some (.ins _ ks _) => ks.length + 10
  | some (.lst _) => 1
  | some (.dic _) => 2
  | _ => 0
structure Ne5 (c w r q g : Nat) : Prop where
  cr : c ≠ r
  cq : c ≠ q
  cg : c ≠ g
  cw : c ≠ w
  rq : r ≠ q
  rg : r ≠ g
  rw_ : r ≠ w
  qg : q ≠ g
  qw : q ≠ w
  gw : g ≠ w
theorem IsC.ne {K : PySem.W.Frag} {M : Mem} {c w r q g : Nat} {o : CO} {t : CT} (h : IsC K M c w r q g o t) : Ne5 c w r q g := by
  have hc : insLen M[c]? = 18 := by rw [h.c]; rfl
  have hr : insLen M[r]? = 17 := by rw [h.r]; rfl
  have hq : insLen M[q]? = 1 := by rw [h.q]; rfl
  have hg : insLen M[g]? = 2 := by rw [h.g]; rfl
  have hw : insLen M[w]? = 12 := by rw [h.w.1]; rfl
  refine ⟨?_, ?_, ?_, ?_, ?_, ?_, ?_, ?_, ?_, ?_⟩ <;> (intro z; subst z; omega)
theorem IsC.app {K : PySem.W.Frag} {M : Mem} {c w r q g : Nat} {o : CO} {t : CT} (h : IsC K M c w r q g o t) (E : Mem) : IsC K (M ++ E) c w r q g o t :=
  ⟨get_left h.c, get_left h.r, get_left h.q, get_left h.g, h.w.left, h.ok, h.go, h.us⟩
theorem IsC.fr {K : PySem.W.Frag} {M M' : Mem} {c w r q g : Nat} {o : CO} {t : CT} {S : List Nat} (h : IsC K M c w r q g o t) (f : Frm M M' S) (n : c ∉ S ∧ w ∉ S ∧ r ∉ S ∧ q ∉ S ∧ g ∉ S) : IsC K M' c w r q g o t :=
  ⟨f.at h.c n.1, f.at h.r n.2.2.1, f.at h.q n.2.2.2.1, f.at h.g n.2.2.2.2, isW (f.at h.w.1 n.2.1) h.w.ok, h.ok, h.go, h.us⟩
/-! #### things -/
def isUnit : D → Bool
  | .tup [a, b] => isCount a (-400) 400 && isCount b (-400) 400
  | _ => false
def unitB (u : Int × Int) : Prop := (-400 ≤ u.1 ∧ u.1 ≤ 400) ∧ (-400 ≤ u.2 ∧ u.2 ≤ 400)
theorem isUnit_iff {d : D} : isUnit d = true ↔ ∃ u, d = placeD u ∧ unitB u := by
  constructor
  · intro h
    unfold isUnit at h
    split at h
    · rename_i a b
      rw [Bool.and_eq_true] at h
      cases a with
      | int i =>
        cases b with
        | int j => exact ⟨(i, j), rfl, isCount_int.mp h.1, isCount_int.mp h.2⟩
        | _ => exact absurd (show false = true from h.2) Bool.false_ne_true
      | _ => exact absurd (show false = true from h.1) Bool.false_ne_true
    · cases h
  · rintro ⟨u, rfl, h1, h2⟩
    show (isCount (.int u.1) (-400) 400 && isCount (.int u.2) (-400) 400) = true
    rw [isCount_int.mpr h1, isCount_int.mpr h2]; rfl
theorem units_of {xs : List D} (h : xs.all isUnit = true) : ∃ us : List (Int × Int), xs = us.map placeD ∧ ∀ u ∈ us, unitB u := by
  induction xs with
  | nil => exact ⟨[], rfl, fun _ z => (nomatch z)⟩
  | cons x xs ih =>
    rw [List.all_cons, Bool.and_eq_true] at h
    obtain ⟨u, rfl, hu⟩ := isUnit_iff.mp h.1
    obtain ⟨us, rfl, hs⟩ := ih h.2
    exact ⟨u :: us, rfl, fun v hv => by
      rcases List.mem_cons.mp hv with rfl | hv
      · exact hu
      · exact hs v hv⟩
/-- a course that may be -/
def CourseOk (things goal : D) (us : List (Int × Int)) (g : Int × Int) : Prop := things = .lst (us.map placeD) ∧ goal = placeD g ∧ us.length ≤ 20 ∧ us.Nodup ∧ (∀ u ∈ us, unitB u) ∧ unitB g
/-- a thing whose kind shows, and that of what is in it -/
def PlainA (d : D) : Prop := ∀ M : Mem, Plain1 M d
/-! #### when all was done -/
def maxN : List Nat → Nat
  | [] => 0
  | n :: ns => max n (maxN ns)
theorem maxN_le : ∀ {ns : List Nat} {n : Nat}, n ∈ ns → n ≤ maxN ns
  | m :: ns, n, h => by
    show n ≤ max m (maxN ns)
    rcases List.mem_cons.mp h with rfl | h
    · exact Nat.le_max_left _ _
    · exact Nat.le_trans (maxN_le h) (Nat.le_max_right _ _)
theorem maxN_mem : ∀ {ns : List Nat}, ns ≠ [] → maxN ns ∈ ns
  | [], h => absurd rfl h
  | [n], _ => by show max n 0 ∈ [n]; rw [Nat.max_zero]; exact List.mem_singleton.mpr rfl
  | n :: m :: ns, _ => by
    have ih := maxN_mem (ns := m :: ns) (by simp)
    show max n (maxN (m :: ns)) ∈ _
    rcases Nat.le_total n (maxN (m :: ns)) with h | h
    · rw [Nat.max_eq_right h]; exact List.mem_cons_of_mem _ ih
    · rw [Nat.max_eq_left h]; exact List.mem_cons_self
theorem max_int {ns : List Nat} {m : Int} (hm : m ∈ ns.map fun (n : Nat) => (n : Int)) (h : ∀ y ∈ ns.map (fun (n : Nat) => (n : Int)), y ≤ m) : m = (maxN ns : Nat) := by
  obtain ⟨k, hk, rfl⟩ := List.mem_map.mp hm
  have h1 := maxN_le hk
  have h2 := h _ (List.mem_map_of_mem (maxN_mem (ns := ns) (by intro e; subst e; cases hk)))
  omega
def doneM (o : CO) (t : CT) : Option Nat := match t.re with
  | none => none
  | some r => if t.got.length < o.us.length then none else some (maxN (r :: t.got.map (·.2)))
def valOf (kvs : List (Int × D)) (x : D) : D := match x with
  | .int i => (lookI kvs i).getD .non
  | _ => .non
theorem got_vals {got : List (Nat × Nat)} (hn : (got.map (·.1)).Nodup) : ((got.map kvD).map fun kv => D.int kv.1).map (valOf (got.map kvD)) = got.map fun p => D.int (p.2 : Int) := by
  rw [List.map_map, List.map_map]
  refine List.map_congr_left fun p hp => ?_
  show (lookI (got.map kvD) (p.1 : Int)).getD .non = _
  rw [lookI_at hn hp]
  rfl
theorem cutD_tail (x : D) (xs : List D) : J.cutD (x :: xs) (some 1) none = xs := by
  unfold J.cutD
  rw [show HT.sIx (x :: xs).length 0 (some 1) = min 1 (x :: xs).length from HT.sIx_nat _ _ 1, HT.sIx_none, show min 1 (x :: xs).length = 1 by rw [List.length_cons]; omega]
  exact List.take_of_length_le (by rw [List.length_drop]; exact Nat.le_refl _)
theorem nodup_len {α : Type} [DecidableEq α] : ∀ (l m : List α), l.Nodup → (∀ x ∈ l, x ∈ m) → l.length ≤ m.length
  | [], _, _, _ => Nat.zero_le _
  | a :: l, m, h, hs => by
    rw [List.nodup_cons] at h
    have ha := hs a List.mem_cons_self
    have ih := nodup_len l (m.erase a) h.2 fun x hx => by
      have ne : x ≠ a := fun e => h.1 (by rw [← e]; exact hx)
      exact (List.mem_erase_of_ne ne).mpr (hs x (List.mem_cons_of_mem _ hx))
    rw [List.length_erase_of_mem ha] at ih
    have : 0 < m.length := List.length_pos_of_mem ha
    rw [List.length_cons]
    omega
theorem nodup_lt {α : Type} [DecidableEq α] : ∀ (m l : List α), ¬ m.Nodup → l.Nodup → (∀ x ∈ l, x ∈ m) → l.length < m.length
  | [], _, h, _, _ => absurd List.nodup_nil h
  | a :: m, l, h, hl, hs => by
    rw [List.length_cons]
    by_cases q : a ∈ m
    · have := nodup_len l m hl fun x hx => by
        rcases List.mem_cons.mp (hs x hx) with rfl | z
        · exact q
        · exact z
      omega
    · have hm : ¬ m.Nodup := fun z => h (List.nodup_cons.mpr ⟨q, z⟩)
      have ih := nodup_lt m (l.erase a) hm (hl.erase a) fun x hx => by
        have hx2 := List.mem_of_mem_erase hx
        rcases List.mem_cons.mp (hs x hx2) with rfl | z
        · exact absurd rfl ((List.Nodup.mem_erase_iff hl).mp hx).1
        · exact z
      have : l.length ≤ (l.erase a).length + 1 := by
        by_cases z : a ∈ l
        · rw [List.length_erase_of_mem z]; omega
        · rw [List.erase_of_not_mem z]; omega
      omega
theorem nodup_pairs {us : List (Int × Int)} : (us.map fun u => [u.1, u.2]).Nodup ↔ us.Nodup := by
  constructor
  · intro h
    exact List.Pairwise.of_map _ (fun a b hne e => hne (by rw [e])) h
  · intro h
    exact List.Pairwise.map _ (fun a b hne e => hne (by
      have e : [a.1, a.2] = [b.1, b.2] := e
      have h1 := (List.cons.inj e).1
      have h2 := (List.cons.inj (List.cons.inj e).2).1
      exact Prod.ext h1 h2)) h
/-- things that show whether they are a list of things -/
def PlainL (d : D) : Prop := (∃ xs, d = .lst xs ∧ (∀ x ∈ xs, PlainA x) ∧ xs.length ≤ 63) ∨ ∃ ty, (∀ M, tyN M d = some ty) ∧ isB ty .lst = false ∧ ∀ xs, d ≠ .lst xs
def goodB (d : D) : Bool := match d with
  | .lst xs => decide (xs.length ≤ 20) && xs.all isUnit
  | _ => false
theorem Frm.trans2 {M M1 M2 : Mem} {S T : List Nat} (a : Frm M M1 S) (b : Frm M1 M2 T) (h : ∀ i ∈ T, i ∈ S ∨ M.length ≤ i) : Frm M M2 S :=
  ⟨Nat.le_trans a.1 b.1, fun i hi n => (b.2 i (Nat.lt_of_lt_of_le hi a.1) fun z => (h i z).elim n fun q => by omega).trans (a.2 i hi n)⟩
theorem placeD_inj : ∀ {a b : List (Int × Int)}, a.map placeD = b.map placeD → a = b
  | [], [], _ => rfl
  | [], _ :: _, h => nomatch h
  | _ :: _, [], h => nomatch h
  | u :: a, v :: b, h => by
    obtain ⟨h1, h2⟩ := List.cons.inj h
    have h1 : D.tup [.int u.1, .int u.2] = D.tup [.int v.1, .int v.2] := h1
    injection h1 with h1
    obtain ⟨h3, h4⟩ := List.cons.inj h1
    obtain ⟨h4, _⟩ := List.cons.inj h4
    injection h3 with h3
    injection h4 with h4
    rw [placeD_inj h2, Prod.ext h3 h4]
theorem goodB_of {things goal : D} {us : List (Int × Int)} {u : Int × Int} (h : CourseOk things goal us u) : goodB things = true ∧ isUnit goal = true := by
  obtain ⟨rfl, rfl, h1, h2, h3, h4⟩ := h
  refine ⟨?_, isUnit_iff.mpr ⟨u, rfl, h4⟩⟩
  show (decide ((us.map placeD).length ≤ 20) && (us.map placeD).all isUnit) = true
  rw [Bool.and_eq_true, List.length_map]
  refine ⟨decide_eq_true h1, List.all_eq_true.mpr fun x hx => ?_⟩
  obtain ⟨v, hv, rfl⟩ := List.mem_map.mp hx
  exact isUnit_iff.mpr ⟨v, rfl, h3 v hv⟩
/-! #### back -/
theorem cutD_take (xs : List D) (m : Nat) : J.cutD xs none (some (m : Int)) = xs.take m := by
  unfold J.cutD
  rw [HT.sIx_nat, HT.sIx_none, List.drop_zero, Nat.sub_zero]
  by_cases h : m ≤ xs.length
  · rw [Nat.min_eq_left h]
  · rw [Nat.min_eq_right (show xs.length ≤ m by omega), List.take_of_length_le (Nat.le_refl _), List.take_of_length_le (by omega)]
theorem cutD_drop (xs : List D) (m : Nat) : J.cutD xs (some (m : Int)) none = xs.drop m := by
  unfold J.cutD
  rw [HT.sIx_nat, HT.sIx_none]
  by_cases h : m ≤ xs.length
  · rw [Nat.min_eq_left h]
    exact List.take_of_length_le (by rw [List.length_drop]; exact Nat.le_refl _)
  · rw [Nat.min_eq_right (show xs.length ≤ m by omega), List.drop_length, List.drop_eq_nil_of_le (show xs.length ≤ m by omega), List.take_nil]
def backM (o : CO) (k : Nat) (t : CT) : CT := runC o (t.zs.take (t.zs.length - k)) (lookM o { rawC o with gone := t.zs.drop (t.zs.length - k) ++ t.gone })
theorem runC_zs (o : CO) : ∀ (L : List Str) (t : CT), (runC o L t).zs = t.zs ++ L
  | [], t => (List.append_nil _).symm
  | z :: L, t => by
    show (runC o L (goM o z t)).zs = _
    rw [runC_zs o L]
    show (t.zs ++ [z]) ++ L = _
    rw [List.append_assoc]; rfl
theorem runC_snoc (o : CO) (L : List Str) (z : Str) (t : CT) : runC o (L ++ [z]) t = goM o z (runC o L t) := by
  unfold runC
  rw [List.foldl_append]; rfl
theorem runC_gone (o : CO) : ∀ (L : List Str) (t : CT), (runC o L t).gone = t.gone
  | [], t => rfl
  | z :: L, t => runC_gone o L (goM o z t)
theorem runC_s (o : CO) : ∀ (L : List Str) (t : CT), (runC o L t).s = afterM o.e L t.s
  | [], t => rfl
  | z :: L, t => runC_s o L (goM o z t)
/-- what was gone back is told aside -/
theorem look_aside (o : CO) (t : CT) (a : List Str) : lookM o { t with gone := a } = { lookM o t with gone := a } := rfl
theorem run_aside (o : CO) (a : List Str) : ∀ (L : List Str) (t : CT), runC o L { t with gone := a } = { runC o L t with gone := a }
  | [], _ => rfl
  | z :: L, t => run_aside o a L (goM o z t)
end J

namespace Fl
open PySem PySem.Spec PyProof.Rows L2 J

/-! one step of a reading; as many as go -/
local macro_rules
  | `(tactic| tm_at "j") => `(tactic| first
      | exact .inl (by assumption)
      | (refine ⟨le_line rfl, ?_⟩)
      | (refine ⟨⟨by decide, by decide⟩, ?_⟩)
      | (refine ⟨.inl (.inl ⟨by decide, by decide⟩), ?_⟩)
      | (refine ⟨.inl (.inr ⟨by decide, by decide⟩), ?_⟩)
      | (refine ⟨by decide, ?_⟩)
      | (refine ⟨fun _ => ?_, fun z => Bool.noConfusion z⟩)
      | (refine ⟨fun z => Bool.noConfusion z, fun _ => ?_⟩)
      | (refine ⟨fun hb => ?_, fun hb => ?_⟩)
      | (refine ⟨rfl, ?_⟩)
      | (refine ⟨_, rfl, ?_⟩)
      | (refine ⟨_, (by assumption), ?_⟩)
      | (refine ⟨_, _, rfl, rfl, ?_⟩)
      | (refine ⟨_, _, _, (by assumption), rfl, rfl, ?_⟩))
  | `(tactic| tm_at "js") => `(tactic| repeat' (tm_at "j"))

def top (i : Nat) : Stmt := PySem.Challenge.pw_floorrun_k81_courses_refused.main.body.getD i (.Pass ⟨0, 0, 0, 0⟩)
abbrev s_is_count : Stmt := (top 15)
abbrev s_need_map : Stmt := (top 16)
abbrev s_size : Stmt := (top 17)
abbrev s_tile : Stmt := (top 18)
abbrev s_solid : Stmt := (top 19)
abbrev s_is_ledge : Stmt := (top 20)
abbrev s_is_lift : Stmt := (top 23)
abbrev s_need_lift : Stmt := (top 24)
abbrev s_way_gone : Stmt := (top 25)
abbrev s_place : Stmt := (top 26)
abbrev s_need_keys : Stmt := (top 32)
abbrev s_Runner_init : Stmt := (inClass (top 33) 0)
abbrev s_Runner_at : Stmt := (inClass (top 33) 1)
abbrev s_Runner_pace : Stmt := (inClass (top 33) 2)
abbrev s_Runner_clock : Stmt := (inClass (top 33) 3)
abbrev s_Runner_stands : Stmt := (inClass (top 33) 4)
abbrev s_Runner_is_standing : Stmt := (inClass (top 33) 5)
abbrev s_Runner_tick : Stmt := (inClass (top 33) 6)
abbrev s_Runner_be_carried : Stmt := (inClass (top 33) 7)
abbrev s_Runner_speed_up : Stmt := (inClass (top 33) 8)
abbrev s_Runner_leap : Stmt := (inClass (top 33) 9)
abbrev s_Runner_go_across : Stmt := (inClass (top 33) 10)
abbrev s_Runner_step_across : Stmt := (inClass (top 33) 11)
abbrev s_Runner_step_down : Stmt := (inClass (top 33) 12)
abbrev s_Runner_go_down : Stmt := (inClass (top 33) 13)
abbrev s_written : Stmt := (top 35)
abbrev s_World_init : Stmt := (inClass (top 40) 0)
abbrev s_World_is_free : Stmt := (inClass (top 40) 1)
abbrev s_World_under : Stmt := (inClass (top 40) 2)
abbrev s_World_is_on_ledge : Stmt := (inClass (top 40) 3)
abbrev s_World_is_on_floor : Stmt := (inClass (top 40) 4)
abbrev s_World_need_place : Stmt := (inClass (top 40) 5)
abbrev s_is_unit : Stmt := (top 43)
abbrev s_Course_init : Stmt := (inClass (top 44) 0)
abbrev s_Course_covers : Stmt := (inClass (top 44) 1)
abbrev s_Course_look : Stmt := (inClass (top 44) 2)
abbrev s_Course_tick : Stmt := (inClass (top 44) 3)
abbrev s_Course_go : Stmt := (inClass (top 44) 4)
abbrev s_Course_back : Stmt := (inClass (top 44) 5)
abbrev s_Course_again : Stmt := (inClass (top 44) 6)
abbrev s_Course_at : Stmt := (inClass (top 44) 7)
abbrev s_Course_clock : Stmt := (inClass (top 44) 8)
abbrev s_Course_taken : Stmt := (inClass (top 44) 9)
abbrev s_Course_left_over : Stmt := (inClass (top 44) 10)
abbrev s_Course_done : Stmt := (inClass (top 44) 11)
abbrev s_Course_tape : Stmt := (inClass (top 44) 12)
abbrev s_steps : Stmt := (top 46)
abbrev s_landings : Stmt := (top 47)
abbrev s_flights : Stmt := (top 48)
abbrev s_reach : Stmt := (top 49)
abbrev s_apart : Stmt := (top 50)
abbrev s__law_cell : Stmt := (top 52)
abbrev s__law_drawn : Stmt := (top 53)
abbrev s__law_word : Stmt := (top 54)
abbrev s__law_told : Stmt := (top 55)
abbrev s__law_trails_bad : Stmt := (top 56)
abbrev s_law : Stmt := (top 57)
def d_is_count : He.DefD := ⟨("is_count", none), "is_count", "is_count", defArgs s_is_count, defBody s_is_count, defScope s_is_count, [], []⟩
def d_need_map : He.DefD := ⟨("need_map", none), "need_map", "need_map", defArgs s_need_map, defBody s_need_map, defScope s_need_map, [], []⟩
def d_size : He.DefD := ⟨("size", none), "size", "size", defArgs s_size, defBody s_size, defScope s_size, [], []⟩
def d_tile : He.DefD := ⟨("tile", none), "tile", "tile", defArgs s_tile, defBody s_tile, defScope s_tile, [], []⟩
def d_solid : He.DefD := ⟨("solid", none), "solid", "solid", defArgs s_solid, defBody s_solid, defScope s_solid, [], []⟩
def d_is_ledge : He.DefD := ⟨("is_ledge", none), "is_ledge", "is_ledge", defArgs s_is_ledge, defBody s_is_ledge, defScope s_is_ledge, [], []⟩
def d_is_lift : He.DefD := ⟨("is_lift", none), "is_lift", "is_lift", defArgs s_is_lift, defBody s_is_lift, defScope s_is_lift, [], []⟩
def d_need_lift : He.DefD := ⟨("need_lift", none), "need_lift", "need_lift", defArgs s_need_lift, defBody s_need_lift, defScope s_need_lift, [], []⟩
def d_way_gone : He.DefD := ⟨("way_gone", none), "way_gone", "way_gone", defArgs s_way_gone, defBody s_way_gone, defScope s_way_gone, [], []⟩
def d_place : He.DefD := ⟨("place", none), "place", "place", defArgs s_place, defBody s_place, defScope s_place, [], []⟩
def d_need_keys : He.DefD := ⟨("need_keys", none), "need_keys", "need_keys", defArgs s_need_keys, defBody s_need_keys, defScope s_need_keys, [], []⟩
def d_Runner_init : He.DefD := ⟨("Runner", some "__init__"), "__init__", "Runner.__init__", defArgs s_Runner_init, defBody s_Runner_init, defScope s_Runner_init, [], []⟩
def d_Runner_at : He.DefD := ⟨("Runner", some "at"), "at", "Runner.at", defArgs s_Runner_at, defBody s_Runner_at, defScope s_Runner_at, [], []⟩
def d_Runner_pace : He.DefD := ⟨("Runner", some "pace"), "pace", "Runner.pace", defArgs s_Runner_pace, defBody s_Runner_pace, defScope s_Runner_pace, [], []⟩
def d_Runner_clock : He.DefD := ⟨("Runner", some "clock"), "clock", "Runner.clock", defArgs s_Runner_clock, defBody s_Runner_clock, defScope s_Runner_clock, [], []⟩
def d_Runner_stands : He.DefD := ⟨("Runner", some "stands"), "stands", "Runner.stands", defArgs s_Runner_stands, defBody s_Runner_stands, defScope s_Runner_stands, [], []⟩
def d_Runner_is_standing : He.DefD := ⟨("Runner", some "is_standing"), "is_standing", "Runner.is_standing", defArgs s_Runner_is_standing, defBody s_Runner_is_standing, defScope s_Runner_is_standing, [], []⟩
def d_Runner_tick : He.DefD := ⟨("Runner", some "tick"), "tick", "Runner.tick", defArgs s_Runner_tick, defBody s_Runner_tick, defScope s_Runner_tick, [], []⟩
def d_Runner_be_carried : He.DefD := ⟨("Runner", some "be_carried"), "be_carried", "Runner.be_carried", defArgs s_Runner_be_carried, defBody s_Runner_be_carried, defScope s_Runner_be_carried, [], []⟩
def d_Runner_speed_up : He.DefD := ⟨("Runner", some "speed_up"), "speed_up", "Runner.speed_up", defArgs s_Runner_speed_up, defBody s_Runner_speed_up, defScope s_Runner_speed_up, [], []⟩
def d_Runner_leap : He.DefD := ⟨("Runner", some "leap"), "leap", "Runner.leap", defArgs s_Runner_leap, defBody s_Runner_leap, defScope s_Runner_leap, [], []⟩
def d_Runner_go_across : He.DefD := ⟨("Runner", some "go_across"), "go_across", "Runner.go_across", defArgs s_Runner_go_across, defBody s_Runner_go_across, defScope s_Runner_go_across, [], []⟩
def d_Runner_step_across : He.DefD := ⟨("Runner", some "step_across"), "step_across", "Runner.step_across", defArgs s_Runner_step_across, defBody s_Runner_step_across, defScope s_Runner_step_across, [], []⟩
def d_Runner_step_down : He.DefD := ⟨("Runner", some "step_down"), "step_down", "Runner.step_down", defArgs s_Runner_step_down, defBody s_Runner_step_down, defScope s_Runner_step_down, [], []⟩
def d_Runner_go_down : He.DefD := ⟨("Runner", some "go_down"), "go_down", "Runner.go_down", defArgs s_Runner_go_down, defBody s_Runner_go_down, defScope s_Runner_go_down, [], []⟩
def d_written : He.DefD := ⟨("written", none), "written", "written", defArgs s_written, defBody s_written, defScope s_written, [], []⟩
def d_World_init : He.DefD := ⟨("World", some "__init__"), "__init__", "World.__init__", defArgs s_World_init, defBody s_World_init, defScope s_World_init, [], []⟩
def d_World_is_free : He.DefD := ⟨("World", some "is_free"), "is_free", "World.is_free", defArgs s_World_is_free, defBody s_World_is_free, defScope s_World_is_free, [], []⟩
def d_World_under : He.DefD := ⟨("World", some "under"), "under", "World.under", defArgs s_World_under, defBody s_World_under, defScope s_World_under, [], []⟩
def d_World_is_on_ledge : He.DefD := ⟨("World", some "is_on_ledge"), "is_on_ledge", "World.is_on_ledge", defArgs s_World_is_on_ledge, defBody s_World_is_on_ledge, defScope s_World_is_on_ledge, [], []⟩
def d_World_is_on_floor : He.DefD := ⟨("World", some "is_on_floor"), "is_on_floor", "World.is_on_floor", defArgs s_World_is_on_floor, defBody s_World_is_on_floor, defScope s_World_is_on_floor, [], []⟩
def d_World_need_place : He.DefD := ⟨("World", some "need_place"), "need_place", "World.need_place", defArgs s_World_need_place, defBody s_World_need_place, defScope s_World_need_place, [], []⟩
def d_is_unit : He.DefD := ⟨("is_unit", none), "is_unit", "is_unit", defArgs s_is_unit, defBody s_is_unit, defScope s_is_unit, [], []⟩
def d_Course_init : He.DefD := ⟨("Course", some "__init__"), "__init__", "Course.__init__", defArgs s_Course_init, defBody s_Course_init, defScope s_Course_init, [], []⟩
def d_Course_covers : He.DefD := ⟨("Course", some "covers"), "covers", "Course.covers", defArgs s_Course_covers, defBody s_Course_covers, defScope s_Course_covers, [], []⟩
def d_Course_look : He.DefD := ⟨("Course", some "look"), "look", "Course.look", defArgs s_Course_look, defBody s_Course_look, defScope s_Course_look, [], []⟩
def d_Course_tick : He.DefD := ⟨("Course", some "tick"), "tick", "Course.tick", defArgs s_Course_tick, defBody s_Course_tick, defScope s_Course_tick, [], []⟩
def d_Course_go : He.DefD := ⟨("Course", some "go"), "go", "Course.go", defArgs s_Course_go, defBody s_Course_go, defScope s_Course_go, [], []⟩
def d_Course_back : He.DefD := ⟨("Course", some "back"), "back", "Course.back", defArgs s_Course_back, defBody s_Course_back, defScope s_Course_back, [], []⟩
def d_Course_again : He.DefD := ⟨("Course", some "again"), "again", "Course.again", defArgs s_Course_again, defBody s_Course_again, defScope s_Course_again, [], []⟩
def d_Course_at : He.DefD := ⟨("Course", some "at"), "at", "Course.at", defArgs s_Course_at, defBody s_Course_at, defScope s_Course_at, [], []⟩
def d_Course_clock : He.DefD := ⟨("Course", some "clock"), "clock", "Course.clock", defArgs s_Course_clock, defBody s_Course_clock, defScope s_Course_clock, [], []⟩
def d_Course_taken : He.DefD := ⟨("Course", some "taken"), "taken", "Course.taken", defArgs s_Course_taken, defBody s_Course_taken, defScope s_Course_taken, [], []⟩
def d_Course_left_over : He.DefD := ⟨("Course", some "left_over"), "left_over", "Course.left_over", defArgs s_Course_left_over, defBody s_Course_left_over, defScope s_Course_left_over, [], []⟩
def d_Course_done : He.DefD := ⟨("Course", some "done"), "done", "Course.done", defArgs s_Course_done, defBody s_Course_done, defScope s_Course_done, [], []⟩
def d_Course_tape : He.DefD := ⟨("Course", some "tape"), "tape", "Course.tape", defArgs s_Course_tape, defBody s_Course_tape, defScope s_Course_tape, [], []⟩
def d_steps : He.DefD := ⟨("steps", none), "steps", "steps", defArgs s_steps, defBody s_steps, defScope s_steps, [], []⟩
def d_landings : He.DefD := ⟨("landings", none), "landings", "landings", defArgs s_landings, defBody s_landings, defScope s_landings, [], []⟩
def d_flights : He.DefD := ⟨("flights", none), "flights", "flights", defArgs s_flights, defBody s_flights, defScope s_flights, [], []⟩
def d_reach : He.DefD := ⟨("reach", none), "reach", "reach", defArgs s_reach, defBody s_reach, defScope s_reach, [], []⟩
def d_apart : He.DefD := ⟨("apart", none), "apart", "apart", defArgs s_apart, defBody s_apart, defScope s_apart, [], []⟩
def d__law_cell : He.DefD := ⟨("_law_cell", none), "_law_cell", "_law_cell", defArgs s__law_cell, defBody s__law_cell, defScope s__law_cell, [], []⟩
def d__law_drawn : He.DefD := ⟨("_law_drawn", none), "_law_drawn", "_law_drawn", defArgs s__law_drawn, defBody s__law_drawn, defScope s__law_drawn, [], []⟩
def d__law_word : He.DefD := ⟨("_law_word", none), "_law_word", "_law_word", defArgs s__law_word, defBody s__law_word, defScope s__law_word, [], []⟩
def d__law_told : He.DefD := ⟨("_law_told", none), "_law_told", "_law_told", defArgs s__law_told, defBody s__law_told, defScope s__law_told, [], []⟩
def d__law_trails_bad : He.DefD := ⟨("_law_trails_bad", none), "_law_trails_bad", "_law_trails_bad", defArgs s__law_trails_bad, defBody s__law_trails_bad, defScope s__law_trails_bad, [], []⟩
def d_law : He.DefD := ⟨("law", none), "law", "law", defArgs s_law, defBody s_law, defScope s_law, [], []⟩
def fn : List He.DefD := ([d_is_count, d_need_map, d_size, d_tile, d_solid, d_is_ledge, d_is_lift, d_need_lift, d_way_gone, d_place, d_need_keys, d_Runner_init, d_Runner_at, d_Runner_pace, d_Runner_clock, d_Runner_stands, d_Runner_is_standing, d_Runner_tick, d_Runner_be_carried, d_Runner_speed_up, d_Runner_leap, d_Runner_go_across, d_Runner_step_across, d_Runner_step_down, d_Runner_go_down, d_written, d_World_init, d_World_is_free, d_World_under, d_World_is_on_ledge] : List He.DefD) ++ ([d_World_is_on_floor, d_World_need_place, d_is_unit, d_Course_init, d_Course_covers, d_Course_look, d_Course_tick, d_Course_go, d_Course_back, d_Course_again, d_Course_at, d_Course_clock, d_Course_taken, d_Course_left_over, d_Course_done, d_Course_tape, d_steps, d_landings, d_flights, d_reach, d_apart, d__law_cell, d__law_drawn, d__law_word, d__law_told, d__law_trails_bad, d_law] : List He.DefD)
def fa : List He.Fa := ([.glo "is_count",
  .glo "need_map",
  .glo "size",
  .glo "tile",
  .glo "solid",
  .glo "is_ledge",
  .glo "is_lift",
  .glo "need_lift",
  .glo "way_gone",
  .glo "place",
  .glo "need_keys",
  .glo "written",
  .glo "is_unit",
  .glo "steps",
  .glo "landings",
  .glo "flights",
  .glo "reach",
  .glo "apart",
  .glo "_law_cell",
  .glo "_law_drawn",
  .glo "_law_word",
  .glo "_law_told",
  .glo "_law_trails_bad",
  .glo "law",
  .free "ValueError",
  .free "abs",
  .free "all",
  .free "any",
  .free "bool",
  .free "enumerate"] : List He.Fa) ++ ([.free "int",
  .free "isinstance",
  .free "len",
  .free "list",
  .free "max",
  .free "min",
  .free "range",
  .free "set",
  .free "sorted",
  .free "str",
  .free "sum",
  .free "tuple",
  .int "SIDE" 8,
  .int "MOST_WIDE" 30,
  .int "MOST_HIGH" 20,
  .str "SIGNS" "#.<>=",
  .int "MOST_lifts" 400,
  .str "KEYS" "ljrd",
  .int "FASTEST" 3,
  .int "FALLING" 6,
  .int "JUMP" 6,
  .int "WIDE" 6,
  .int "HIGH" 10,
  .int "MOST_worlds" 400,
  .int "MOST_THINGS" 20,
  .glo "Runner",
  .cls "Runner",
  .mkr "Runner",
  .noat "Runner" "world",
  .noat "Runner" "time"] : List He.Fa) ++ ([.noat "Runner" "left",
  .noat "Runner" "top",
  .noat "Runner" "across",
  .noat "Runner" "down",
  .noat "Runner" "was_jumping",
  .meth "Runner" "at",
  .meth "Runner" "pace",
  .meth "Runner" "clock",
  .meth "Runner" "stands",
  .meth "Runner" "is_standing",
  .meth "Runner" "tick",
  .meth "Runner" "be_carried",
  .meth "Runner" "speed_up",
  .meth "Runner" "leap",
  .meth "Runner" "go_across",
  .meth "Runner" "step_across",
  .meth "Runner" "step_down",
  .meth "Runner" "go_down",
  .glo "World",
  .cls "World",
  .mkr "World",
  .noat "World" "rows",
  .noat "World" "lifts",
  .meth "World" "is_free",
  .meth "World" "under",
  .meth "World" "is_on_ledge",
  .meth "World" "is_on_floor",
  .meth "World" "need_place",
  .glo "Course",
  .cls "Course"] : List He.Fa) ++ ([.mkr "Course",
  .noat "Course" "runner",
  .noat "Course" "begun",
  .noat "Course" "things",
  .noat "Course" "goal",
  .noat "Course" "rows",
  .noat "Course" "gone_back",
  .noat "Course" "got",
  .noat "Course" "reached",
  .meth "Course" "covers",
  .meth "Course" "look",
  .meth "Course" "tick",
  .meth "Course" "go",
  .meth "Course" "back",
  .meth "Course" "again",
  .meth "Course" "at",
  .meth "Course" "clock",
  .meth "Course" "taken",
  .meth "Course" "left_over",
  .meth "Course" "done",
  .meth "Course" "tape",
  .glo "RunError",
  .exc "RunError",
  .glo "BadMap",
  .exc "BadMap",
  .glo "BadLift",
  .exc "BadLift",
  .glo "BadPlace",
  .exc "BadPlace",
  .glo "BadKeys"] : List He.Fa) ++ ([.exc "BadKeys",
  .glo "BadTime",
  .exc "BadTime",
  .glo "BadText",
  .exc "BadText",
  .glo "BadCourse",
  .exc "BadCourse",
  .glo "Nothing",
  .exc "Nothing",
  .exm "RunError" "RunError" true,
  .exm "BadMap" "RunError" true,
  .exm "BadLift" "RunError" true,
  .exm "BadPlace" "RunError" true,
  .exm "BadKeys" "RunError" true,
  .exm "BadKeys" "BadKeys" true,
  .exm "BadTime" "RunError" true,
  .exm "BadText" "RunError" true,
  .exm "BadCourse" "RunError" true,
  .exm "Nothing" "RunError" true] : List He.Fa)
def loose : List PySem.Str := (["is_count", "need_map", "size", "tile", "solid", "is_ledge", "is_lift", "need_lift", "way_gone", "place", "need_keys", "written", "is_unit", "steps", "landings", "flights", "reach", "apart", "_law_cell", "_law_drawn", "_law_word", "_law_told", "_law_trails_bad", "RunError", "BadMap", "BadLift", "BadPlace", "BadKeys", "BadTime", "BadText"] : List PySem.Str) ++ (["BadCourse", "Nothing", "Runner", "World", "Course", "SIDE", "MOST_WIDE", "MOST_HIGH", "SIGNS", "MOST_lifts", "KEYS", "FASTEST", "FALLING", "JUMP", "WIDE", "HIGH", "MOST_worlds", "MOST_THINGS"] : List PySem.Str)

def tf : List He.Defn := [("_law_trails_bad", none), ("law", none)]
def exl (K : PySem.W.Frag) : List Bool := ([excB K (He.ga K "BadMap"),
  excB K (He.ga K "BadLift"),
  excB K (He.ga K "BadPlace"),
  excB K (He.ga K "BadKeys"),
  excB K (He.ga K "BadTime"),
  excB K (He.ga K "BadText"),
  excB K (He.ga K "BadCourse"),
  excB K (He.ga K "Nothing"),
  kitsB K (He.ga K "BadMap") (.ref (He.ga K "BadMap")) true,
  kitsB K (He.ga K "BadMap") (.ref (He.ga K "BadLift")) false,
  kitsB K (He.ga K "BadMap") (.ref (He.ga K "BadPlace")) false,
  kitsB K (He.ga K "BadMap") (.ref (He.ga K "BadKeys")) false,
  kitsB K (He.ga K "BadMap") (.ref (He.ga K "BadTime")) false,
  kitsB K (He.ga K "BadMap") (.ref (He.ga K "BadText")) false,
  kitsB K (He.ga K "BadMap") (.ref (He.ga K "BadCourse")) false,
  kitsB K (He.ga K "BadMap") (.ref (He.ga K "Nothing")) false,
  kitsB K (He.ga K "BadMap") (.type "ValueError") true,
  kitsB K (He.ga K "BadLift") (.ref (He.ga K "BadMap")) false,
  kitsB K (He.ga K "BadLift") (.ref (He.ga K "BadLift")) true,
  kitsB K (He.ga K "BadLift") (.ref (He.ga K "BadPlace")) false,
  kitsB K (He.ga K "BadLift") (.ref (He.ga K "BadKeys")) false,
  kitsB K (He.ga K "BadLift") (.ref (He.ga K "BadTime")) false,
  kitsB K (He.ga K "BadLift") (.ref (He.ga K "BadText")) false,
  kitsB K (He.ga K "BadLift") (.ref (He.ga K "BadCourse")) false,
  kitsB K (He.ga K "BadLift") (.ref (He.ga K "Nothing")) false,
  kitsB K (He.ga K "BadLift") (.type "ValueError") true,
  kitsB K (He.ga K "BadPlace") (.ref (He.ga K "BadMap")) false,
  kitsB K (He.ga K "BadPlace") (.ref (He.ga K "BadLift")) false,
  kitsB K (He.ga K "BadPlace") (.ref (He.ga K "BadPlace")) true,
  kitsB K (He.ga K "BadPlace") (.ref (He.ga K "BadKeys")) false] : List Bool) ++ ([kitsB K (He.ga K "BadPlace") (.ref (He.ga K "BadTime")) false,
  kitsB K (He.ga K "BadPlace") (.ref (He.ga K "BadText")) false,
  kitsB K (He.ga K "BadPlace") (.ref (He.ga K "BadCourse")) false,
  kitsB K (He.ga K "BadPlace") (.ref (He.ga K "Nothing")) false,
  kitsB K (He.ga K "BadPlace") (.type "ValueError") true,
  kitsB K (He.ga K "BadKeys") (.ref (He.ga K "BadMap")) false,
  kitsB K (He.ga K "BadKeys") (.ref (He.ga K "BadLift")) false,
  kitsB K (He.ga K "BadKeys") (.ref (He.ga K "BadPlace")) false,
  kitsB K (He.ga K "BadKeys") (.ref (He.ga K "BadKeys")) true,
  kitsB K (He.ga K "BadKeys") (.ref (He.ga K "BadTime")) false,
  kitsB K (He.ga K "BadKeys") (.ref (He.ga K "BadText")) false,
  kitsB K (He.ga K "BadKeys") (.ref (He.ga K "BadCourse")) false,
  kitsB K (He.ga K "BadKeys") (.ref (He.ga K "Nothing")) false,
  kitsB K (He.ga K "BadKeys") (.type "ValueError") true,
  kitsB K (He.ga K "BadTime") (.ref (He.ga K "BadMap")) false,
  kitsB K (He.ga K "BadTime") (.ref (He.ga K "BadLift")) false,
  kitsB K (He.ga K "BadTime") (.ref (He.ga K "BadPlace")) false,
  kitsB K (He.ga K "BadTime") (.ref (He.ga K "BadKeys")) false,
  kitsB K (He.ga K "BadTime") (.ref (He.ga K "BadTime")) true,
  kitsB K (He.ga K "BadTime") (.ref (He.ga K "BadText")) false,
  kitsB K (He.ga K "BadTime") (.ref (He.ga K "BadCourse")) false,
  kitsB K (He.ga K "BadTime") (.ref (He.ga K "Nothing")) false,
  kitsB K (He.ga K "BadTime") (.type "ValueError") true,
  kitsB K (He.ga K "BadText") (.ref (He.ga K "BadMap")) false,
  kitsB K (He.ga K "BadText") (.ref (He.ga K "BadLift")) false,
  kitsB K (He.ga K "BadText") (.ref (He.ga K "BadPlace")) false,
  kitsB K (He.ga K "BadText") (.ref (He.ga K "BadKeys")) false,
  kitsB K (He.ga K "BadText") (.ref (He.ga K "BadTime")) false,
  kitsB K (He.ga K "BadText") (.ref (He.ga K "BadText")) true,
  kitsB K (He.ga K "BadText") (.ref (He.ga K "BadCourse")) false] : List Bool) ++ ([kitsB K (He.ga K "BadText") (.ref (He.ga K "Nothing")) false,
  kitsB K (He.ga K "BadText") (.type "ValueError") true,
  kitsB K (He.ga K "BadCourse") (.ref (He.ga K "BadMap")) false,
  kitsB K (He.ga K "BadCourse") (.ref (He.ga K "BadLift")) false,
  kitsB K (He.ga K "BadCourse") (.ref (He.ga K "BadPlace")) false,
  kitsB K (He.ga K "BadCourse") (.ref (He.ga K "BadKeys")) false,
  kitsB K (He.ga K "BadCourse") (.ref (He.ga K "BadTime")) false,
  kitsB K (He.ga K "BadCourse") (.ref (He.ga K "BadText")) false,
  kitsB K (He.ga K "BadCourse") (.ref (He.ga K "BadCourse")) true,
  kitsB K (He.ga K "BadCourse") (.ref (He.ga K "Nothing")) false,
  kitsB K (He.ga K "BadCourse") (.type "ValueError") true,
  kitsB K (He.ga K "Nothing") (.ref (He.ga K "BadMap")) false,
  kitsB K (He.ga K "Nothing") (.ref (He.ga K "BadLift")) false,
  kitsB K (He.ga K "Nothing") (.ref (He.ga K "BadPlace")) false,
  kitsB K (He.ga K "Nothing") (.ref (He.ga K "BadKeys")) false,
  kitsB K (He.ga K "Nothing") (.ref (He.ga K "BadTime")) false,
  kitsB K (He.ga K "Nothing") (.ref (He.ga K "BadText")) false,
  kitsB K (He.ga K "Nothing") (.ref (He.ga K "BadCourse")) false,
  kitsB K (He.ga K "Nothing") (.ref (He.ga K "Nothing")) true,
  kitsB K (He.ga K "Nothing") (.type "ValueError") true,
  decide (He.tabOf K (He.codeOf K ("_law_trails_bad", none)) ≠ He.tabOf K (He.codeOf K ("law", none)))] : List Bool)
def exB (K : PySem.W.Frag) : Bool := (exl K).all id
theorem tabs_ne {K : PySem.W.Frag} (m : exB K = true) : He.tabOf K (He.codeOf K ("_law_trails_bad", none)) ≠ He.tabOf K (He.codeOf K ("law", none)) := of_decide_eq_true (List.all_eq_true.mp m _ (List.mem_of_getElem? (l := exl K) (i := 80) rfl))
structure Txt (K : PySem.W.Frag) (mg : Str → Option Value) (base : Heap) : Prop where
  f_is_count : ∃ fd, FunD K "is_count" "is_count" (defArgs s_is_count) (defBody s_is_count) (defScope s_is_count) [] [] (He.fAd K ("is_count", none)) fd
  f_need_map : ∃ fd, FunD K "need_map" "need_map" (defArgs s_need_map) (defBody s_need_map) (defScope s_need_map) [] [] (He.fAd K ("need_map", none)) fd
  f_size : ∃ fd, FunD K "size" "size" (defArgs s_size) (defBody s_size) (defScope s_size) [] [] (He.fAd K ("size", none)) fd
  f_tile : ∃ fd, FunD K "tile" "tile" (defArgs s_tile) (defBody s_tile) (defScope s_tile) [] [] (He.fAd K ("tile", none)) fd
  f_solid : ∃ fd, FunD K "solid" "solid" (defArgs s_solid) (defBody s_solid) (defScope s_solid) [] [] (He.fAd K ("solid", none)) fd
  f_is_ledge : ∃ fd, FunD K "is_ledge" "is_ledge" (defArgs s_is_ledge) (defBody s_is_ledge) (defScope s_is_ledge) [] [] (He.fAd K ("is_ledge", none)) fd
  f_is_lift : ∃ fd, FunD K "is_lift" "is_lift" (defArgs s_is_lift) (defBody s_is_lift) (defScope s_is_lift) [] [] (He.fAd K ("is_lift", none)) fd
  f_need_lift : ∃ fd, FunD K "need_lift" "need_lift" (defArgs s_need_lift) (defBody s_need_lift) (defScope s_need_lift) [] [] (He.fAd K ("need_lift", none)) fd
  f_way_gone : ∃ fd, FunD K "way_gone" "way_gone" (defArgs s_way_gone) (defBody s_way_gone) (defScope s_way_gone) [] [] (He.fAd K ("way_gone", none)) fd
  f_place : ∃ fd, FunD K "place" "place" (defArgs s_place) (defBody s_place) (defScope s_place) [] [] (He.fAd K ("place", none)) fd
  f_need_keys : ∃ fd, FunD K "need_keys" "need_keys" (defArgs s_need_keys) (defBody s_need_keys) (defScope s_need_keys) [] [] (He.fAd K ("need_keys", none)) fd
  f_Runner_init : ∃ fd, FunD K "__init__" "Runner.__init__" (defArgs s_Runner_init) (defBody s_Runner_init) (defScope s_Runner_init) [] [] (He.fAd K ("Runner", some "__init__")) fd
  f_Runner_at : ∃ fd, FunD K "at" "Runner.at" (defArgs s_Runner_at) (defBody s_Runner_at) (defScope s_Runner_at) [] [] (He.fAd K ("Runner", some "at")) fd
  f_Runner_pace : ∃ fd, FunD K "pace" "Runner.pace" (defArgs s_Runner_pace) (defBody s_Runner_pace) (defScope s_Runner_pace) [] [] (He.fAd K ("Runner", some "pace")) fd
  f_Runner_clock : ∃ fd, FunD K "clock" "Runner.clock" (defArgs s_Runner_clock) (defBody s_Runner_clock) (defScope s_Runner_clock) [] [] (He.fAd K ("Runner", some "clock")) fd
  f_Runner_stands : ∃ fd, FunD K "stands" "Runner.stands" (defArgs s_Runner_stands) (defBody s_Runner_stands) (defScope s_Runner_stands) [] [] (He.fAd K ("Runner", some "stands")) fd
  f_Runner_is_standing : ∃ fd, FunD K "is_standing" "Runner.is_standing" (defArgs s_Runner_is_standing) (defBody s_Runner_is_standing) (defScope s_Runner_is_standing) [] [] (He.fAd K ("Runner", some "is_standing")) fd
  f_Runner_tick : ∃ fd, FunD K "tick" "Runner.tick" (defArgs s_Runner_tick) (defBody s_Runner_tick) (defScope s_Runner_tick) [] [] (He.fAd K ("Runner", some "tick")) fd
  f_Runner_be_carried : ∃ fd, FunD K "be_carried" "Runner.be_carried" (defArgs s_Runner_be_carried) (defBody s_Runner_be_carried) (defScope s_Runner_be_carried) [] [] (He.fAd K ("Runner", some "be_carried")) fd
  f_Runner_speed_up : ∃ fd, FunD K "speed_up" "Runner.speed_up" (defArgs s_Runner_speed_up) (defBody s_Runner_speed_up) (defScope s_Runner_speed_up) [] [] (He.fAd K ("Runner", some "speed_up")) fd
  f_Runner_leap : ∃ fd, FunD K "leap" "Runner.leap" (defArgs s_Runner_leap) (defBody s_Runner_leap) (defScope s_Runner_leap) [] [] (He.fAd K ("Runner", some "leap")) fd
  f_Runner_go_across : ∃ fd, FunD K "go_across" "Runner.go_across" (defArgs s_Runner_go_across) (defBody s_Runner_go_across) (defScope s_Runner_go_across) [] [] (He.fAd K ("Runner", some "go_across")) fd
  f_Runner_step_across : ∃ fd, FunD K "step_across" "Runner.step_across" (defArgs s_Runner_step_across) (defBody s_Runner_step_across) (defScope s_Runner_step_across) [] [] (He.fAd K ("Runner", some "step_across")) fd
  f_Runner_step_down : ∃ fd, FunD K "step_down" "Runner.step_down" (defArgs s_Runner_step_down) (defBody s_Runner_step_down) (defScope s_Runner_step_down) [] [] (He.fAd K ("Runner", some "step_down")) fd
  f_Runner_go_down : ∃ fd, FunD K "go_down" "Runner.go_down" (defArgs s_Runner_go_down) (defBody s_Runner_go_down) (defScope s_Runner_go_down) [] [] (He.fAd K ("Runner", some "go_down")) fd
  f_written : ∃ fd, FunD K "written" "written" (defArgs s_written) (defBody s_written) (defScope s_written) [] [] (He.fAd K ("written", none)) fd
  f_World_init : ∃ fd, FunD K "__init__" "World.__init__" (defArgs s_World_init) (defBody s_World_init) (defScope s_World_init) [] [] (He.fAd K ("World", some "__init__")) fd
  f_World_is_free : ∃ fd, FunD K "is_free" "World.is_free" (defArgs s_World_is_free) (defBody s_World_is_free) (defScope s_World_is_free) [] [] (He.fAd K ("World", some "is_free")) fd
  f_World_under : ∃ fd, FunD K "under" "World.under" (defArgs s_World_under) (defBody s_World_under) (defScope s_World_under) [] [] (He.fAd K ("World", some "under")) fd
  f_World_is_on_ledge : ∃ fd, FunD K "is_on_ledge" "World.is_on_ledge" (defArgs s_World_is_on_ledge) (defBody s_World_is_on_ledge) (defScope s_World_is_on_ledge) [] [] (He.fAd K ("World", some "is_on_ledge")) fd
  f_World_is_on_floor : ∃ fd, FunD K "is_on_floor" "World.is_on_floor" (defArgs s_World_is_on_floor) (defBody s_World_is_on_floor) (defScope s_World_is_on_floor) [] [] (He.fAd K ("World", some "is_on_floor")) fd
  f_World_need_place : ∃ fd, FunD K "need_place" "World.need_place" (defArgs s_World_need_place) (defBody s_World_need_place) (defScope s_World_need_place) [] [] (He.fAd K ("World", some "need_place")) fd
  f_is_unit : ∃ fd, FunD K "is_unit" "is_unit" (defArgs s_is_unit) (defBody s_is_unit) (defScope s_is_unit) [] [] (He.fAd K ("is_unit", none)) fd
  f_Course_init : ∃ fd, FunD K "__init__" "Course.__init__" (defArgs s_Course_init) (defBody s_Course_init) (defScope s_Course_init) [] [] (He.fAd K ("Course", some "__init__")) fd
  f_Course_covers : ∃ fd, FunD K "covers" "Course.covers" (defArgs s_Course_covers) (defBody s_Course_covers) (defScope s_Course_covers) [] [] (He.fAd K ("Course", some "covers")) fd
  f_Course_look : ∃ fd, FunD K "look" "Course.look" (defArgs s_Course_look) (defBody s_Course_look) (defScope s_Course_look) [] [] (He.fAd K ("Course", some "look")) fd
  f_Course_tick : ∃ fd, FunD K "tick" "Course.tick" (defArgs s_Course_tick) (defBody s_Course_tick) (defScope s_Course_tick) [] [] (He.fAd K ("Course", some "tick")) fd
  f_Course_go : ∃ fd, FunD K "go" "Course.go" (defArgs s_Course_go) (defBody s_Course_go) (defScope s_Course_go) [] [] (He.fAd K ("Course", some "go")) fd
  f_Course_back : ∃ fd, FunD K "back" "Course.back" (defArgs s_Course_back) (defBody s_Course_back) (defScope s_Course_back) [] [] (He.fAd K ("Course", some "back")) fd
  f_Course_again : ∃ fd, FunD K "again" "Course.again" (defArgs s_Course_again) (defBody s_Course_again) (defScope s_Course_again) [] [] (He.fAd K ("Course", some "again")) fd
  f_Course_at : ∃ fd, FunD K "at" "Course.at" (defArgs s_Course_at) (defBody s_Course_at) (defScope s_Course_at) [] [] (He.fAd K ("Course", some "at")) fd
  f_Course_clock : ∃ fd, FunD K "clock" "Course.clock" (defArgs s_Course_clock) (defBody s_Course_clock) (defScope s_Course_clock) [] [] (He.fAd K ("Course", some "clock")) fd
  f_Course_taken : ∃ fd, FunD K "taken" "Course.taken" (defArgs s_Course_taken) (defBody s_Course_taken) (defScope s_Course_taken) [] [] (He.fAd K ("Course", some "taken")) fd
  f_Course_left_over : ∃ fd, FunD K "left_over" "Course.left_over" (defArgs s_Course_left_over) (defBody s_Course_left_over) (defScope s_Course_left_over) [] [] (He.fAd K ("Course", some "left_over")) fd
  f_Course_done : ∃ fd, FunD K "done" "Course.done" (defArgs s_Course_done) (defBody s_Course_done) (defScope s_Course_done) [] [] (He.fAd K ("Course", some "done")) fd
  f_Course_tape : ∃ fd, FunD K "tape" "Course.tape" (defArgs s_Course_tape) (defBody s_Course_tape) (defScope s_Course_tape) [] [] (He.fAd K ("Course", some "tape")) fd
  f_steps : ∃ fd, FunD K "steps" "steps" (defArgs s_steps) (defBody s_steps) (defScope s_steps) [] [] (He.fAd K ("steps", none)) fd
  f_landings : ∃ fd, FunD K "landings" "landings" (defArgs s_landings) (defBody s_landings) (defScope s_landings) [] [] (He.fAd K ("landings", none)) fd
  f_flights : ∃ fd, FunD K "flights" "flights" (defArgs s_flights) (defBody s_flights) (defScope s_flights) [] [] (He.fAd K ("flights", none)) fd
  f_reach : ∃ fd, FunD K "reach" "reach" (defArgs s_reach) (defBody s_reach) (defScope s_reach) [] [] (He.fAd K ("reach", none)) fd
  f_apart : ∃ fd, FunD K "apart" "apart" (defArgs s_apart) (defBody s_apart) (defScope s_apart) [] [] (He.fAd K ("apart", none)) fd
  f__law_cell : ∃ fd, FunD K "_law_cell" "_law_cell" (defArgs s__law_cell) (defBody s__law_cell) (defScope s__law_cell) [] [] (He.fAd K ("_law_cell", none)) fd
  f__law_drawn : ∃ fd, FunD K "_law_drawn" "_law_drawn" (defArgs s__law_drawn) (defBody s__law_drawn) (defScope s__law_drawn) [] [] (He.fAd K ("_law_drawn", none)) fd
  f__law_word : ∃ fd, FunD K "_law_word" "_law_word" (defArgs s__law_word) (defBody s__law_word) (defScope s__law_word) [] [] (He.fAd K ("_law_word", none)) fd
  f__law_told : ∃ fd, FunD K "_law_told" "_law_told" (defArgs s__law_told) (defBody s__law_told) (defScope s__law_told) [] [] (He.fAd K ("_law_told", none)) fd
  f__law_trails_bad : ∃ fd, FunD K "_law_trails_bad" "_law_trails_bad" (defArgs s__law_trails_bad) (defBody s__law_trails_bad) (defScope s__law_trails_bad) [] [] (He.fAd K ("_law_trails_bad", none)) fd
  f_law : ∃ fd, FunD K "law" "law" (defArgs s_law) (defBody s_law) (defScope s_law) [] [] (He.fAd K ("law", none)) fd
  g_is_count : mg "is_count" = some (.ref (He.ga K "is_count"))
  g_need_map : mg "need_map" = some (.ref (He.ga K "need_map"))
  g_size : mg "size" = some (.ref (He.ga K "size"))
  g_tile : mg "tile" = some (.ref (He.ga K "tile"))
  g_solid : mg "solid" = some (.ref (He.ga K "solid"))
  g_is_ledge : mg "is_ledge" = some (.ref (He.ga K "is_ledge"))
  g_is_lift : mg "is_lift" = some (.ref (He.ga K "is_lift"))
  g_need_lift : mg "need_lift" = some (.ref (He.ga K "need_lift"))
  g_way_gone : mg "way_gone" = some (.ref (He.ga K "way_gone"))
  g_place : mg "place" = some (.ref (He.ga K "place"))
  g_need_keys : mg "need_keys" = some (.ref (He.ga K "need_keys"))
  g_written : mg "written" = some (.ref (He.ga K "written"))
  g_is_unit : mg "is_unit" = some (.ref (He.ga K "is_unit"))
  g_steps : mg "steps" = some (.ref (He.ga K "steps"))
  g_landings : mg "landings" = some (.ref (He.ga K "landings"))
  g_flights : mg "flights" = some (.ref (He.ga K "flights"))
  g_reach : mg "reach" = some (.ref (He.ga K "reach"))
  g_apart : mg "apart" = some (.ref (He.ga K "apart"))
  g__law_cell : mg "_law_cell" = some (.ref (He.ga K "_law_cell"))
  g__law_drawn : mg "_law_drawn" = some (.ref (He.ga K "_law_drawn"))
  g__law_word : mg "_law_word" = some (.ref (He.ga K "_law_word"))
  g__law_told : mg "_law_told" = some (.ref (He.ga K "_law_told"))
  g__law_trails_bad : mg "_law_trails_bad" = some (.ref (He.ga K "_law_trails_bad"))
  g_law : mg "law" = some (.ref (He.ga K "law"))
  u_ValueError : mg "ValueError" = none
  u_abs : mg "abs" = none
  u_all : mg "all" = none
  u_any : mg "any" = none
  u_bool : mg "bool" = none
  u_enumerate : mg "enumerate" = none
  u_int : mg "int" = none
  u_isinstance : mg "isinstance" = none
  u_len : mg "len" = none
  u_list : mg "list" = none
  u_max : mg "max" = none
  u_min : mg "min" = none
  u_range : mg "range" = none
  u_set : mg "set" = none
  u_sorted : mg "sorted" = none
  u_str : mg "str" = none
  u_sum : mg "sum" = none
  u_tuple : mg "tuple" = none
  c_SIDE : ∃ t, mg "SIDE" = some (.int 8 t)
  c_MOST_WIDE : ∃ t, mg "MOST_WIDE" = some (.int 30 t)
  c_MOST_HIGH : ∃ t, mg "MOST_HIGH" = some (.int 20 t)
  c_SIGNS : ∃ t, mg "SIGNS" = some (.str "#.<>=" t)
  c_MOST_lifts : ∃ t, mg "MOST_lifts" = some (.int 400 t)
  c_KEYS : ∃ t, mg "KEYS" = some (.str "ljrd" t)
  c_FASTEST : ∃ t, mg "FASTEST" = some (.int 3 t)
  c_FALLING : ∃ t, mg "FALLING" = some (.int 6 t)
  c_JUMP : ∃ t, mg "JUMP" = some (.int 6 t)
  c_WIDE : ∃ t, mg "WIDE" = some (.int 6 t)
  c_HIGH : ∃ t, mg "HIGH" = some (.int 10 t)
  c_MOST_worlds : ∃ t, mg "MOST_worlds" = some (.int 400 t)
  c_MOST_THINGS : ∃ t, mg "MOST_THINGS" = some (.int 20 t)
  g_Runner : mg "Runner" = some (.ref (He.ga K "Runner"))
  cl_Runner : Cls K (He.ga K "Runner")
  mk_Runner : Mk K (He.ga K "Runner") (He.ma K (He.ga K "Runner") "__init__")
  n_Runner_world : NoAttr K (He.ga K "Runner") "world"
  n_Runner_time : NoAttr K (He.ga K "Runner") "time"
  n_Runner_left : NoAttr K (He.ga K "Runner") "left"
  n_Runner_top : NoAttr K (He.ga K "Runner") "top"
  n_Runner_across : NoAttr K (He.ga K "Runner") "across"
  n_Runner_down : NoAttr K (He.ga K "Runner") "down"
  n_Runner_was_jumping : NoAttr K (He.ga K "Runner") "was_jumping"
  m_Runner_at : Meth K (He.ga K "Runner") "at" (He.ma K (He.ga K "Runner") "at")
  m_Runner_pace : Meth K (He.ga K "Runner") "pace" (He.ma K (He.ga K "Runner") "pace")
  m_Runner_clock : Meth K (He.ga K "Runner") "clock" (He.ma K (He.ga K "Runner") "clock")
  m_Runner_stands : Meth K (He.ga K "Runner") "stands" (He.ma K (He.ga K "Runner") "stands")
  m_Runner_is_standing : Meth K (He.ga K "Runner") "is_standing" (He.ma K (He.ga K "Runner") "is_standing")
  m_Runner_tick : Meth K (He.ga K "Runner") "tick" (He.ma K (He.ga K "Runner") "tick")
  m_Runner_be_carried : Meth K (He.ga K "Runner") "be_carried" (He.ma K (He.ga K "Runner") "be_carried")
  m_Runner_speed_up : Meth K (He.ga K "Runner") "speed_up" (He.ma K (He.ga K "Runner") "speed_up")
  m_Runner_leap : Meth K (He.ga K "Runner") "leap" (He.ma K (He.ga K "Runner") "leap")
  m_Runner_go_across : Meth K (He.ga K "Runner") "go_across" (He.ma K (He.ga K "Runner") "go_across")
  m_Runner_step_across : Meth K (He.ga K "Runner") "step_across" (He.ma K (He.ga K "Runner") "step_across")
  m_Runner_step_down : Meth K (He.ga K "Runner") "step_down" (He.ma K (He.ga K "Runner") "step_down")
  m_Runner_go_down : Meth K (He.ga K "Runner") "go_down" (He.ma K (He.ga K "Runner") "go_down")
  g_World : mg "World" = some (.ref (He.ga K "World"))
  cl_World : Cls K (He.ga K "World")
  mk_World : Mk K (He.ga K "World") (He.ma K (He.ga K "World") "__init__")
  n_World_rows : NoAttr K (He.ga K "World") "rows"
  n_World_lifts : NoAttr K (He.ga K "World") "lifts"
  m_World_is_free : Meth K (He.ga K "World") "is_free" (He.ma K (He.ga K "World") "is_free")
  m_World_under : Meth K (He.ga K "World") "under" (He.ma K (He.ga K "World") "under")
  m_World_is_on_ledge : Meth K (He.ga K "World") "is_on_ledge" (He.ma K (He.ga K "World") "is_on_ledge")
  m_World_is_on_floor : Meth K (He.ga K "World") "is_on_floor" (He.ma K (He.ga K "World") "is_on_floor")
  m_World_need_place : Meth K (He.ga K "World") "need_place" (He.ma K (He.ga K "World") "need_place")
  g_Course : mg "Course" = some (.ref (He.ga K "Course"))
  cl_Course : Cls K (He.ga K "Course")
  mk_Course : Mk K (He.ga K "Course") (He.ma K (He.ga K "Course") "__init__")
  n_Course_runner : NoAttr K (He.ga K "Course") "runner"
  n_Course_begun : NoAttr K (He.ga K "Course") "begun"
  n_Course_things : NoAttr K (He.ga K "Course") "things"
  n_Course_goal : NoAttr K (He.ga K "Course") "goal"
  n_Course_rows : NoAttr K (He.ga K "Course") "rows"
  n_Course_gone_back : NoAttr K (He.ga K "Course") "gone_back"
  n_Course_got : NoAttr K (He.ga K "Course") "got"
  n_Course_reached : NoAttr K (He.ga K "Course") "reached"
  m_Course_covers : Meth K (He.ga K "Course") "covers" (He.ma K (He.ga K "Course") "covers")
  m_Course_look : Meth K (He.ga K "Course") "look" (He.ma K (He.ga K "Course") "look")
  m_Course_tick : Meth K (He.ga K "Course") "tick" (He.ma K (He.ga K "Course") "tick")
  m_Course_go : Meth K (He.ga K "Course") "go" (He.ma K (He.ga K "Course") "go")
  m_Course_back : Meth K (He.ga K "Course") "back" (He.ma K (He.ga K "Course") "back")
  m_Course_again : Meth K (He.ga K "Course") "again" (He.ma K (He.ga K "Course") "again")
  m_Course_at : Meth K (He.ga K "Course") "at" (He.ma K (He.ga K "Course") "at")
  m_Course_clock : Meth K (He.ga K "Course") "clock" (He.ma K (He.ga K "Course") "clock")
  m_Course_taken : Meth K (He.ga K "Course") "taken" (He.ma K (He.ga K "Course") "taken")
  m_Course_left_over : Meth K (He.ga K "Course") "left_over" (He.ma K (He.ga K "Course") "left_over")
  m_Course_done : Meth K (He.ga K "Course") "done" (He.ma K (He.ga K "Course") "done")
  m_Course_tape : Meth K (He.ga K "Course") "tape" (He.ma K (He.ga K "Course") "tape")
  g_RunError : mg "RunError" = some (.ref (He.ga K "RunError"))
  x_RunError : Exc K mg "RunError"
  g_BadMap : mg "BadMap" = some (.ref (He.ga K "BadMap"))
  x_BadMap : Exc K mg "BadMap"
  g_BadLift : mg "BadLift" = some (.ref (He.ga K "BadLift"))
  x_BadLift : Exc K mg "BadLift"
  g_BadPlace : mg "BadPlace" = some (.ref (He.ga K "BadPlace"))
  x_BadPlace : Exc K mg "BadPlace"
  g_BadKeys : mg "BadKeys" = some (.ref (He.ga K "BadKeys"))
  x_BadKeys : Exc K mg "BadKeys"
  g_BadTime : mg "BadTime" = some (.ref (He.ga K "BadTime"))
  x_BadTime : Exc K mg "BadTime"
  g_BadText : mg "BadText" = some (.ref (He.ga K "BadText"))
  x_BadText : Exc K mg "BadText"
  g_BadCourse : mg "BadCourse" = some (.ref (He.ga K "BadCourse"))
  x_BadCourse : Exc K mg "BadCourse"
  g_Nothing : mg "Nothing" = some (.ref (He.ga K "Nothing"))
  x_Nothing : Exc K mg "Nothing"
  e_RunError_RunError : PySem.W.exmOne K (.ref (He.ga K "RunError")) (.ref (He.ga K "RunError")) = some true
  e_BadMap_RunError : PySem.W.exmOne K (.ref (He.ga K "BadMap")) (.ref (He.ga K "RunError")) = some true
  e_BadLift_RunError : PySem.W.exmOne K (.ref (He.ga K "BadLift")) (.ref (He.ga K "RunError")) = some true
  e_BadPlace_RunError : PySem.W.exmOne K (.ref (He.ga K "BadPlace")) (.ref (He.ga K "RunError")) = some true
  e_BadKeys_RunError : PySem.W.exmOne K (.ref (He.ga K "BadKeys")) (.ref (He.ga K "RunError")) = some true
  e_BadKeys_BadKeys : PySem.W.exmOne K (.ref (He.ga K "BadKeys")) (.ref (He.ga K "BadKeys")) = some true
  e_BadTime_RunError : PySem.W.exmOne K (.ref (He.ga K "BadTime")) (.ref (He.ga K "RunError")) = some true
  e_BadText_RunError : PySem.W.exmOne K (.ref (He.ga K "BadText")) (.ref (He.ga K "RunError")) = some true
  e_BadCourse_RunError : PySem.W.exmOne K (.ref (He.ga K "BadCourse")) (.ref (He.ga K "RunError")) = some true
  e_Nothing_RunError : PySem.W.exmOne K (.ref (He.ga K "Nothing")) (.ref (He.ga K "RunError")) = some true
  ec_BadMap : ExcC K (He.ga K "BadMap")
  ec_BadLift : ExcC K (He.ga K "BadLift")
  ec_BadPlace : ExcC K (He.ga K "BadPlace")
  ec_BadKeys : ExcC K (He.ga K "BadKeys")
  ec_BadTime : ExcC K (He.ga K "BadTime")
  ec_BadText : ExcC K (He.ga K "BadText")
  ec_BadCourse : ExcC K (He.ga K "BadCourse")
  ec_Nothing : ExcC K (He.ga K "Nothing")
  ki_BadMap_BadMap : PySem.W.kitOne K (.ref (He.ga K "BadMap")) (.ref (He.ga K "BadMap")) = some true
  ki_BadMap_BadLift : PySem.W.kitOne K (.ref (He.ga K "BadMap")) (.ref (He.ga K "BadLift")) = some false
  ki_BadMap_BadPlace : PySem.W.kitOne K (.ref (He.ga K "BadMap")) (.ref (He.ga K "BadPlace")) = some false
  ki_BadMap_BadKeys : PySem.W.kitOne K (.ref (He.ga K "BadMap")) (.ref (He.ga K "BadKeys")) = some false
  ki_BadMap_BadTime : PySem.W.kitOne K (.ref (He.ga K "BadMap")) (.ref (He.ga K "BadTime")) = some false
  ki_BadMap_BadText : PySem.W.kitOne K (.ref (He.ga K "BadMap")) (.ref (He.ga K "BadText")) = some false
  ki_BadMap_BadCourse : PySem.W.kitOne K (.ref (He.ga K "BadMap")) (.ref (He.ga K "BadCourse")) = some false
  ki_BadMap_Nothing : PySem.W.kitOne K (.ref (He.ga K "BadMap")) (.ref (He.ga K "Nothing")) = some false
  ki_BadMap_ValueError : PySem.W.kitOne K (.ref (He.ga K "BadMap")) (.type "ValueError") = some true
  ki_BadLift_BadMap : PySem.W.kitOne K (.ref (He.ga K "BadLift")) (.ref (He.ga K "BadMap")) = some false
  ki_BadLift_BadLift : PySem.W.kitOne K (.ref (He.ga K "BadLift")) (.ref (He.ga K "BadLift")) = some true
  ki_BadLift_BadPlace : PySem.W.kitOne K (.ref (He.ga K "BadLift")) (.ref (He.ga K "BadPlace")) = some false
  ki_BadLift_BadKeys : PySem.W.kitOne K (.ref (He.ga K "BadLift")) (.ref (He.ga K "BadKeys")) = some false
  ki_BadLift_BadTime : PySem.W.kitOne K (.ref (He.ga K "BadLift")) (.ref (He.ga K "BadTime")) = some false
  ki_BadLift_BadText : PySem.W.kitOne K (.ref (He.ga K "BadLift")) (.ref (He.ga K "BadText")) = some false
  ki_BadLift_BadCourse : PySem.W.kitOne K (.ref (He.ga K "BadLift")) (.ref (He.ga K "BadCourse")) = some false
  ki_BadLift_Nothing : PySem.W.kitOne K (.ref (He.ga K "BadLift")) (.ref (He.ga K "Nothing")) = some false
  ki_BadLift_ValueError : PySem.W.kitOne K (.ref (He.ga K "BadLift")) (.type "ValueError") = some true
  ki_BadPlace_BadMap : PySem.W.kitOne K (.ref (He.ga K "BadPlace")) (.ref (He.ga K "BadMap")) = some false
  ki_BadPlace_BadLift : PySem.W.kitOne K (.ref (He.ga K "BadPlace")) (.ref (He.ga K "BadLift")) = some false
  ki_BadPlace_BadPlace : PySem.W.kitOne K (.ref (He.ga K "BadPlace")) (.ref (He.ga K "BadPlace")) = some true
  ki_BadPlace_BadKeys : PySem.W.kitOne K (.ref (He.ga K "BadPlace")) (.ref (He.ga K "BadKeys")) = some false
  ki_BadPlace_BadTime : PySem.W.kitOne K (.ref (He.ga K "BadPlace")) (.ref (He.ga K "BadTime")) = some false
  ki_BadPlace_BadText : PySem.W.kitOne K (.ref (He.ga K "BadPlace")) (.ref (He.ga K "BadText")) = some false
  ki_BadPlace_BadCourse : PySem.W.kitOne K (.ref (He.ga K "BadPlace")) (.ref (He.ga K "BadCourse")) = some false
  ki_BadPlace_Nothing : PySem.W.kitOne K (.ref (He.ga K "BadPlace")) (.ref (He.ga K "Nothing")) = some false
  ki_BadPlace_ValueError : PySem.W.kitOne K (.ref (He.ga K "BadPlace")) (.type "ValueError") = some true
  ki_BadKeys_BadMap : PySem.W.kitOne K (.ref (He.ga K "BadKeys")) (.ref (He.ga K "BadMap")) = some false
  ki_BadKeys_BadLift : PySem.W.kitOne K (.ref (He.ga K "BadKeys")) (.ref (He.ga K "BadLift")) = some false
  ki_BadKeys_BadPlace : PySem.W.kitOne K (.ref (He.ga K "BadKeys")) (.ref (He.ga K "BadPlace")) = some false
  ki_BadKeys_BadKeys : PySem.W.kitOne K (.ref (He.ga K "BadKeys")) (.ref (He.ga K "BadKeys")) = some true
  ki_BadKeys_BadTime : PySem.W.kitOne K (.ref (He.ga K "BadKeys")) (.ref (He.ga K "BadTime")) = some false
  ki_BadKeys_BadText : PySem.W.kitOne K (.ref (He.ga K "BadKeys")) (.ref (He.ga K "BadText")) = some false
  ki_BadKeys_BadCourse : PySem.W.kitOne K (.ref (He.ga K "BadKeys")) (.ref (He.ga K "BadCourse")) = some false
  ki_BadKeys_Nothing : PySem.W.kitOne K (.ref (He.ga K "BadKeys")) (.ref (He.ga K "Nothing")) = some false
  ki_BadKeys_ValueError : PySem.W.kitOne K (.ref (He.ga K "BadKeys")) (.type "ValueError") = some true
  ki_BadTime_BadMap : PySem.W.kitOne K (.ref (He.ga K "BadTime")) (.ref (He.ga K "BadMap")) = some false
  ki_BadTime_BadLift : PySem.W.kitOne K (.ref (He.ga K "BadTime")) (.ref (He.ga K "BadLift")) = some false
  ki_BadTime_BadPlace : PySem.W.kitOne K (.ref (He.ga K "BadTime")) (.ref (He.ga K "BadPlace")) = some false
  ki_BadTime_BadKeys : PySem.W.kitOne K (.ref (He.ga K "BadTime")) (.ref (He.ga K "BadKeys")) = some false
  ki_BadTime_BadTime : PySem.W.kitOne K (.ref (He.ga K "BadTime")) (.ref (He.ga K "BadTime")) = some true
  ki_BadTime_BadText : PySem.W.kitOne K (.ref (He.ga K "BadTime")) (.ref (He.ga K "BadText")) = some false
  ki_BadTime_BadCourse : PySem.W.kitOne K (.ref (He.ga K "BadTime")) (.ref (He.ga K "BadCourse")) = some false
  ki_BadTime_Nothing : PySem.W.kitOne K (.ref (He.ga K "BadTime")) (.ref (He.ga K "Nothing")) = some false
  ki_BadTime_ValueError : PySem.W.kitOne K (.ref (He.ga K "BadTime")) (.type "ValueError") = some true
  ki_BadText_BadMap : PySem.W.kitOne K (.ref (He.ga K "BadText")) (.ref (He.ga K "BadMap")) = some false
  ki_BadText_BadLift : PySem.W.kitOne K (.ref (He.ga K "BadText")) (.ref (He.ga K "BadLift")) = some false
  ki_BadText_BadPlace : PySem.W.kitOne K (.ref (He.ga K "BadText")) (.ref (He.ga K "BadPlace")) = some false
  ki_BadText_BadKeys : PySem.W.kitOne K (.ref (He.ga K "BadText")) (.ref (He.ga K "BadKeys")) = some false
  ki_BadText_BadTime : PySem.W.kitOne K (.ref (He.ga K "BadText")) (.ref (He.ga K "BadTime")) = some false
  ki_BadText_BadText : PySem.W.kitOne K (.ref (He.ga K "BadText")) (.ref (He.ga K "BadText")) = some true
  ki_BadText_BadCourse : PySem.W.kitOne K (.ref (He.ga K "BadText")) (.ref (He.ga K "BadCourse")) = some false
  ki_BadText_Nothing : PySem.W.kitOne K (.ref (He.ga K "BadText")) (.ref (He.ga K "Nothing")) = some false
  ki_BadText_ValueError : PySem.W.kitOne K (.ref (He.ga K "BadText")) (.type "ValueError") = some true
  ki_BadCourse_BadMap : PySem.W.kitOne K (.ref (He.ga K "BadCourse")) (.ref (He.ga K "BadMap")) = some false
  ki_BadCourse_BadLift : PySem.W.kitOne K (.ref (He.ga K "BadCourse")) (.ref (He.ga K "BadLift")) = some false
  ki_BadCourse_BadPlace : PySem.W.kitOne K (.ref (He.ga K "BadCourse")) (.ref (He.ga K "BadPlace")) = some false
  ki_BadCourse_BadKeys : PySem.W.kitOne K (.ref (He.ga K "BadCourse")) (.ref (He.ga K "BadKeys")) = some false
  ki_BadCourse_BadTime : PySem.W.kitOne K (.ref (He.ga K "BadCourse")) (.ref (He.ga K "BadTime")) = some false
  ki_BadCourse_BadText : PySem.W.kitOne K (.ref (He.ga K "BadCourse")) (.ref (He.ga K "BadText")) = some false
  ki_BadCourse_BadCourse : PySem.W.kitOne K (.ref (He.ga K "BadCourse")) (.ref (He.ga K "BadCourse")) = some true
  ki_BadCourse_Nothing : PySem.W.kitOne K (.ref (He.ga K "BadCourse")) (.ref (He.ga K "Nothing")) = some false
  ki_BadCourse_ValueError : PySem.W.kitOne K (.ref (He.ga K "BadCourse")) (.type "ValueError") = some true
  ki_Nothing_BadMap : PySem.W.kitOne K (.ref (He.ga K "Nothing")) (.ref (He.ga K "BadMap")) = some false
  ki_Nothing_BadLift : PySem.W.kitOne K (.ref (He.ga K "Nothing")) (.ref (He.ga K "BadLift")) = some false
  ki_Nothing_BadPlace : PySem.W.kitOne K (.ref (He.ga K "Nothing")) (.ref (He.ga K "BadPlace")) = some false
  ki_Nothing_BadKeys : PySem.W.kitOne K (.ref (He.ga K "Nothing")) (.ref (He.ga K "BadKeys")) = some false
  ki_Nothing_BadTime : PySem.W.kitOne K (.ref (He.ga K "Nothing")) (.ref (He.ga K "BadTime")) = some false
  ki_Nothing_BadText : PySem.W.kitOne K (.ref (He.ga K "Nothing")) (.ref (He.ga K "BadText")) = some false
  ki_Nothing_BadCourse : PySem.W.kitOne K (.ref (He.ga K "Nothing")) (.ref (He.ga K "BadCourse")) = some false
  ki_Nothing_Nothing : PySem.W.kitOne K (.ref (He.ga K "Nothing")) (.ref (He.ga K "Nothing")) = some true
  ki_Nothing_ValueError : PySem.W.kitOne K (.ref (He.ga K "Nothing")) (.type "ValueError") = some true
  tb__law_trails_bad : LamX.TabB base mg (He.codeOf K ("_law_trails_bad", none)) (He.tabOf K (He.codeOf K ("_law_trails_bad", none)))
  tb_law : LamX.TabB base mg (He.codeOf K ("law", none)) (He.tabOf K (He.codeOf K ("law", none)))

theorem txt {K : PySem.W.Frag} {mg : Str → Option Value} {h : Heap} (X : K.In h) (G : h.Ns mainGlobals mg) (c : He.SaysD fa fn K) (m : exB K = true) {base : Heap} (tb : ∀ p ∈ tf.map (He.cT K), LamX.TabB base mg p.1 p.2) : Txt K mg base where
  f_is_count := c.def_ 0 (d := d_is_count) rfl
  f_need_map := c.def_ 1 (d := d_need_map) rfl
  f_size := c.def_ 2 (d := d_size) rfl
  f_tile := c.def_ 3 (d := d_tile) rfl
  f_solid := c.def_ 4 (d := d_solid) rfl
  f_is_ledge := c.def_ 5 (d := d_is_ledge) rfl
  f_is_lift := c.def_ 6 (d := d_is_lift) rfl
  f_need_lift := c.def_ 7 (d := d_need_lift) rfl
  f_way_gone := c.def_ 8 (d := d_way_gone) rfl
  f_place := c.def_ 9 (d := d_place) rfl
  f_need_keys := c.def_ 10 (d := d_need_keys) rfl
  f_Runner_init := c.def_ 11 (d := d_Runner_init) rfl
  f_Runner_at := c.def_ 12 (d := d_Runner_at) rfl
  f_Runner_pace := c.def_ 13 (d := d_Runner_pace) rfl
  f_Runner_clock := c.def_ 14 (d := d_Runner_clock) rfl
  f_Runner_stands := c.def_ 15 (d := d_Runner_stands) rfl
  f_Runner_is_standing := c.def_ 16 (d := d_Runner_is_standing) rfl
  f_Runner_tick := c.def_ 17 (d := d_Runner_tick) rfl
  f_Runner_be_carried := c.def_ 18 (d := d_Runner_be_carried) rfl
  f_Runner_speed_up := c.def_ 19 (d := d_Runner_speed_up) rfl
  f_Runner_leap := c.def_ 20 (d := d_Runner_leap) rfl
  f_Runner_go_across := c.def_ 21 (d := d_Runner_go_across) rfl
  f_Runner_step_across := c.def_ 22 (d := d_Runner_step_across) rfl
  f_Runner_step_down := c.def_ 23 (d := d_Runner_step_down) rfl
  f_Runner_go_down := c.def_ 24 (d := d_Runner_go_down) rfl
  f_written := c.def_ 25 (d := d_written) rfl
  f_World_init := c.def_ 26 (d := d_World_init) rfl
  f_World_is_free := c.def_ 27 (d := d_World_is_free) rfl
  f_World_under := c.def_ 28 (d := d_World_under) rfl
  f_World_is_on_ledge := c.def_ 29 (d := d_World_is_on_ledge) rfl
  f_World_is_on_floor := c.def_ 30 (d := d_World_is_on_floor) rfl
  f_World_need_place := c.def_ 31 (d := d_World_need_place) rfl
  f_is_unit := c.def_ 32 (d := d_is_unit) rfl
  f_Course_init := c.def_ 33 (d := d_Course_init) rfl
  f_Course_covers := c.def_ 34 (d := d_Course_covers) rfl
  f_Course_look := c.def_ 35 (d := d_Course_look) rfl
  f_Course_tick := c.def_ 36 (d := d_Course_tick) rfl
  f_Course_go := c.def_ 37 (d := d_Course_go) rfl
  f_Course_back := c.def_ 38 (d := d_Course_back) rfl
  f_Course_again := c.def_ 39 (d := d_Course_again) rfl
  f_Course_at := c.def_ 40 (d := d_Course_at) rfl
  f_Course_clock := c.def_ 41 (d := d_Course_clock) rfl
  f_Course_taken := c.def_ 42 (d := d_Course_taken) rfl
  f_Course_left_over := c.def_ 43 (d := d_Course_left_over) rfl
  f_Course_done := c.def_ 44 (d := d_Course_done) rfl
  f_Course_tape := c.def_ 45 (d := d_Course_tape) rfl
  f_steps := c.def_ 46 (d := d_steps) rfl
  f_landings := c.def_ 47 (d := d_landings) rfl
  f_flights := c.def_ 48 (d := d_flights) rfl
  f_reach := c.def_ 49 (d := d_reach) rfl
  f_apart := c.def_ 50 (d := d_apart) rfl
  f__law_cell := c.def_ 51 (d := d__law_cell) rfl
  f__law_drawn := c.def_ 52 (d := d__law_drawn) rfl
  f__law_word := c.def_ 53 (d := d__law_word) rfl
  f__law_told := c.def_ 54 (d := d__law_told) rfl
  f__law_trails_bad := c.def_ 55 (d := d__law_trails_bad) rfl
  f_law := c.def_ 56 (d := d_law) rfl
  g_is_count := He.glo_ok X G (c.fact 0 (f := .glo "is_count") rfl)
  g_need_map := He.glo_ok X G (c.fact 1 (f := .glo "need_map") rfl)
  g_size := He.glo_ok X G (c.fact 2 (f := .glo "size") rfl)
  g_tile := He.glo_ok X G (c.fact 3 (f := .glo "tile") rfl)
  g_solid := He.glo_ok X G (c.fact 4 (f := .glo "solid") rfl)
  g_is_ledge := He.glo_ok X G (c.fact 5 (f := .glo "is_ledge") rfl)
  g_is_lift := He.glo_ok X G (c.fact 6 (f := .glo "is_lift") rfl)
  g_need_lift := He.glo_ok X G (c.fact 7 (f := .glo "need_lift") rfl)
  g_way_gone := He.glo_ok X G (c.fact 8 (f := .glo "way_gone") rfl)
  g_place := He.glo_ok X G (c.fact 9 (f := .glo "place") rfl)
  g_need_keys := He.glo_ok X G (c.fact 10 (f := .glo "need_keys") rfl)
  g_written := He.glo_ok X G (c.fact 11 (f := .glo "written") rfl)
  g_is_unit := He.glo_ok X G (c.fact 12 (f := .glo "is_unit") rfl)
  g_steps := He.glo_ok X G (c.fact 13 (f := .glo "steps") rfl)
  g_landings := He.glo_ok X G (c.fact 14 (f := .glo "landings") rfl)
  g_flights := He.glo_ok X G (c.fact 15 (f := .glo "flights") rfl)
  g_reach := He.glo_ok X G (c.fact 16 (f := .glo "reach") rfl)
  g_apart := He.glo_ok X G (c.fact 17 (f := .glo "apart") rfl)
  g__law_cell := He.glo_ok X G (c.fact 18 (f := .glo "_law_cell") rfl)
  g__law_drawn := He.glo_ok X G (c.fact 19 (f := .glo "_law_drawn") rfl)
  g__law_word := He.glo_ok X G (c.fact 20 (f := .glo "_law_word") rfl)
  g__law_told := He.glo_ok X G (c.fact 21 (f := .glo "_law_told") rfl)
  g__law_trails_bad := He.glo_ok X G (c.fact 22 (f := .glo "_law_trails_bad") rfl)
  g_law := He.glo_ok X G (c.fact 23 (f := .glo "law") rfl)
  u_ValueError := He.free_ok X G (c.fact 24 (f := .free "ValueError") rfl)
  u_abs := He.free_ok X G (c.fact 25 (f := .free "abs") rfl)
  u_all := He.free_ok X G (c.fact 26 (f := .free "all") rfl)
  u_any := He.free_ok X G (c.fact 27 (f := .free "any") rfl)
  u_bool := He.free_ok X G (c.fact 28 (f := .free "bool") rfl)
  u_enumerate := He.free_ok X G (c.fact 29 (f := .free "enumerate") rfl)
  u_int := He.free_ok X G (c.fact 30 (f := .free "int") rfl)
  u_isinstance := He.free_ok X G (c.fact 31 (f := .free "isinstance") rfl)
  u_len := He.free_ok X G (c.fact 32 (f := .free "len") rfl)
  u_list := He.free_ok X G (c.fact 33 (f := .free "list") rfl)
  u_max := He.free_ok X G (c.fact 34 (f := .free "max") rfl)
  u_min := He.free_ok X G (c.fact 35 (f := .free "min") rfl)
  u_range := He.free_ok X G (c.fact 36 (f := .free "range") rfl)
  u_set := He.free_ok X G (c.fact 37 (f := .free "set") rfl)
  u_sorted := He.free_ok X G (c.fact 38 (f := .free "sorted") rfl)
  u_str := He.free_ok X G (c.fact 39 (f := .free "str") rfl)
  u_sum := He.free_ok X G (c.fact 40 (f := .free "sum") rfl)
  u_tuple := He.free_ok X G (c.fact 41 (f := .free "tuple") rfl)
  c_SIDE := He.int_ok X G (c.fact 42 (f := .int "SIDE" 8) rfl)
  c_MOST_WIDE := He.int_ok X G (c.fact 43 (f := .int "MOST_WIDE" 30) rfl)
  c_MOST_HIGH := He.int_ok X G (c.fact 44 (f := .int "MOST_HIGH" 20) rfl)
  c_SIGNS := He.str_ok X G (c.fact 45 (f := .str "SIGNS" "#.<>=") rfl)
  c_MOST_lifts := He.int_ok X G (c.fact 46 (f := .int "MOST_lifts" 400) rfl)
  c_KEYS := He.str_ok X G (c.fact 47 (f := .str "KEYS" "ljrd") rfl)
  c_FASTEST := He.int_ok X G (c.fact 48 (f := .int "FASTEST" 3) rfl)
  c_FALLING := He.int_ok X G (c.fact 49 (f := .int "FALLING" 6) rfl)
  c_JUMP := He.int_ok X G (c.fact 50 (f := .int "JUMP" 6) rfl)
  c_WIDE := He.int_ok X G (c.fact 51 (f := .int "WIDE" 6) rfl)
  c_HIGH := He.int_ok X G (c.fact 52 (f := .int "HIGH" 10) rfl)
  c_MOST_worlds := He.int_ok X G (c.fact 53 (f := .int "MOST_worlds" 400) rfl)
  c_MOST_THINGS := He.int_ok X G (c.fact 54 (f := .int "MOST_THINGS" 20) rfl)
  g_Runner := He.glo_ok X G (c.fact 55 (f := .glo "Runner") rfl)
  cl_Runner := He.cls_ok (c.fact 56 (f := .cls "Runner") rfl)
  mk_Runner := He.mkr_ok (c.fact 57 (f := .mkr "Runner") rfl)
  n_Runner_world := He.noat_ok (c.fact 58 (f := .noat "Runner" "world") rfl)
  n_Runner_time := He.noat_ok (c.fact 59 (f := .noat "Runner" "time") rfl)
  n_Runner_left := He.noat_ok (c.fact 60 (f := .noat "Runner" "left") rfl)
  n_Runner_top := He.noat_ok (c.fact 61 (f := .noat "Runner" "top") rfl)
  n_Runner_across := He.noat_ok (c.fact 62 (f := .noat "Runner" "across") rfl)
  n_Runner_down := He.noat_ok (c.fact 63 (f := .noat "Runner" "down") rfl)
  n_Runner_was_jumping := He.noat_ok (c.fact 64 (f := .noat "Runner" "was_jumping") rfl)
  m_Runner_at := He.meth_ok (c.fact 65 (f := .meth "Runner" "at") rfl)
  m_Runner_pace := He.meth_ok (c.fact 66 (f := .meth "Runner" "pace") rfl)
  m_Runner_clock := He.meth_ok (c.fact 67 (f := .meth "Runner" "clock") rfl)
  m_Runner_stands := He.meth_ok (c.fact 68 (f := .meth "Runner" "stands") rfl)
  m_Runner_is_standing := He.meth_ok (c.fact 69 (f := .meth "Runner" "is_standing") rfl)
  m_Runner_tick := He.meth_ok (c.fact 70 (f := .meth "Runner" "tick") rfl)
  m_Runner_be_carried := He.meth_ok (c.fact 71 (f := .meth "Runner" "be_carried") rfl)
  m_Runner_speed_up := He.meth_ok (c.fact 72 (f := .meth "Runner" "speed_up") rfl)
  m_Runner_leap := He.meth_ok (c.fact 73 (f := .meth "Runner" "leap") rfl)
  m_Runner_go_across := He.meth_ok (c.fact 74 (f := .meth "Runner" "go_across") rfl)
  m_Runner_step_across := He.meth_ok (c.fact 75 (f := .meth "Runner" "step_across") rfl)
  m_Runner_step_down := He.meth_ok (c.fact 76 (f := .meth "Runner" "step_down") rfl)
  m_Runner_go_down := He.meth_ok (c.fact 77 (f := .meth "Runner" "go_down") rfl)
  g_World := He.glo_ok X G (c.fact 78 (f := .glo "World") rfl)
  cl_World := He.cls_ok (c.fact 79 (f := .cls "World") rfl)
  mk_World := He.mkr_ok (c.fact 80 (f := .mkr "World") rfl)
  n_World_rows := He.noat_ok (c.fact 81 (f := .noat "World" "rows") rfl)
  n_World_lifts := He.noat_ok (c.fact 82 (f := .noat "World" "lifts") rfl)
  m_World_is_free := He.meth_ok (c.fact 83 (f := .meth "World" "is_free") rfl)
  m_World_under := He.meth_ok (c.fact 84 (f := .meth "World" "under") rfl)
  m_World_is_on_ledge := He.meth_ok (c.fact 85 (f := .meth "World" "is_on_ledge") rfl)
  m_World_is_on_floor := He.meth_ok (c.fact 86 (f := .meth "World" "is_on_floor") rfl)
  m_World_need_place := He.meth_ok (c.fact 87 (f := .meth "World" "need_place") rfl)
  g_Course := He.glo_ok X G (c.fact 88 (f := .glo "Course") rfl)
  cl_Course := He.cls_ok (c.fact 89 (f := .cls "Course") rfl)
  mk_Course := He.mkr_ok (c.fact 90 (f := .mkr "Course") rfl)
  n_Course_runner := He.noat_ok (c.fact 91 (f := .noat "Course" "runner") rfl)
  n_Course_begun := He.noat_ok (c.fact 92 (f := .noat "Course" "begun") rfl)
  n_Course_things := He.noat_ok (c.fact 93 (f := .noat "Course" "things") rfl)
  n_Course_goal := He.noat_ok (c.fact 94 (f := .noat "Course" "goal") rfl)
  n_Course_rows := He.noat_ok (c.fact 95 (f := .noat "Course" "rows") rfl)
  n_Course_gone_back := He.noat_ok (c.fact 96 (f := .noat "Course" "gone_back") rfl)
  n_Course_got := He.noat_ok (c.fact 97 (f := .noat "Course" "got") rfl)
  n_Course_reached := He.noat_ok (c.fact 98 (f := .noat "Course" "reached") rfl)
  m_Course_covers := He.meth_ok (c.fact 99 (f := .meth "Course" "covers") rfl)
  m_Course_look := He.meth_ok (c.fact 100 (f := .meth "Course" "look") rfl)
  m_Course_tick := He.meth_ok (c.fact 101 (f := .meth "Course" "tick") rfl)
  m_Course_go := He.meth_ok (c.fact 102 (f := .meth "Course" "go") rfl)
  m_Course_back := He.meth_ok (c.fact 103 (f := .meth "Course" "back") rfl)
  m_Course_again := He.meth_ok (c.fact 104 (f := .meth "Course" "again") rfl)
  m_Course_at := He.meth_ok (c.fact 105 (f := .meth "Course" "at") rfl)
  m_Course_clock := He.meth_ok (c.fact 106 (f := .meth "Course" "clock") rfl)
  m_Course_taken := He.meth_ok (c.fact 107 (f := .meth "Course" "taken") rfl)
  m_Course_left_over := He.meth_ok (c.fact 108 (f := .meth "Course" "left_over") rfl)
  m_Course_done := He.meth_ok (c.fact 109 (f := .meth "Course" "done") rfl)
  m_Course_tape := He.meth_ok (c.fact 110 (f := .meth "Course" "tape") rfl)
  g_RunError := He.glo_ok X G (c.fact 111 (f := .glo "RunError") rfl)
  x_RunError := ⟨He.glo_ok X G (c.fact 111 (f := .glo "RunError") rfl), (He.exc_ok (c.fact 112 (f := .exc "RunError") rfl)).1, (He.exc_ok (c.fact 112 (f := .exc "RunError") rfl)).2.1, (He.exc_ok (c.fact 112 (f := .exc "RunError") rfl)).2.2.1, (He.exc_ok (c.fact 112 (f := .exc "RunError") rfl)).2.2.2⟩
  g_BadMap := He.glo_ok X G (c.fact 113 (f := .glo "BadMap") rfl)
  x_BadMap := ⟨He.glo_ok X G (c.fact 113 (f := .glo "BadMap") rfl), (He.exc_ok (c.fact 114 (f := .exc "BadMap") rfl)).1, (He.exc_ok (c.fact 114 (f := .exc "BadMap") rfl)).2.1, (He.exc_ok (c.fact 114 (f := .exc "BadMap") rfl)).2.2.1, (He.exc_ok (c.fact 114 (f := .exc "BadMap") rfl)).2.2.2⟩
  g_BadLift := He.glo_ok X G (c.fact 115 (f := .glo "BadLift") rfl)
  x_BadLift := ⟨He.glo_ok X G (c.fact 115 (f := .glo "BadLift") rfl), (He.exc_ok (c.fact 116 (f := .exc "BadLift") rfl)).1, (He.exc_ok (c.fact 116 (f := .exc "BadLift") rfl)).2.1, (He.exc_ok (c.fact 116 (f := .exc "BadLift") rfl)).2.2.1, (He.exc_ok (c.fact 116 (f := .exc "BadLift") rfl)).2.2.2⟩
  g_BadPlace := He.glo_ok X G (c.fact 117 (f := .glo "BadPlace") rfl)
  x_BadPlace := ⟨He.glo_ok X G (c.fact 117 (f := .glo "BadPlace") rfl), (He.exc_ok (c.fact 118 (f := .exc "BadPlace") rfl)).1, (He.exc_ok (c.fact 118 (f := .exc "BadPlace") rfl)).2.1, (He.exc_ok (c.fact 118 (f := .exc "BadPlace") rfl)).2.2.1, (He.exc_ok (c.fact 118 (f := .exc "BadPlace") rfl)).2.2.2⟩
  g_BadKeys := He.glo_ok X G (c.fact 119 (f := .glo "BadKeys") rfl)
  x_BadKeys := ⟨He.glo_ok X G (c.fact 119 (f := .glo "BadKeys") rfl), (He.exc_ok (c.fact 120 (f := .exc "BadKeys") rfl)).1, (He.exc_ok (c.fact 120 (f := .exc "BadKeys") rfl)).2.1, (He.exc_ok (c.fact 120 (f := .exc "BadKeys") rfl)).2.2.1, (He.exc_ok (c.fact 120 (f := .exc "BadKeys") rfl)).2.2.2⟩
  g_BadTime := He.glo_ok X G (c.fact 121 (f := .glo "BadTime") rfl)
  x_BadTime := ⟨He.glo_ok X G (c.fact 121 (f := .glo "BadTime") rfl), (He.exc_ok (c.fact 122 (f := .exc "BadTime") rfl)).1, (He.exc_ok (c.fact 122 (f := .exc "BadTime") rfl)).2.1, (He.exc_ok (c.fact 122 (f := .exc "BadTime") rfl)).2.2.1, (He.exc_ok (c.fact 122 (f := .exc "BadTime") rfl)).2.2.2⟩
  g_BadText := He.glo_ok X G (c.fact 123 (f := .glo "BadText") rfl)
  x_BadText := ⟨He.glo_ok X G (c.fact 123 (f := .glo "BadText") rfl), (He.exc_ok (c.fact 124 (f := .exc "BadText") rfl)).1, (He.exc_ok (c.fact 124 (f := .exc "BadText") rfl)).2.1, (He.exc_ok (c.fact 124 (f := .exc "BadText") rfl)).2.2.1, (He.exc_ok (c.fact 124 (f := .exc "BadText") rfl)).2.2.2⟩
  g_BadCourse := He.glo_ok X G (c.fact 125 (f := .glo "BadCourse") rfl)
  x_BadCourse := ⟨He.glo_ok X G (c.fact 125 (f := .glo "BadCourse") rfl), (He.exc_ok (c.fact 126 (f := .exc "BadCourse") rfl)).1, (He.exc_ok (c.fact 126 (f := .exc "BadCourse") rfl)).2.1, (He.exc_ok (c.fact 126 (f := .exc "BadCourse") rfl)).2.2.1, (He.exc_ok (c.fact 126 (f := .exc "BadCourse") rfl)).2.2.2⟩
  g_Nothing := He.glo_ok X G (c.fact 127 (f := .glo "Nothing") rfl)
  x_Nothing := ⟨He.glo_ok X G (c.fact 127 (f := .glo "Nothing") rfl), (He.exc_ok (c.fact 128 (f := .exc "Nothing") rfl)).1, (He.exc_ok (c.fact 128 (f := .exc "Nothing") rfl)).2.1, (He.exc_ok (c.fact 128 (f := .exc "Nothing") rfl)).2.2.1, (He.exc_ok (c.fact 128 (f := .exc "Nothing") rfl)).2.2.2⟩
  e_RunError_RunError := He.exm_ok (c.fact 129 (f := .exm "RunError" "RunError" true) rfl)
  e_BadMap_RunError := He.exm_ok (c.fact 130 (f := .exm "BadMap" "RunError" true) rfl)
  e_BadLift_RunError := He.exm_ok (c.fact 131 (f := .exm "BadLift" "RunError" true) rfl)
  e_BadPlace_RunError := He.exm_ok (c.fact 132 (f := .exm "BadPlace" "RunError" true) rfl)
  e_BadKeys_RunError := He.exm_ok (c.fact 133 (f := .exm "BadKeys" "RunError" true) rfl)
  e_BadKeys_BadKeys := He.exm_ok (c.fact 134 (f := .exm "BadKeys" "BadKeys" true) rfl)
  e_BadTime_RunError := He.exm_ok (c.fact 135 (f := .exm "BadTime" "RunError" true) rfl)
  e_BadText_RunError := He.exm_ok (c.fact 136 (f := .exm "BadText" "RunError" true) rfl)
  e_BadCourse_RunError := He.exm_ok (c.fact 137 (f := .exm "BadCourse" "RunError" true) rfl)
  e_Nothing_RunError := He.exm_ok (c.fact 138 (f := .exm "Nothing" "RunError" true) rfl)
  ec_BadMap := excB_ok (List.all_eq_true.mp m _ (List.mem_of_getElem? (l := exl K) (i := 0) rfl))
  ec_BadLift := excB_ok (List.all_eq_true.mp m _ (List.mem_of_getElem? (l := exl K) (i := 1) rfl))
  ec_BadPlace := excB_ok (List.all_eq_true.mp m _ (List.mem_of_getElem? (l := exl K) (i := 2) rfl))
  ec_BadKeys := excB_ok (List.all_eq_true.mp m _ (List.mem_of_getElem? (l := exl K) (i := 3) rfl))
  ec_BadTime := excB_ok (List.all_eq_true.mp m _ (List.mem_of_getElem? (l := exl K) (i := 4) rfl))
  ec_BadText := excB_ok (List.all_eq_true.mp m _ (List.mem_of_getElem? (l := exl K) (i := 5) rfl))
  ec_BadCourse := excB_ok (List.all_eq_true.mp m _ (List.mem_of_getElem? (l := exl K) (i := 6) rfl))
  ec_Nothing := excB_ok (List.all_eq_true.mp m _ (List.mem_of_getElem? (l := exl K) (i := 7) rfl))
  ki_BadMap_BadMap := kitsB_ok (List.all_eq_true.mp m _ (List.mem_of_getElem? (l := exl K) (i := 8) rfl))
  ki_BadMap_BadLift := kitsB_ok (List.all_eq_true.mp m _ (List.mem_of_getElem? (l := exl K) (i := 9) rfl))
  ki_BadMap_BadPlace := kitsB_ok (List.all_eq_true.mp m _ (List.mem_of_getElem? (l := exl K) (i := 10) rfl))
  ki_BadMap_BadKeys := kitsB_ok (List.all_eq_true.mp m _ (List.mem_of_getElem? (l := exl K) (i := 11) rfl))
  ki_BadMap_BadTime := kitsB_ok (List.all_eq_true.mp m _ (List.mem_of_getElem? (l := exl K) (i := 12) rfl))
  ki_BadMap_BadText := kitsB_ok (List.all_eq_true.mp m _ (List.mem_of_getElem? (l := exl K) (i := 13) rfl))
  ki_BadMap_BadCourse := kitsB_ok (List.all_eq_true.mp m _ (List.mem_of_getElem? (l := exl K) (i := 14) rfl))
  ki_BadMap_Nothing := kitsB_ok (List.all_eq_true.mp m _ (List.mem_of_getElem? (l := exl K) (i := 15) rfl))
  ki_BadMap_ValueError := kitsB_ok (List.all_eq_true.mp m _ (List.mem_of_getElem? (l := exl K) (i := 16) rfl))
  ki_BadLift_BadMap := kitsB_ok (List.all_eq_true.mp m _ (List.mem_of_getElem? (l := exl K) (i := 17) rfl))
  ki_BadLift_BadLift := kitsB_ok (List.all_eq_true.mp m _ (List.mem_of_getElem? (l := exl K) (i := 18) rfl))
  ki_BadLift_BadPlace := kitsB_ok (List.all_eq_true.mp m _ (List.mem_of_getElem? (l := exl K) (i := 19) rfl))
  ki_BadLift_BadKeys := kitsB_ok (List.all_eq_true.mp m _ (List.mem_of_getElem? (l := exl K) (i := 20) rfl))
  ki_BadLift_BadTime := kitsB_ok (List.all_eq_true.mp m _ (List.mem_of_getElem? (l := exl K) (i := 21) rfl))
  ki_BadLift_BadText := kitsB_ok (List.all_eq_true.mp m _ (List.mem_of_getElem? (l := exl K) (i := 22) rfl))
  ki_BadLift_BadCourse := kitsB_ok (List.all_eq_true.mp m _ (List.mem_of_getElem? (l := exl K) (i := 23) rfl))
  ki_BadLift_Nothing := kitsB_ok (List.all_eq_true.mp m _ (List.mem_of_getElem? (l := exl K) (i := 24) rfl))
  ki_BadLift_ValueError := kitsB_ok (List.all_eq_true.mp m _ (List.mem_of_getElem? (l := exl K) (i := 25) rfl))
  ki_BadPlace_BadMap := kitsB_ok (List.all_eq_true.mp m _ (List.mem_of_getElem? (l := exl K) (i := 26) rfl))
  ki_BadPlace_BadLift := kitsB_ok (List.all_eq_true.mp m _ (List.mem_of_getElem? (l := exl K) (i := 27) rfl))
  ki_BadPlace_BadPlace := kitsB_ok (List.all_eq_true.mp m _ (List.mem_of_getElem? (l := exl K) (i := 28) rfl))
  ki_BadPlace_BadKeys := kitsB_ok (List.all_eq_true.mp m _ (List.mem_of_getElem? (l := exl K) (i := 29) rfl))
  ki_BadPlace_BadTime := kitsB_ok (List.all_eq_true.mp m _ (List.mem_of_getElem? (l := exl K) (i := 30) rfl))
  ki_BadPlace_BadText := kitsB_ok (List.all_eq_true.mp m _ (List.mem_of_getElem? (l := exl K) (i := 31) rfl))
  ki_BadPlace_BadCourse := kitsB_ok (List.all_eq_true.mp m _ (List.mem_of_getElem? (l := exl K) (i := 32) rfl))
  ki_BadPlace_Nothing := kitsB_ok (List.all_eq_true.mp m _ (List.mem_of_getElem? (l := exl K) (i := 33) rfl))
  ki_BadPlace_ValueError := kitsB_ok (List.all_eq_true.mp m _ (List.mem_of_getElem? (l := exl K) (i := 34) rfl))
  ki_BadKeys_BadMap := kitsB_ok (List.all_eq_true.mp m _ (List.mem_of_getElem? (l := exl K) (i := 35) rfl))
  ki_BadKeys_BadLift := kitsB_ok (List.all_eq_true.mp m _ (List.mem_of_getElem? (l := exl K) (i := 36) rfl))
  ki_BadKeys_BadPlace := kitsB_ok (List.all_eq_true.mp m _ (List.mem_of_getElem? (l := exl K) (i := 37) rfl))
  ki_BadKeys_BadKeys := kitsB_ok (List.all_eq_true.mp m _ (List.mem_of_getElem? (l := exl K) (i := 38) rfl))
  ki_BadKeys_BadTime := kitsB_ok (List.all_eq_true.mp m _ (List.mem_of_getElem? (l := exl K) (i := 39) rfl))
  ki_BadKeys_BadText := kitsB_ok (List.all_eq_true.mp m _ (List.mem_of_getElem? (l := exl K) (i := 40) rfl))
  ki_BadKeys_BadCourse := kitsB_ok (List.all_eq_true.mp m _ (List.mem_of_getElem? (l := exl K) (i := 41) rfl))
  ki_BadKeys_Nothing := kitsB_ok (List.all_eq_true.mp m _ (List.mem_of_getElem? (l := exl K) (i := 42) rfl))
  ki_BadKeys_ValueError := kitsB_ok (List.all_eq_true.mp m _ (List.mem_of_getElem? (l := exl K) (i := 43) rfl))
  ki_BadTime_BadMap := kitsB_ok (List.all_eq_true.mp m _ (List.mem_of_getElem? (l := exl K) (i := 44) rfl))
  ki_BadTime_BadLift := kitsB_ok (List.all_eq_true.mp m _ (List.mem_of_getElem? (l := exl K) (i := 45) rfl))
  ki_BadTime_BadPlace := kitsB_ok (List.all_eq_true.mp m _ (List.mem_of_getElem? (l := exl K) (i := 46) rfl))
  ki_BadTime_BadKeys := kitsB_ok (List.all_eq_true.mp m _ (List.mem_of_getElem? (l := exl K) (i := 47) rfl))
  ki_BadTime_BadTime := kitsB_ok (List.all_eq_true.mp m _ (List.mem_of_getElem? (l := exl K) (i := 48) rfl))
  ki_BadTime_BadText := kitsB_ok (List.all_eq_true.mp m _ (List.mem_of_getElem? (l := exl K) (i := 49) rfl))
  ki_BadTime_BadCourse := kitsB_ok (List.all_eq_true.mp m _ (List.mem_of_getElem? (l := exl K) (i := 50) rfl))
  ki_BadTime_Nothing := kitsB_ok (List.all_eq_true.mp m _ (List.mem_of_getElem? (l := exl K) (i := 51) rfl))
  ki_BadTime_ValueError := kitsB_ok (List.all_eq_true.mp m _ (List.mem_of_getElem? (l := exl K) (i := 52) rfl))
  ki_BadText_BadMap := kitsB_ok (List.all_eq_true.mp m _ (List.mem_of_getElem? (l := exl K) (i := 53) rfl))
  ki_BadText_BadLift := kitsB_ok (List.all_eq_true.mp m _ (List.mem_of_getElem? (l := exl K) (i := 54) rfl))
  ki_BadText_BadPlace := kitsB_ok (List.all_eq_true.mp m _ (List.mem_of_getElem? (l := exl K) (i := 55) rfl))
  ki_BadText_BadKeys := kitsB_ok (List.all_eq_true.mp m _ (List.mem_of_getElem? (l := exl K) (i := 56) rfl))
  ki_BadText_BadTime := kitsB_ok (List.all_eq_true.mp m _ (List.mem_of_getElem? (l := exl K) (i := 57) rfl))
  ki_BadText_BadText := kitsB_ok (List.all_eq_true.mp m _ (List.mem_of_getElem? (l := exl K) (i := 58) rfl))
  ki_BadText_BadCourse := kitsB_ok (List.all_eq_true.mp m _ (List.mem_of_getElem? (l := exl K) (i := 59) rfl))
  ki_BadText_Nothing := kitsB_ok (List.all_eq_true.mp m _ (List.mem_of_getElem? (l := exl K) (i := 60) rfl))
  ki_BadText_ValueError := kitsB_ok (List.all_eq_true.mp m _ (List.mem_of_getElem? (l := exl K) (i := 61) rfl))
  ki_BadCourse_BadMap := kitsB_ok (List.all_eq_true.mp m _ (List.mem_of_getElem? (l := exl K) (i := 62) rfl))
  ki_BadCourse_BadLift := kitsB_ok (List.all_eq_true.mp m _ (List.mem_of_getElem? (l := exl K) (i := 63) rfl))
  ki_BadCourse_BadPlace := kitsB_ok (List.all_eq_true.mp m _ (List.mem_of_getElem? (l := exl K) (i := 64) rfl))
  ki_BadCourse_BadKeys := kitsB_ok (List.all_eq_true.mp m _ (List.mem_of_getElem? (l := exl K) (i := 65) rfl))
  ki_BadCourse_BadTime := kitsB_ok (List.all_eq_true.mp m _ (List.mem_of_getElem? (l := exl K) (i := 66) rfl))
  ki_BadCourse_BadText := kitsB_ok (List.all_eq_true.mp m _ (List.mem_of_getElem? (l := exl K) (i := 67) rfl))
  ki_BadCourse_BadCourse := kitsB_ok (List.all_eq_true.mp m _ (List.mem_of_getElem? (l := exl K) (i := 68) rfl))
  ki_BadCourse_Nothing := kitsB_ok (List.all_eq_true.mp m _ (List.mem_of_getElem? (l := exl K) (i := 69) rfl))
  ki_BadCourse_ValueError := kitsB_ok (List.all_eq_true.mp m _ (List.mem_of_getElem? (l := exl K) (i := 70) rfl))
  ki_Nothing_BadMap := kitsB_ok (List.all_eq_true.mp m _ (List.mem_of_getElem? (l := exl K) (i := 71) rfl))
  ki_Nothing_BadLift := kitsB_ok (List.all_eq_true.mp m _ (List.mem_of_getElem? (l := exl K) (i := 72) rfl))
  ki_Nothing_BadPlace := kitsB_ok (List.all_eq_true.mp m _ (List.mem_of_getElem? (l := exl K) (i := 73) rfl))
  ki_Nothing_BadKeys := kitsB_ok (List.all_eq_true.mp m _ (List.mem_of_getElem? (l := exl K) (i := 74) rfl))
  ki_Nothing_BadTime := kitsB_ok (List.all_eq_true.mp m _ (List.mem_of_getElem? (l := exl K) (i := 75) rfl))
  ki_Nothing_BadText := kitsB_ok (List.all_eq_true.mp m _ (List.mem_of_getElem? (l := exl K) (i := 76) rfl))
  ki_Nothing_BadCourse := kitsB_ok (List.all_eq_true.mp m _ (List.mem_of_getElem? (l := exl K) (i := 77) rfl))
  ki_Nothing_Nothing := kitsB_ok (List.all_eq_true.mp m _ (List.mem_of_getElem? (l := exl K) (i := 78) rfl))
  ki_Nothing_ValueError := kitsB_ok (List.all_eq_true.mp m _ (List.mem_of_getElem? (l := exl K) (i := 79) rfl))
  tb__law_trails_bad := tb _ (List.mem_of_getElem? (l := tf.map (He.cT K)) (i := 0) rfl)
  tb_law := tb _ (List.mem_of_getElem? (l := tf.map (He.cT K)) (i := 1) rfl)

abbrev ks_Runner : List Str := ["world", "time", "left", "top", "across", "down", "was_jumping"]

abbrev ks_World : List Str := ["rows", "lifts"]

abbrev ks_Course : List Str := ["runner", "begun", "things", "goal", "rows", "gone_back", "got", "reached"]

section
variable {P : Program} {w : World} {K : PySem.W.Frag} {mg : Str → Option Value} {base : Heap}

abbrev N__law_told : List Str := ["_law_deed", "_law_e"]
theorem sc__law_told : FnScope N__law_told ["_law_deed"] (defScope s__law_told) := ⟨rfl, rfl, rfl, by decide +kernel, rfl, by decide +kernel, by decide +kernel⟩

def ct_is_count : Ct := fun ds M Q _ => ∃ d lo hi, ds = [d, .int lo, .int hi] ∧ (tyN M d).isSome = true ∧ Q (.bl (isCount d lo hi)) M

abbrev N_is_count : List Str := ["thing", "low", "high"]
theorem sc_is_count : FnScope N_is_count ["thing", "low", "high"] (defScope s_is_count) := ⟨rfl, rfl, rfl, by decide +kernel, rfl, by decide +kernel, by decide +kernel⟩
theorem ok_is_count (T : Txt K mg base) : Ok P w K mg base 1 (He.fAd K ("is_count", none)) ["thing", "low", "high"] 3 ct_is_count := by
  obtain ⟨fd, F⟩ := T.f_is_count
  have nd := sc_is_count.nd
  refine Ok.of F (F.bindsN fun _ _ _ _ _ _ us hl => match us, hl with | [_, _, _], _ => rfl) sc_is_count rfl fun cdv A outer s c jx tk hp hr => ⟨_, (jss_one (js_ret (je_and (je_isi .int rfl T.u_isinstance rfl T.u_int boot_int (je_var 0 (pv 0))) (je_and (je_not (je_isi .bl rfl T.u_isinstance rfl T.u_bool boot_bool (je_var 0 (pv 0)))) (je_one (je_chain jo_le jo_le (je_var 1 (pv 1)) (je_var 0 (pv 0)) (je_var 2 (pv 2)))))))), fun ds M Q h => ?_⟩
  clear hr hp tk jx nd F T
  obtain ⟨d, lo, hi, rfl, ht, hq⟩ := h
  obtain ⟨a, ha⟩ := Option.isSome_iff_exists.mp ht
  refine ⟨a, ha, ?_⟩
  cases d with
  | int i =>
    cases ha
    refine ⟨fun _ => ⟨_, rfl, ⟨fun _ => ⟨fun h1 => ?_, fun h1 => ?_⟩, fun z => Bool.noConfusion z⟩⟩, fun z => Bool.noConfusion z⟩
    · refine .inl ?_
      have e : isCount (.int i) lo hi = decide (i ≤ hi) := by show (decide (lo ≤ i) && decide (i ≤ hi)) = _; rw [h1]; rfl
      rw [e] at hq; exact hq
    · refine .inl ?_
      have e : isCount (.int i) lo hi = false := by show (decide (lo ≤ i) && decide (i ≤ hi)) = _; rw [h1]; rfl
      rw [e] at hq; exact hq
  | bl b =>
    cases ha
    exact ⟨fun _ => ⟨_, rfl, ⟨fun z => Bool.noConfusion z, fun _ => .inl hq⟩⟩, fun z => Bool.noConfusion z⟩
  | ref r =>
    have e : isB a .int = false := by
      unfold tyN at ha
      dsimp only at ha
      split at ha <;> cases ha <;> rfl
    exact ⟨fun z => (by rw [e] at z; cases z), fun _ => .inl hq⟩
  | _ => cases ha <;> exact ⟨fun z => Bool.noConfusion z, fun _ => .inl hq⟩

def ct_need_map (K : PySem.W.Frag) : Ct := fun ds M Q E => ∃ d, ds = [d] ∧ MapLike M d ∧ (isMap d = true → Q .non M) ∧ (isMap d = false → E (He.ga K "BadMap") M)

abbrev N_need_map : List Str := ["rows", "good", "row", "sign"]
theorem sc_need_map : FnScope N_need_map ["rows"] (defScope s_need_map) := ⟨rfl, rfl, rfl, by decide +kernel, rfl, by decide +kernel, by decide +kernel⟩
theorem ok_need_map (T : Txt K mg base) : Ok P w K mg base 1 (He.fAd K ("need_map", none)) ["rows"] 1 (ct_need_map K) := by
  obtain ⟨fd, F⟩ := T.f_need_map
  have nd := sc_need_map.nd
  refine Ok.of F (F.bindsN fun _ _ _ _ _ _ us hl => match us, hl with | [_], _ => rfl) sc_need_map rfl fun cdv A outer s c jx tk hp hr => ⟨_, (jss_cons (js_set (i := 1) nd rfl (by first | exact Or.inl rfl | exact Or.inr rfl) (je_and (je_isi .lst rfl T.u_isinstance rfl T.u_list boot_list (je_var 0 (pv 0))) (je_and (je_chain jo_le jo_le je_int (je_callB jc_len rfl T.u_len boot_len (ja_cons (je_var 0 (pv 0)) ja_nil)) (je_gint rfl T.c_MOST_HIGH)) (je_one (je_callB (jc_all rfl) rfl T.u_all boot_all (ja_cons (je_lc (own := [("row", 2)]) rfl nd (ji_list (je_var 0 (pv 0))) (blkOk_by (N := N_need_map) (sc := (defScope s_need_map)) (own := [("row", 2)]) (by decide +kernel)) (fun _ _ _ _ _ => (jgc_name (i := 2) nd rfl (by first | exact Or.inl rfl | exact Or.inr rfl))) (fun _ _ _ _ _ => jts_nil) (fun _ _ _ _ _ => (je_isi .str rfl T.u_isinstance rfl T.u_str boot_str (je_var 2 (pv 2))))) ja_nil))))))
    (jss_cons (js_if (JW.pt (jw_or (jt_not (jt_val (je_var 1 (pv 1)))) (jw_or (jt_not (jt_chain jo_le jo_le je_int (je_callB jc_len rfl T.u_len boot_len (ja_cons (je_ix ji_seq (je_var 0 (pv 0)) je_int) ja_nil)) (je_gint rfl T.c_MOST_WIDE))) (jw_or1 (jt_not (jt_val (je_callB (jc_all rfl) rfl T.u_all boot_all (ja_cons (je_lc (own := [("row", 2)]) rfl nd (ji_list (je_var 0 (pv 0))) (blkOk_by (N := N_need_map) (sc := (defScope s_need_map)) (own := [("row", 2)]) (by decide +kernel)) (fun _ _ _ _ _ => (jgc_name (i := 2) nd rfl (by first | exact Or.inl rfl | exact Or.inr rfl))) (fun _ _ _ _ _ => jts_nil) (fun _ _ _ _ _ => (je_cmp (jo_eq (room_units hr)) (je_callB jc_len rfl T.u_len boot_len (ja_cons (je_var 2 (pv 2)) ja_nil)) (je_callB jc_len rfl T.u_len boot_len (ja_cons (je_ix ji_seq (je_var 0 (pv 0)) je_int) ja_nil))))) ja_nil))))))))
    (jss_one (js_raise jx tk rfl T.x_BadMap.e T.x_BadMap.g T.x_BadMap.k T.x_BadMap.s T.x_BadMap.t rfl))
    jss_nil)
    (jss_one (js_if (jt_not (jt_val (je_callB (jc_all rfl) rfl T.u_all boot_all (ja_cons (je_lc (own := [("row", 2)]) rfl nd (ji_list (je_var 0 (pv 0))) (blkOk_by (N := N_need_map) (sc := (defScope s_need_map)) (own := [("row", 2)]) (by decide +kernel)) (fun _ _ _ _ _ => (jgc_name (i := 2) nd rfl (by first | exact Or.inl rfl | exact Or.inr rfl))) (fun _ _ _ _ _ => jts_nil) (fun _ _ _ _ _ => (je_callB (jc_all rfl) rfl T.u_all boot_all (ja_cons (je_lc (own := [("sign", 3)]) rfl nd (ji_str (je_var 2 (pv 2))) (blkOk_by (N := N_need_map) (sc := (L2.relS _ (defScope s_need_map))) (own := [("sign", 3)]) (by decide +kernel)) (fun _ _ _ _ _ => (jgc_name (i := 3) nd rfl (by first | exact Or.inl rfl | exact Or.inr rfl))) (fun _ _ _ _ _ => jts_nil) (fun _ _ _ _ _ => (je_cmp jo_inS (je_var 3 (pv 3)) (je_gstr rfl T.c_SIGNS)))) ja_nil)))) ja_nil))))
    (jss_one (js_raise jx tk rfl T.x_BadMap.e T.x_BadMap.g T.x_BadMap.k T.x_BadMap.s T.x_BadMap.t rfl))
    jss_nil)))), fun ds M Q h => ?_⟩
  clear hr hp tk jx nd F T
  obtain ⟨d, rfl, hk, hq, he⟩ := h
  rcases hk with ⟨xs, rfl, hx⟩ | ⟨a, ha, hb, hm⟩
  · have bad : (∀ (rs : List Str) W H, xs = rs.map D.str → Grid rs W H → False) → c.Ed (He.ga K "BadMap") M := fun hn => he (by
      cases e : isMap (.lst xs) with
      | false => rfl
      | true =>
        obtain ⟨rs, W, H, e2, g⟩ := isMap_inv e
        exact (hn rs W H (D.lst.inj e2) g).elim)
    have long : ∀ (rs : List Str) W H, xs = rs.map D.str → Grid rs W H → 1 ≤ (xs.length : Int) ∧ (xs.length : Int) ≤ 20 := fun rs W H e g => by
      have := g.len; have := g.h1; have := g.h2
      rw [e, List.length_map]; omega
    refine ⟨.lst, rfl, tt ⟨_, rfl, fun h1 => ⟨fun h2 => ?_, fun h2 => ?_⟩, fun h1 => ?_⟩⟩
    · have h1 : 1 ≤ (xs.length : Int) := of_decide_eq_true h1
      have h2 : (xs.length : Int) ≤ 20 := of_decide_eq_true h2
      have hl : xs.length ≤ sizeLine := Nat.le_trans (show xs.length ≤ 20 by omega) (by decide)
      refine lc_map xs (fun x => .bl (strB x)) trivial hl (fun x hxm yes no hy => ?_) ?_
      · obtain ⟨a, ha⟩ := Option.isSome_iff_exists.mp (hx x hxm).1
        refine tt ⟨a, ha, ?_⟩
        rw [strB_ty ha]; exact hy
      · refine ⟨xs.map strB, congrArg some (map_bl strB xs), fun h3 => tt (bad fun rs W H e g => ?_), fun h3 => ?_⟩
        · rw [e, strB_map] at h3
          cases h3
        · rw [Bool.not_eq_false'] at h3
          obtain ⟨rs, rfl⟩ := strs_of h3
          rw [List.length_map] at h1 h2 hl
          cases rs with
          | nil => exact absurd h1 (by decide)
          | cons r t =>
            have same : ∀ {rs : List Str}, (r :: t).map D.str = rs.map D.str → rs = r :: t := fun {rs} e =>
              Option.some.inj ((strsOf_map rs).symm.trans ((congrArg strsOf e.symm).trans (strsOf_map (r :: t))))
            have hrl : r.length ≤ sizeLine := (hx (.str r) List.mem_cons_self).2 r rfl
            refine ⟨_, .str r, rfl, atI_zero, hrl, fun h4 => ⟨fun h5 => tt (bad fun rs W H e g => ?_), fun h5 => ?_⟩, fun h4 => tt (tt (bad fun rs W H e g => ?_))⟩
            · have := same e
              subst this
              have h5 : ¬ ((r.length : Int) ≤ 30) := of_decide_eq_false ((Bool.not_eq_true' _).mp h5)
              have := g.row r List.mem_cons_self
              have := g.w2
              omega
            · refine lc_map _ (fun x => .bl (lenB r.length x)) trivial (by rw [List.length_map]; exact hl) (fun x hxm yes no hy => ?_) ?_
              · obtain ⟨s, hs, rfl⟩ := List.mem_map.mp hxm
                exact tt ⟨(hx _ hxm).2 s rfl, _, .str r, rfl, atI_zero, hrl, hy⟩
              · refine ⟨_, congrArg some (map_bl (lenB r.length) _), fun h6 => bad fun rs W H e g => ?_, fun h6 => ?_⟩
                · have := same e
                  subst this
                  rw [lenB_all2 (fun s hs => by rw [g.row s hs, g.row r List.mem_cons_self])] at h6
                  cases h6
                · refine lc_map _ (fun x => .bl (sgB x)) trivial (by rw [List.length_map]; exact hl) (fun x hxm yes no hy => ?_) ?_
                  · obtain ⟨s, hs, rfl⟩ := List.mem_map.mp hxm
                    refine tt (lc_map _ (fun x => match x with
                      | .str ⟨#[c]⟩ => .bl (isSign c)
                      | _ => .bl false) trivial ?_ (fun x hxm yes no hy => ?_) ?_)
                    · rw [List.length_map, Array.length_toList]
                      exact (hx _ (List.mem_map_of_mem hs)).2 s rfl
                    · obtain ⟨c, _, rfl⟩ := List.mem_map.mp hxm
                      exact tt ⟨c, rfl, hy⟩
                    · refine ⟨s.cps.toList.map isSign, ?_, ?_⟩
                      · show some _ = some _
                        rw [List.map_map, List.map_map]
                        rfl
                      · have e : (s.cps.toList.map isSign).all id = sgB (.str s) := by
                          rw [List.all_map]; rfl
                        rw [e]
                        exact hy
                  · refine ⟨_, congrArg some (map_bl sgB _), fun h7 => bad fun rs W H e g => ?_, fun h7 => .inl (hq ?_)⟩
                    · have := same e
                      subst this
                      rw [sgB_all2 g.sg] at h7
                      cases h7
                    · rw [Bool.not_eq_false'] at h6 h7
                      have h4 : 1 ≤ (r.length : Int) := of_decide_eq_true h4
                      have h5 : (r.length : Int) ≤ 30 := of_decide_eq_true ((Bool.not_eq_false' _).mp h5)
                      rw [List.length_cons] at h1 h2
                      exact isMap_rows (W := r.length) (H := (r :: t).length) ⟨rfl, by rw [List.length_cons]; omega, by rw [List.length_cons]; omega, by omega, by omega, lenB_all h6, sgB_all h7⟩
            · have := same e
              subst this
              have h4 : ¬ (1 ≤ (r.length : Int)) := of_decide_eq_false h4
              have := g.row r List.mem_cons_self
              have := g.w1
              omega
    · refine tt (tt (bad fun rs W H e g => ?_))
      have := long rs W H e g
      have h2 : ¬ ((xs.length : Int) ≤ 20) := of_decide_eq_false h2
      omega
    · refine ff (tt (tt (bad fun rs W H e g => ?_)))
      have := long rs W H e g
      have h1 : ¬ (1 ≤ (xs.length : Int)) := of_decide_eq_false h1
      omega
  · refine ⟨a, ha, ?_⟩
    rw [hb]
    exact ff (tt (tt (he hm)))

def ct_size : Ct := fun ds M Q _ => ∃ rs W H, ds = [rowsD rs] ∧ Grid rs W H ∧ Q (.tup [.int (8 * (W : Int)), .int (8 * (H : Int))]) M

abbrev N_size : List Str := ["rows"]
theorem sc_size : FnScope N_size ["rows"] (defScope s_size) := ⟨rfl, rfl, rfl, by decide +kernel, rfl, by decide +kernel, by decide +kernel⟩
theorem ok_size (T : Txt K mg base) : Ok P w K mg base 1 (He.fAd K ("size", none)) ["rows"] 1 ct_size := by
  obtain ⟨fd, F⟩ := T.f_size
  have nd := sc_size.nd
  refine Ok.of F (F.bindsN fun _ _ _ _ _ _ us hl => match us, hl with | [_], _ => rfl) sc_size rfl fun cdv A outer s c jx tk hp hr => ⟨_, (jss_one (js_ret (je_tup (ja_cons (je_op jo_mul (je_gint rfl T.c_SIDE) (je_callB jc_len rfl T.u_len boot_len (ja_cons (je_ix ji_seq (je_var 0 (pv 0)) je_int) ja_nil))) (ja_cons (je_op jo_mul (je_gint rfl T.c_SIDE) (je_callB jc_len rfl T.u_len boot_len (ja_cons (je_var 0 (pv 0)) ja_nil))) ja_nil))))), fun ds M Q h => ?_⟩
  clear hr hp tk jx nd F T
  obtain ⟨rs, W, H, rfl, g, hq⟩ := h
  obtain ⟨r, t, rfl, hr, ht⟩ := g.cons
  have hw := g.w2
  refine ⟨_, .str r, rfl, atI_zero, show r.length ≤ sizeLine from Nat.le_trans (by omega) (show 30 ≤ sizeLine by decide), .inl (.inl ⟨by decide, by decide⟩), _, rfl, .inl (.inl ⟨by decide, by decide⟩), le_line rfl, .inl ?_⟩
  rw [hr, List.length_map, g.len]
  exact hq

def ct_tile : Ct := fun ds M Q _ => ∃ rs W H l t, ds = [rowsD rs, .int l, .int t] ∧ Grid rs W H ∧ (0 ≤ l ∧ l < 8 * (W : Int)) ∧ (0 ≤ t ∧ t < 8 * (H : Int)) ∧ Q (.str (ch (signAt rs l t))) M

abbrev N_tile : List Str := ["rows", "left", "top"]
theorem sc_tile : FnScope N_tile ["rows", "left", "top"] (defScope s_tile) := ⟨rfl, rfl, rfl, by decide +kernel, rfl, by decide +kernel, by decide +kernel⟩
theorem ok_tile (T : Txt K mg base) : Ok P w K mg base 1 (He.fAd K ("tile", none)) ["rows", "left", "top"] 3 ct_tile := by
  obtain ⟨fd, F⟩ := T.f_tile
  have nd := sc_tile.nd
  refine Ok.of F (F.bindsN fun _ _ _ _ _ _ us hl => match us, hl with | [_, _, _], _ => rfl) sc_tile rfl fun cdv A outer s c jx tk hp hr => ⟨_, (jss_one (js_ret (je_ix ji_seq (je_ix ji_seq (je_var 0 (pv 0)) (je_op jo_div (je_var 2 (pv 2)) (je_gint rfl T.c_SIDE))) (je_op jo_div (je_var 1 (pv 1)) (je_gint rfl T.c_SIDE))))), fun ds M Q h => ?_⟩
  clear hr hp tk jx nd F T
  obtain ⟨rs, W, H, l, t, rfl, g, ⟨l0, l1⟩, ⟨t0, t1⟩, hq⟩ := h
  obtain ⟨row, c, -, -, h2, -, h4, h5, h6, -⟩ := grid_at g l0 l1 t0 t1
  have hw := g.w2
  rw [h6] at hq
  exact ⟨by decide, _, .str row, rfl, h4, by decide, show row.length ≤ sizeLine from Nat.le_trans (by omega) (show 30 ≤ sizeLine by decide), c, h5, .inl hq⟩

def ct_solid : Ct := fun ds M Q _ => ∃ rs W H l t, ds = [rowsD rs, .int l, .int t] ∧ Grid rs W H ∧ Q (.bl (solidM rs W H l t)) M

abbrev N_solid : List Str := ["rows", "left", "top", "wide", "high", "sign", "up", "right"]
theorem sc_solid : FnScope N_solid ["rows", "left", "top"] (defScope s_solid) := ⟨rfl, rfl, rfl, by decide +kernel, rfl, by decide +kernel, by decide +kernel⟩
theorem ok_solid (T : Txt K mg base) : Ok P w K mg base 2 (He.fAd K ("solid", none)) ["rows", "left", "top"] 3 ct_solid := by
  obtain ⟨fd, F⟩ := T.f_solid
  obtain ⟨fd_tile, F_tile, b_tile, k_tile⟩ := ok_tile (P := P) (w := w) (base := base) T
  obtain ⟨fd_size, F_size, b_size, k_size⟩ := ok_size (P := P) (w := w) (base := base) T
  have nd := sc_solid.nd
  refine Ok.of F (F.bindsN fun _ _ _ _ _ _ us hl => match us, hl with | [_, _, _], _ => rfl) sc_solid rfl fun cdv A outer s c jx tk hp hr => ⟨_, (jss_cons (js_asg (je_call jx F_size (hr.mono (by decide)) rfl T.g_size k_size b_size (ja_cons (je_var 0 (pv 0)) ja_nil)) (jg_tup rfl (jgs_cons (jg_name (i := 3) nd rfl (by first | exact Or.inl rfl | exact Or.inr rfl)) (jgs_cons (jg_name (i := 4) nd rfl (by first | exact Or.inl rfl | exact Or.inr rfl)) jgs_nil))))
    (jss_cons (js_if (jt_not (jt_chain jo_le jo_lt je_int (je_var 1 (pv 1)) (je_var 3 (pv 3))))
    (jss_one (js_ret je_bl))
    jss_nil)
    (jss_cons (js_if (jt_not (jt_chain jo_le jo_lt je_int (je_var 2 (pv 2)) (je_var 4 (pv 4))))
    (jss_one (js_ret je_bl))
    jss_nil)
    (jss_cons (js_set (i := 5) nd rfl (by first | exact Or.inl rfl | exact Or.inr rfl) (je_call jx F_tile (hr.mono (by decide)) rfl T.g_tile k_tile b_tile (ja_cons (je_var 0 (pv 0)) (ja_cons (je_var 1 (pv 1)) (ja_cons (je_var 2 (pv 2)) ja_nil)))))
    (jss_cons (js_par (i := 6) (j := 7) rfl nd rfl rfl (by decide) rfl rfl (ja_cons (je_op jo_sub (je_op jo_sub (je_gint rfl T.c_SIDE) je_int) (je_op jo_mod (je_var 2 (pv 2)) (je_gint rfl T.c_SIDE))) (ja_cons (je_op jo_mod (je_var 1 (pv 1)) (je_gint rfl T.c_SIDE)) ja_nil)) (by rfl))
    (jss_cons (js_if (jt_cmp (jo_eq (room_units hr)) (je_var 5 (pv 5)) je_str)
    (jss_one (js_ret (je_cmp jo_le (je_var 6 (pv 6)) (je_var 7 (pv 7)))))
    jss_nil)
    (jss_cons (js_if (jt_cmp (jo_eq (room_units hr)) (je_var 5 (pv 5)) je_str)
    (jss_one (js_ret (je_cmp jo_le (je_var 6 (pv 6)) (je_op jo_sub (je_op jo_sub (je_gint rfl T.c_SIDE) je_int) (je_var 7 (pv 7))))))
    jss_nil)
    (jss_one (js_ret (je_cmp (jo_eq (room_units hr)) (je_var 5 (pv 5)) je_str)))))))))), fun ds M Q h => ?_⟩
  clear hr hp tk jx nd F_tile b_tile k_tile fd_tile F_size b_size k_size fd_size F T
  obtain ⟨rs, W, H, l, t, rfl, g, hq⟩ := h
  have out : (l < 0 ∨ 8 * (W : Int) ≤ l) → Q (.bl true) M := fun h => by
    have e : solidM rs W H l t = true := if_neg (by omega)
    rw [e] at hq; exact hq
  have out2 : (0 ≤ l ∧ l < 8 * (W : Int)) → (t < 0 ∨ 8 * (H : Int) ≤ t) → Q (.bl false) M := fun h h2 => by
    have e : solidM rs W H l t = false := (if_pos h).trans (if_neg (by omega))
    rw [e] at hq; exact hq
  refine ⟨rfl, rs, W, H, rfl, g, rfl, ⟨fun h1 => ⟨fun h2 => .inl (out ?_), fun h2 => ⟨fun h3 => ⟨fun h4 => .inl (out2 ?_ ?_), fun h4 => ?_⟩, fun h3 => tt (.inl (out2 ?_ ?_))⟩⟩, fun h1 => tt (.inl (out ?_))⟩⟩
  all_goals try simp only [decide_eq_true_eq, decide_eq_false_iff_not, Bool.not_eq_true', Bool.not_eq_false'] at *
  · omega
  · omega
  · omega
  · have hin : 0 ≤ l ∧ l < 8 * (W : Int) := ⟨h1, h2⟩
    have hin2 : 0 ≤ t ∧ t < 8 * (H : Int) := ⟨h3, h4⟩
    have e : solidM rs W H l t = solidS (ch (signAt rs l t)) (l % 8) (t % 8) := (if_pos hin).trans (if_pos hin2)
    rw [e] at hq
    refine ⟨rfl, rs, W, H, l, t, rfl, g, hin, hin2, by decide, by decide, fun h5 => .inl ?_, fun h5 => ⟨fun h6 => .inl ?_, fun h6 => .inl ?_⟩⟩
    · have e : solidS (ch (signAt rs l t)) (l % 8) (t % 8) = decide (8 - 1 - t % 8 ≤ l % 8) := if_pos (of_decide_eq_true h5)
      rw [e] at hq; exact hq
    · have e : solidS (ch (signAt rs l t)) (l % 8) (t % 8) = decide (8 - 1 - t % 8 ≤ 8 - 1 - l % 8) := (if_neg (of_decide_eq_false h5)).trans (if_pos (of_decide_eq_true h6))
      rw [e] at hq; exact hq
    · have e : solidS (ch (signAt rs l t)) (l % 8) (t % 8) = decide (ch (signAt rs l t) = Str.ofString "#") := (if_neg (of_decide_eq_false h5)).trans (if_neg (of_decide_eq_false h6))
      rw [e] at hq; exact hq
  · omega
  · omega
  · omega

def ct_is_ledge : Ct := fun ds M Q _ => ∃ rs W H l t, ds = [rowsD rs, .int l, .int t] ∧ Grid rs W H ∧ Q (.bl (ledgeM rs W H l t)) M

abbrev N_is_ledge : List Str := ["rows", "left", "top", "wide", "high"]
theorem sc_is_ledge : FnScope N_is_ledge ["rows", "left", "top"] (defScope s_is_ledge) := ⟨rfl, rfl, rfl, by decide +kernel, rfl, by decide +kernel, by decide +kernel⟩
theorem ok_is_ledge (T : Txt K mg base) : Ok P w K mg base 2 (He.fAd K ("is_ledge", none)) ["rows", "left", "top"] 3 ct_is_ledge := by
  obtain ⟨fd, F⟩ := T.f_is_ledge
  obtain ⟨fd_tile, F_tile, b_tile, k_tile⟩ := ok_tile (P := P) (w := w) (base := base) T
  obtain ⟨fd_size, F_size, b_size, k_size⟩ := ok_size (P := P) (w := w) (base := base) T
  have nd := sc_is_ledge.nd
  refine Ok.of F (F.bindsN fun _ _ _ _ _ _ us hl => match us, hl with | [_, _, _], _ => rfl) sc_is_ledge rfl fun cdv A outer s c jx tk hp hr => ⟨_, (jss_cons (js_asg (je_call jx F_size (hr.mono (by decide)) rfl T.g_size k_size b_size (ja_cons (je_var 0 (pv 0)) ja_nil)) (jg_tup rfl (jgs_cons (jg_name (i := 3) nd rfl (by first | exact Or.inl rfl | exact Or.inr rfl)) (jgs_cons (jg_name (i := 4) nd rfl (by first | exact Or.inl rfl | exact Or.inr rfl)) jgs_nil))))
    (jss_cons (js_if (JW.pt (jw_or (jt_not (jt_chain jo_le jo_lt je_int (je_var 1 (pv 1)) (je_var 3 (pv 3)))) (jw_or (jt_not (jt_chain jo_le jo_lt je_int (je_var 2 (pv 2)) (je_var 4 (pv 4)))) (jw_or1 (jt_cmp (jo_ne (room_units hr)) (je_op jo_mod (je_var 2 (pv 2)) (je_gint rfl T.c_SIDE)) je_int)))))
    (jss_one (js_ret je_bl))
    jss_nil)
    (jss_one (js_ret (je_cmp (jo_eq (room_units hr)) (je_call jx F_tile (hr.mono (by decide)) rfl T.g_tile k_tile b_tile (ja_cons (je_var 0 (pv 0)) (ja_cons (je_var 1 (pv 1)) (ja_cons (je_var 2 (pv 2)) ja_nil)))) je_str))))), fun ds M Q h => ?_⟩
  clear hr hp tk jx nd F_tile b_tile k_tile fd_tile F_size b_size k_size fd_size F T
  obtain ⟨rs, W, H, l, t, rfl, g, hq⟩ := h
  have out : ¬ ((0 ≤ l ∧ l < 8 * (W : Int)) ∧ (0 ≤ t ∧ t < 8 * (H : Int)) ∧ t % 8 = 0) → Q (.bl false) M := fun h => by
    have e : ledgeM rs W H l t = false := if_neg h
    rw [e] at hq; exact hq
  refine ⟨rfl, rs, W, H, rfl, g, rfl, ⟨fun h1 => ⟨fun h2 => tt (.inl (out ?_)), fun h2 => ⟨fun h3 => ⟨fun h4 => tt (.inl (out ?_)), fun h4 => ⟨by decide, fun h5 => .inl (out ?_), fun h5 => ?_⟩⟩, fun h3 => tt (tt (.inl (out ?_)))⟩⟩, fun h1 => tt (tt (.inl (out ?_)))⟩⟩
  all_goals try simp only [decide_eq_true_eq, decide_eq_false_iff_not, Bool.not_eq_true', Bool.not_eq_false'] at *
  · omega
  · omega
  · omega
  · have e : ledgeM rs W H l t = decide (ch (signAt rs l t) = Str.ofString "=") := if_pos ⟨⟨h1, h2⟩, ⟨h3, h4⟩, h5⟩
    rw [e] at hq
    exact ⟨rfl, rs, W, H, l, t, rfl, g, ⟨h1, h2⟩, ⟨h3, h4⟩, .inl hq⟩
  · omega
  · omega

def ct_is_lift : Ct := fun ds M Q _ => ∃ d, ds = [d] ∧ Plain1 M d ∧ Q (.bl (isLift d)) M

abbrev N_is_lift : List Str := ["thing", "way", "left", "top", "wide", "far", "pace"]
theorem sc_is_lift : FnScope N_is_lift ["thing"] (defScope s_is_lift) := ⟨rfl, rfl, rfl, by decide +kernel, rfl, by decide +kernel, by decide +kernel⟩
theorem ok_is_lift (T : Txt K mg base) : Ok P w K mg base 2 (He.fAd K ("is_lift", none)) ["thing"] 1 ct_is_lift := by
  obtain ⟨fd, F⟩ := T.f_is_lift
  obtain ⟨fd_is_count, F_is_count, b_is_count, k_is_count⟩ := ok_is_count (P := P) (w := w) (base := base) T
  have nd := sc_is_lift.nd
  refine Ok.of F (F.bindsN fun _ _ _ _ _ _ us hl => match us, hl with | [_], _ => rfl) sc_is_lift rfl fun cdv A outer s c jx tk hp hr => ⟨_, (jss_cons (js_if (JW.pt (jw_or (jt_not (jt_val (je_isi .tup rfl T.u_isinstance rfl T.u_tuple boot_tuple (je_var 0 (pv 0))))) (jw_or (jt_cmp (jo_ne (room_units hr)) (je_callB jc_len rfl T.u_len boot_len (ja_cons (je_var 0 (pv 0)) ja_nil)) je_int) (jw_or1 (jt_not (jt_val (je_isi .str rfl T.u_isinstance rfl T.u_str boot_str (je_ix ji_seq (je_var 0 (pv 0)) je_int))))))))
    (jss_one (js_ret je_bl))
    jss_nil)
    (jss_cons (js_if (jt_cmp (jo_notInL (room_units hr)) (je_ix ji_seq (je_var 0 (pv 0)) je_int) (je_tup (ja_cons je_str (ja_cons je_str ja_nil))))
    (jss_one (js_ret je_bl))
    jss_nil)
    (jss_cons (js_asg (je_var 0 (pv 0)) (jg_tup rfl (jgs_cons (jg_name (i := 1) nd rfl (by first | exact Or.inl rfl | exact Or.inr rfl)) (jgs_cons (jg_name (i := 2) nd rfl (by first | exact Or.inl rfl | exact Or.inr rfl)) (jgs_cons (jg_name (i := 3) nd rfl (by first | exact Or.inl rfl | exact Or.inr rfl)) (jgs_cons (jg_name (i := 4) nd rfl (by first | exact Or.inl rfl | exact Or.inr rfl)) (jgs_cons (jg_name (i := 5) nd rfl (by first | exact Or.inl rfl | exact Or.inr rfl)) (jgs_cons (jg_name (i := 6) nd rfl (by first | exact Or.inl rfl | exact Or.inr rfl)) jgs_nil))))))))
    (jss_cons (js_if (JW.pt (jw_or (jt_not (jt_val (je_call jx F_is_count (hr.mono (by decide)) rfl T.g_is_count k_is_count b_is_count (ja_cons (je_var 2 (pv 2)) (ja_cons je_int (ja_cons (je_gint rfl T.c_MOST_lifts) ja_nil)))))) (jw_or1 (jt_not (jt_val (je_call jx F_is_count (hr.mono (by decide)) rfl T.g_is_count k_is_count b_is_count (ja_cons (je_var 3 (pv 3)) (ja_cons je_int (ja_cons (je_gint rfl T.c_MOST_lifts) ja_nil)))))))))
    (jss_one (js_ret je_bl))
    jss_nil)
    (jss_one (js_ret (je_and (je_call jx F_is_count (hr.mono (by decide)) rfl T.g_is_count k_is_count b_is_count (ja_cons (je_var 4 (pv 4)) (ja_cons je_int (ja_cons (je_gint rfl T.c_MOST_lifts) ja_nil)))) (je_and (je_call jx F_is_count (hr.mono (by decide)) rfl T.g_is_count k_is_count b_is_count (ja_cons (je_var 5 (pv 5)) (ja_cons je_int (ja_cons (je_gint rfl T.c_MOST_lifts) ja_nil)))) (je_one (je_call jx F_is_count (hr.mono (by decide)) rfl T.g_is_count k_is_count b_is_count (ja_cons (je_var 6 (pv 6)) (ja_cons je_int (ja_cons je_int ja_nil))))))))))))), fun ds M Q h => ?_⟩
  clear hr hp tk jx nd F_is_count b_is_count k_is_count fd_is_count F T
  obtain ⟨d, rfl, ⟨ht, hx⟩, hq⟩ := h
  obtain ⟨a, ha⟩ := Option.isSome_iff_exists.mp ht
  have no : (∀ xs, d ≠ .tup xs) → isB a .tup = false := fun hn => by
    cases d with
    | tup xs => exact absurd rfl (hn xs)
    | ref r =>
      unfold tyN at ha
      dsimp only at ha
      split at ha <;> cases ha <;> rfl
    | _ => cases ha <;> rfl
  by_cases hd : ∃ xs, d = .tup xs
  · obtain ⟨xs, rfl⟩ := hd
    refine ⟨.tup, rfl, ⟨fun z => Bool.noConfusion z, fun _ => ?_⟩⟩
    refine ⟨fun h6 => ⟨fun _ => ?_, fun z => Bool.noConfusion z⟩, fun h6 => ?_⟩
    · have hn : xs.length ≠ 6 := fun z => by rw [z] at h6; cases h6
      have e : isLift (.tup xs) = false := by
        unfold isLift
        split
        · rename_i q
          cases q
          exact absurd rfl hn
        · rfl
      rw [e] at hq
      exact .inl hq
    · have hn : xs.length = 6 := by
        by_cases z : xs.length = 6
        · exact z
        · rw [show decide ((xs.length : Int) = 6) = false from decide_eq_false (by omega)] at h6
          cases h6
      obtain ⟨d0, d1, d2, d3, d4, d5, rfl⟩ : ∃ d0 d1 d2 d3 d4 d5, xs = [d0, d1, d2, d3, d4, d5] := by
        match xs, hn with
        | [a0, a1, a2, a3, a4, a5], _ => exact ⟨a0, a1, a2, a3, a4, a5, rfl⟩
      have hx := hx _ rfl
      obtain ⟨b0, hb0⟩ := Option.isSome_iff_exists.mp (hx d0 (by simp))
      refine ⟨d0, rfl, b0, hb0, ⟨fun z => ?_, fun z => ?_⟩⟩
      · have e : isLift (.tup [d0, d1, d2, d3, d4, d5]) = false := by
          unfold isLift
          split
          · rename_i q
            cases q
            cases hb0
            cases z
          · rfl
        rw [e] at hq
        exact .inl hq
      · obtain ⟨way, rfl⟩ : ∃ way, d0 = .str way := by
          cases d0 with
          | str way => exact ⟨way, rfl⟩
          | ref r =>
            unfold tyN at hb0
            dsimp only at hb0
            split at hb0 <;> cases hb0 <;> cases z
          | _ => cases hb0 <;> cases z
        refine ⟨.str way, rfl, le_line rfl, _, _, _, rfl, .inr rfl, rfl, by show 0 ≤ 60; omega, ?_⟩
        have ew : ([PyData.str "across", PyData.str "up"].any fun y => PyData.eqv y (.str way)) = (decide (way = "across") || decide (way = "up")) := by
          show (PyData.eqv (.str "across") (.str way) || (PyData.eqv (.str "up") (.str way) || false)) = _
          rw [eqv_str, eqv_str, Bool.or_false]
          congr 1
          · exact decide_eq_decide.mpr ⟨Eq.symm, Eq.symm⟩
          · exact decide_eq_decide.mpr ⟨Eq.symm, Eq.symm⟩
        have el : isLift (.tup [.str way, d1, d2, d3, d4, d5]) = ((decide (way = "across") || decide (way = "up")) && (isCount d1 0 400 && (isCount d2 0 400 && (isCount d3 1 400 && (isCount d4 1 400 && isCount d5 1 100))))) := rfl
        rw [el] at hq
        refine ⟨fun z => ?_, fun z => ?_⟩
        · have z2 : (!(decide (way = "across") || decide (way = "up"))) = true := by rw [← ew]; exact z
          rw [Bool.not_eq_true'] at z2
          rw [z2] at hq
          exact .inl hq
        · have z2 : (!(decide (way = "across") || decide (way = "up"))) = false := by rw [← ew]; exact z
          rw [Bool.not_eq_false'] at z2
          rw [z2, Bool.true_and] at hq
          refine ⟨rfl, ?_⟩
          have cnt : ∀ {x : D} {lo hi : Int} {R : SQ}, x ∈ [D.str way, d1, d2, d3, d4, d5] → R (.bl (isCount x lo hi)) M → [x, D.int lo, D.int hi].length = 3 ∧ ct_is_count [x, .int lo, .int hi] M R c.Ed := fun {x lo hi R} hm r => ⟨rfl, x, lo, hi, rfl, hx x hm, r⟩
          refine cnt (by simp) ⟨fun z => ⟨fun _ => ?_, fun z => Bool.noConfusion z⟩, fun z => cnt (by simp) ⟨fun z2 => ?_, fun z2 => ?_⟩⟩
          · rw [Bool.not_eq_true'] at z
            rw [z] at hq
            exact .inl hq
          · rw [Bool.not_eq_false'] at z
            rw [Bool.not_eq_true'] at z2
            rw [z, z2] at hq
            exact .inl hq
          · rw [Bool.not_eq_false'] at z z2
            rw [z, z2, Bool.true_and, Bool.true_and] at hq
            refine cnt (by simp) ⟨fun z3 => cnt (by simp) ⟨fun z4 => cnt (by simp) (.inl ?_), fun z4 => .inl ?_⟩, fun z3 => .inl ?_⟩
            · rw [z3, z4] at hq
              exact hq
            · rw [z3, z4] at hq
              exact hq
            · rw [z3] at hq
              exact hq
  · refine ⟨a, ha, ?_⟩
    have hn : ∀ xs, d ≠ .tup xs := fun xs e => hd ⟨xs, e⟩
    have e : isLift d = false := by
      unfold isLift
      split
      · exact absurd rfl (hn _)
      · rfl
    rw [e] at hq
    rw [no hn]
    exact ⟨fun _ => ⟨fun _ => .inl hq, fun z => Bool.noConfusion z⟩, fun z => Bool.noConfusion z⟩

def ct_need_lift (K : PySem.W.Frag) : Ct := fun ds M Q E => ∃ d, ds = [d] ∧ Plain1 M d ∧ (isLift d = true → Q .non M) ∧ (isLift d = false → E (He.ga K "BadLift") M)

abbrev N_need_lift : List Str := ["lift"]
theorem sc_need_lift : FnScope N_need_lift ["lift"] (defScope s_need_lift) := ⟨rfl, rfl, rfl, by decide +kernel, rfl, by decide +kernel, by decide +kernel⟩
theorem ok_need_lift (T : Txt K mg base) : Ok P w K mg base 3 (He.fAd K ("need_lift", none)) ["lift"] 1 (ct_need_lift K) := by
  obtain ⟨fd, F⟩ := T.f_need_lift
  obtain ⟨fd_is_lift, F_is_lift, b_is_lift, k_is_lift⟩ := ok_is_lift (P := P) (w := w) (base := base) T
  have nd := sc_need_lift.nd
  refine Ok.of F (F.bindsN fun _ _ _ _ _ _ us hl => match us, hl with | [_], _ => rfl) sc_need_lift rfl fun cdv A outer s c jx tk hp hr => ⟨_, (jss_one (js_if (jt_not (jt_val (je_call jx F_is_lift (hr.mono (by decide)) rfl T.g_is_lift k_is_lift b_is_lift (ja_cons (je_var 0 (pv 0)) ja_nil))))
    (jss_one (js_raise jx tk rfl T.x_BadLift.e T.x_BadLift.g T.x_BadLift.k T.x_BadLift.s T.x_BadLift.t rfl))
    jss_nil)), fun ds M Q h => ?_⟩
  clear hr hp tk jx nd F_is_lift b_is_lift k_is_lift fd_is_lift F T
  obtain ⟨d, rfl, hp1, hq, he⟩ := h
  refine ⟨rfl, d, rfl, hp1, ⟨fun z => he (Bool.not_eq_true' _ ▸ z), fun z => .inl (hq (Bool.not_eq_false' _ ▸ z))⟩⟩

def ct_way_gone : Ct := fun ds M Q _ => ∃ way l t w f p n, ds = [liftD way l t w f p, .int n] ∧ 1 ≤ f ∧ f ≤ 400 ∧ 1 ≤ p ∧ p ≤ 100 ∧ Q (.int (wayGone f p n)) M

abbrev N_way_gone : List Str := ["lift", "time", "way", "left", "top", "wide", "far", "pace", "phase"]
theorem sc_way_gone : FnScope N_way_gone ["lift", "time"] (defScope s_way_gone) := ⟨rfl, rfl, rfl, by decide +kernel, rfl, by decide +kernel, by decide +kernel⟩
theorem ok_way_gone (T : Txt K mg base) : Ok P w K mg base 1 (He.fAd K ("way_gone", none)) ["lift", "time"] 2 ct_way_gone := by
  obtain ⟨fd, F⟩ := T.f_way_gone
  have nd := sc_way_gone.nd
  refine Ok.of F (F.bindsN fun _ _ _ _ _ _ us hl => match us, hl with | [_, _], _ => rfl) sc_way_gone rfl fun cdv A outer s c jx tk hp hr => ⟨_, (jss_cons (js_asg (je_var 0 (pv 0)) (jg_tup rfl (jgs_cons (jg_name (i := 2) nd rfl (by first | exact Or.inl rfl | exact Or.inr rfl)) (jgs_cons (jg_name (i := 3) nd rfl (by first | exact Or.inl rfl | exact Or.inr rfl)) (jgs_cons (jg_name (i := 4) nd rfl (by first | exact Or.inl rfl | exact Or.inr rfl)) (jgs_cons (jg_name (i := 5) nd rfl (by first | exact Or.inl rfl | exact Or.inr rfl)) (jgs_cons (jg_name (i := 6) nd rfl (by first | exact Or.inl rfl | exact Or.inr rfl)) (jgs_cons (jg_name (i := 7) nd rfl (by first | exact Or.inl rfl | exact Or.inr rfl)) jgs_nil))))))))
    (jss_cons (js_set (i := 8) nd rfl (by first | exact Or.inl rfl | exact Or.inr rfl) (je_op jo_mod (je_op jo_div (je_var 1 (pv 1)) (je_var 7 (pv 7))) (je_op jo_mul je_int (je_var 6 (pv 6)))))
    (jss_one (js_ret (je_if (jt_cmp jo_le (je_var 8 (pv 8)) (je_var 6 (pv 6))) (je_var 8 (pv 8)) (je_op jo_sub (je_op jo_mul je_int (je_var 6 (pv 6))) (je_var 8 (pv 8)))))))), fun ds M Q h => ?_⟩
  clear hr hp tk jx nd F T
  obtain ⟨way, l, t, wi, f, p, n, rfl, f1, f2, p1, p2, hq⟩ := h
  refine ⟨rfl, ⟨⟨by omega, log9000 (by omega)⟩, .inl (.inl ⟨by decide, by decide⟩), by omega, fun h1 => ?_, fun h1 => ?_⟩⟩
  · refine .inl ?_
    have e : wayGone f p n = n / p % (2 * f) := if_pos (of_decide_eq_true h1)
    rw [e] at hq; exact hq
  · refine ⟨.inl (.inl ⟨by decide, by decide⟩), .inl ?_⟩
    have e : wayGone f p n = 2 * f - n / p % (2 * f) := if_neg (of_decide_eq_false h1)
    rw [e] at hq; exact hq

def ct_place : Ct := fun ds M Q _ => ∃ way l t w f p n, ds = [liftD way l t w f p, .int n] ∧ 1 ≤ f ∧ f ≤ 400 ∧ 1 ≤ p ∧ p ≤ 100 ∧ Q (.tup [.int (placeL way l t f p n).1, .int (placeL way l t f p n).2]) M

abbrev N_place : List Str := ["lift", "time", "way", "left", "top"]
theorem sc_place : FnScope N_place ["lift", "time"] (defScope s_place) := ⟨rfl, rfl, rfl, by decide +kernel, rfl, by decide +kernel, by decide +kernel⟩
theorem ok_place (T : Txt K mg base) : Ok P w K mg base 2 (He.fAd K ("place", none)) ["lift", "time"] 2 ct_place := by
  obtain ⟨fd, F⟩ := T.f_place
  obtain ⟨fd_way_gone, F_way_gone, b_way_gone, k_way_gone⟩ := ok_way_gone (P := P) (w := w) (base := base) T
  have nd := sc_place.nd
  refine Ok.of F (F.bindsN fun _ _ _ _ _ _ us hl => match us, hl with | [_, _], _ => rfl) sc_place rfl fun cdv A outer s c jx tk hp hr => ⟨_, (jss_cons (js_asg (je_slice (je_var 0 (pv 0)) jo_none (jo_some je_int)) (jg_tup rfl (jgs_cons (jg_name (i := 2) nd rfl (by first | exact Or.inl rfl | exact Or.inr rfl)) (jgs_cons (jg_name (i := 3) nd rfl (by first | exact Or.inl rfl | exact Or.inr rfl)) (jgs_cons (jg_name (i := 4) nd rfl (by first | exact Or.inl rfl | exact Or.inr rfl)) jgs_nil)))))
    (jss_cons (js_if (jt_cmp (jo_eq (room_units hr)) (je_var 2 (pv 2)) je_str)
    (jss_one (js_ret (je_tup (ja_cons (je_op jo_add (je_var 3 (pv 3)) (je_call jx F_way_gone (hr.mono (by decide)) rfl T.g_way_gone k_way_gone b_way_gone (ja_cons (je_var 0 (pv 0)) (ja_cons (je_var 1 (pv 1)) ja_nil)))) (ja_cons (je_var 4 (pv 4)) ja_nil)))))
    jss_nil)
    (jss_one (js_ret (je_tup (ja_cons (je_var 3 (pv 3)) (ja_cons (je_op jo_sub (je_var 4 (pv 4)) (je_call jx F_way_gone (hr.mono (by decide)) rfl T.g_way_gone k_way_gone b_way_gone (ja_cons (je_var 0 (pv 0)) (ja_cons (je_var 1 (pv 1)) ja_nil)))) ja_nil))))))), fun ds M Q h => ?_⟩
  clear hr hp tk jx nd F_way_gone b_way_gone k_way_gone fd_way_gone F T
  obtain ⟨way, l, t, wi, f, p, n, rfl, f1, f2, p1, p2, hq⟩ := h
  tm_at "j"
  tm_at "j"
  refine ⟨fun hb => ?_, fun hb => ?_⟩
  · refine ⟨rfl, way, l, t, wi, f, p, n, rfl, f1, f2, p1, p2, le_line rfl, .inl ?_⟩
    have e : placeL way l t f p n = (l + wayGone f p n, t) := if_pos (of_decide_eq_true hb)
    rw [e] at hq; exact hq
  · refine ⟨rfl, way, l, t, wi, f, p, n, rfl, f1, f2, p1, p2, le_line rfl, .inl ?_⟩
    have e : placeL way l t f p n = (l, t - wayGone f p n) := if_neg (of_decide_eq_false hb)
    rw [e] at hq; exact hq

def ct_need_keys (K : PySem.W.Frag) : Ct := fun ds M Q E => ∃ (d : D), ds = [d] ∧ (tyN M d).isSome = true ∧ (∀ z, d = .str z → z.length ≤ 1000) ∧ (isKeys d = true → Q .non M) ∧ (isKeys d = false → E (He.ga K "BadKeys") M)

abbrev N_need_keys : List Str := ["keys", "good", "key"]
theorem sc_need_keys : FnScope N_need_keys ["keys"] (defScope s_need_keys) := ⟨rfl, rfl, rfl, by decide +kernel, rfl, by decide +kernel, by decide +kernel⟩
theorem ok_need_keys (T : Txt K mg base) : Ok P w K mg base 1 (He.fAd K ("need_keys", none)) ["keys"] 1 (ct_need_keys K) := by
  obtain ⟨fd, F⟩ := T.f_need_keys
  have nd := sc_need_keys.nd
  refine Ok.of F (F.bindsN fun _ _ _ _ _ _ us hl => match us, hl with | [_], _ => rfl) sc_need_keys rfl fun cdv A outer s c jx tk hp hr => ⟨_, (jss_cons (js_set (i := 1) nd rfl (by first | exact Or.inl rfl | exact Or.inr rfl) (je_and (je_isi .str rfl T.u_isinstance rfl T.u_str boot_str (je_var 0 (pv 0))) (je_one (je_callB (jc_all rfl) rfl T.u_all boot_all (ja_cons (je_lc (own := [("key", 2)]) rfl nd (ji_str (je_var 0 (pv 0))) (blkOk_by (N := N_need_keys) (sc := (defScope s_need_keys)) (own := [("key", 2)]) (by decide +kernel)) (fun _ _ _ _ _ => (jgc_name (i := 2) nd rfl (by first | exact Or.inl rfl | exact Or.inr rfl))) (fun _ _ _ _ _ => jts_nil) (fun _ _ _ _ _ => (je_cmp jo_inS (je_var 2 (pv 2)) (je_gstr rfl T.c_KEYS)))) ja_nil)))))
    (jss_one (js_if (JW.pt (jw_or (jt_not (jt_val (je_var 1 (pv 1)))) (jw_or1 (jt_cmp (jo_ne (room_units hr)) (je_callTy (jc_listT rfl) rfl T.u_list boot_list (ja_cons (je_var 0 (pv 0)) ja_nil)) (je_lc (own := [("key", 2)]) rfl nd (ji_str (je_gstr rfl T.c_KEYS)) (blkOk_by (N := N_need_keys) (sc := (defScope s_need_keys)) (own := [("key", 2)]) (by decide +kernel)) (fun _ _ _ _ _ => (jgc_name (i := 2) nd rfl (by first | exact Or.inl rfl | exact Or.inr rfl))) (fun _ _ _ _ _ => (jts_one (jt_cmp jo_inS (je_var 2 (pv 2)) (je_var 0 (pv 0))))) (fun _ _ _ _ _ => (je_var 2 (pv 2))))))))
    (jss_one (js_raise jx tk rfl T.x_BadKeys.e T.x_BadKeys.g T.x_BadKeys.k T.x_BadKeys.s T.x_BadKeys.t rfl))
    jss_nil))), fun ds M Q h => ?_⟩
  clear hr hp tk jx nd F T
  obtain ⟨d, rfl, hd, hz, hq, he⟩ := h
  obtain ⟨a, ha⟩ := Option.isSome_iff_exists.mp hd
  by_cases hs : ∃ z, d = .str z
  · obtain ⟨z, rfl⟩ := hs
    have hl : z.length ≤ sizeLine := Nat.le_trans (hz z rfl) (by decide)
    refine ⟨.str, rfl, tt ?_⟩
    refine lc_map _ (fun x => match x with
      | .str ⟨#[c]⟩ => .bl (decide (c ∈ [108, 106, 114, 100]))
      | _ => .bl false) trivial ?_ (fun x hx yes no hy => ?_) ?_
    · rw [List.length_map, Array.length_toList]; exact hl
    · obtain ⟨c, _, rfl⟩ := List.mem_map.mp hx
      exact tt ⟨c, rfl, hy⟩
    refine ⟨z.cps.toList.map fun c => decide (c ∈ [108, 106, 114, 100]), ?_, ?_⟩
    · show some _ = some _
      rw [List.map_map, List.map_map]
      rfl
    have e1 : ((z.cps.toList.map fun c => decide (c ∈ [108, 106, 114, 100])).all id) = z.cps.toList.all fun c => decide (c ∈ [108, 106, 114, 100]) := by rw [List.all_map]; rfl
    rw [e1]
    refine ⟨fun h1 => tt (he ?_), fun h1 => ⟨hl, ?_⟩⟩
    · show (_ && _) = false
      rw [(Bool.not_eq_true' _).mp h1]; rfl
    have h1 := (Bool.not_eq_false' _).mp h1
    refine lc_filt _ (fun d => d) (fun x => match x with
      | .str ⟨#[c]⟩ => decide (c ∈ z.cps.toList)
      | _ => false) trivial (by rw [List.length_map, Array.length_toList]; decide) (fun x hx yes no hy hno => ?_) ?_
    · obtain ⟨c, _, rfl⟩ := List.mem_map.mp hx
      exact ⟨c, rfl, hy, hno⟩
    rw [List.map_id']
    have e2 : List.filter (fun x => match x with
      | .str ⟨#[c]⟩ => decide (c ∈ z.cps.toList)
      | _ => false) ((Str.ofString "ljrd").cps.toList.map fun c => D.str ⟨#[c]⟩) = (sgs ⟨([108, 106, 114, 100].filter fun c => decide (c ∈ z.cps.toList)).toArray⟩).map D.str := by
      unfold sgs
      rw [List.map_map]
      show List.filter _ ([108, 106, 114, 100].map fun c => D.str ⟨#[c]⟩) = ([108, 106, 114, 100].filter fun c => decide (c ∈ z.cps.toList)).map fun c => D.str ⟨#[c]⟩
      rw [List.filter_map]
      rfl
    rw [e2]
    have pyS : ∀ zs : List Str, pyM M (.lst (zs.map D.str)) = some (.list (zs.map PyData.str)) := fun zs => by
      show (pyL (zs.map D.str)).map PyData.list = _
      rw [pyL_str]; rfl
    refine ⟨_, _, pyS _, pyS _, Nat.le_trans (Nat.min_le_left _ _) (dep_strs _), ?_⟩
    rw [if_pos rfl, eqv_strs]
    have e3 : isKeys (.str z) = decide (sgs z = sgs ⟨([108, 106, 114, 100].filter fun c => decide (c ∈ z.cps.toList)).toArray⟩) := by
      show (_ && _) = _
      rw [h1, Bool.true_and]
      refine decide_eq_decide.mpr ⟨fun q => ?_, fun q => ?_⟩
      · unfold sgs
        rw [← q]
      · have q := congrArg (List.map fun s : Str => s.cps.toList) q
        unfold sgs at q
        rw [List.map_map, List.map_map] at q
        have q := congrArg List.flatten q
        have fl : ∀ xs : List Nat, (xs.map ((fun s : Str => s.cps.toList) ∘ fun c => (⟨#[c]⟩ : Str))).flatten = xs := by
          intro xs
          induction xs with
          | nil => rfl
          | cons a r ih => rw [List.map_cons, List.flatten_cons, ih]; rfl
        rw [fl, fl] at q
        exact q
    rw [e3] at hq he
    exact ⟨fun h2 => he (by simpa using h2), fun h2 => .inl (hq (by simpa using h2))⟩
  · refine ⟨a, ha, ?_⟩
    have hb : isB a .str = false := by
      rw [strB_ty ha]
      cases d with
      | str z => exact absurd ⟨z, rfl⟩ hs
      | _ => rfl
    rw [hb]
    refine ff (tt (tt (he ?_)))
    cases d with
    | str z => exact absurd ⟨z, rfl⟩ hs
    | _ => rfl

def ct_World_is_free (K : PySem.W.Frag) : Ct := fun ds M Q _ => ∃ r rs W H ls l t, ds = [.ref r, .int l, .int t] ∧ IsWorld K M r rs W H ls ∧ Q (.bl (freeM rs W H l t)) M

abbrev N_World_is_free : List Str := ["self", "left", "top", "down", "right"]
theorem sc_World_is_free : FnScope N_World_is_free ["self", "left", "top"] (defScope s_World_is_free) := ⟨rfl, rfl, rfl, by decide +kernel, rfl, by decide +kernel, by decide +kernel⟩
theorem ok_World_is_free (T : Txt K mg base) : Ok P w K mg base 3 (He.fAd K ("World", some "is_free")) ["self", "left", "top"] 3 (ct_World_is_free K) := by
  obtain ⟨fd, F⟩ := T.f_World_is_free
  obtain ⟨fd_solid, F_solid, b_solid, k_solid⟩ := ok_solid (P := P) (w := w) (base := base) T
  have nd := sc_World_is_free.nd
  refine Ok.of F (F.bindsN fun _ _ _ _ _ _ us hl => match us, hl with | [_, _, _], _ => rfl) sc_World_is_free rfl fun cdv A outer s c jx tk hp hr => ⟨_, (jss_cons (js_for hp rfl (ji_rng1 rfl T.u_range (ja_cons (je_gint rfl T.c_HIGH) ja_nil)) (jg_name (i := 3) nd rfl (by first | exact Or.inl rfl | exact Or.inr rfl))
    (jss_one (js_for hp rfl (ji_rng1 rfl T.u_range (ja_cons (je_gint rfl T.c_WIDE) ja_nil)) (jg_name (i := 4) nd rfl (by first | exact Or.inl rfl | exact Or.inr rfl))
    (jss_one (js_if (jt_val (je_call jx F_solid (hr.mono (by decide)) rfl T.g_solid k_solid b_solid (ja_cons (je_fld 0 (je_var 0 (pv 0)) T.cl_World T.n_World_rows) (ja_cons (je_op jo_add (je_var 1 (pv 1)) (je_var 4 (pv 4))) (ja_cons (je_op jo_add (je_var 2 (pv 2)) (je_var 3 (pv 3))) ja_nil)))))
    (jss_one (js_ret je_bl))
    jss_nil)))))
    (jss_one (js_ret je_bl))), fun ds M Q h => ?_⟩
  clear hr hp tk jx nd F_solid b_solid k_solid fd_solid F T
  obtain ⟨r, rs, W, H, ls, l, t, rfl, ⟨hr, g, hl, hn⟩, hq⟩ := h
  refine ⟨⟨by decide, by decide⟩, ?_⟩
  refine loop_inv _ (fun i ρ M' => M' = M ∧ (∀ d : Nat, d < i → ∀ x : Nat, x < 6 → solidM rs W H (l + (0 + (x : Int))) (t + (0 + (d : Int))) = false) ∧ ∃ a b, ρ = [some (.ref r), some (.int l), some (.int t), a, b]) ?_ ?_ ⟨rfl, fun d hd => (by omega), none, none, rfl⟩
  · rintro i d hd ρ M' ⟨rfl, hf, a, b, rfl⟩
    obtain ⟨hi, rfl⟩ := upTo_get hd
    refine ⟨trivial, fun go hgo => ⟨⟨by decide, by decide⟩, ?_⟩⟩
    refine loop_inv _ (fun j ρ M2 => M2 = M' ∧ (∀ x : Nat, x < j → solidM rs W H (l + (0 + (x : Int))) (t + (0 + (i : Int))) = false) ∧ ∃ b, ρ = [some (.ref r), some (.int l), some (.int t), some (.int (0 + (i : Int))), b]) ?_ ?_ ⟨rfl, fun x hx => (by omega), b, rfl⟩
    · rintro j d hd ρ M2 ⟨rfl, hf2, b, rfl⟩
      obtain ⟨hj, rfl⟩ := upTo_get hd
      refine ⟨trivial, fun go2 hgo2 => ⟨_, _, _, hr, rfl, rfl, rfl, rs, W, H, _, _, rfl, g, fun h1 => .inl ?_, fun h1 => hgo2 _ _ ⟨rfl, fun x hx => ?_, _, rfl⟩⟩⟩
      · rw [free_no hi hj h1] at hq
        exact hq
      · by_cases q : x < j
        · exact hf2 x q
        · have : x = j := by omega
          rw [this]; exact h1
    · rintro ρ M2 ⟨rfl, hf2, b, rfl⟩
      refine ⟨trivial, hgo _ _ ⟨rfl, fun d hd x hx => ?_, _, _, rfl⟩⟩
      by_cases q : d < i
      · exact hf d q x hx
      · have : d = i := by omega
        rw [this]; exact hf2 x hx
  · rintro ρ M' ⟨rfl, hf, a, b, rfl⟩
    refine ⟨trivial, .inl ?_⟩
    have e : freeM rs W H l t = true := List.all_eq_true.mpr fun d hd => List.all_eq_true.mpr fun x hx => by
      rw [hf d (List.mem_range.mp hd) x (List.mem_range.mp hx)]; rfl
    rw [e] at hq
    exact hq

def ct_World_need_place (K : PySem.W.Frag) : Ct := fun ds M Q E => ∃ (r : Nat) (e : Wd) (a b : D), ds = [.ref r, a, b] ∧ IsW K M r e ∧ (tyN M a).isSome = true ∧ (tyN M b).isSome = true ∧
  ((∃ x y, a = .int x ∧ b = .int y ∧ (-400 ≤ x ∧ x ≤ 400) ∧ (-400 ≤ y ∧ y ≤ 400) ∧ e.free x y = true ∧ Q .non M) ∨
   ((isCount a (-400) 400 && isCount b (-400) 400) = false ∧ E (He.ga K "BadPlace") M) ∨ (∃ x y, a = .int x ∧ b = .int y ∧ e.free x y = false ∧ E (He.ga K "BadPlace") M))

abbrev N_World_need_place : List Str := ["self", "left", "top", "good"]
theorem sc_World_need_place : FnScope N_World_need_place ["self", "left", "top"] (defScope s_World_need_place) := ⟨rfl, rfl, rfl, by decide +kernel, rfl, by decide +kernel, by decide +kernel⟩
theorem ok_World_need_place (T : Txt K mg base) : Ok P w K mg base 4 (He.fAd K ("World", some "need_place")) ["self", "left", "top"] 3 (ct_World_need_place K) := by
  obtain ⟨fd, F⟩ := T.f_World_need_place
  obtain ⟨fd_World_is_free, F_World_is_free, b_World_is_free, k_World_is_free⟩ := ok_World_is_free (P := P) (w := w) (base := base) T
  obtain ⟨fd_is_count, F_is_count, b_is_count, k_is_count⟩ := ok_is_count (P := P) (w := w) (base := base) T
  have nd := sc_World_need_place.nd
  refine Ok.of F (F.bindsN fun _ _ _ _ _ _ us hl => match us, hl with | [_, _, _], _ => rfl) sc_World_need_place rfl fun cdv A outer s c jx tk hp hr => ⟨_, (jss_cons (js_set (i := 3) nd rfl (by first | exact Or.inl rfl | exact Or.inr rfl) (je_and (je_call jx F_is_count (hr.mono (by decide)) rfl T.g_is_count k_is_count b_is_count (ja_cons (je_var 1 (pv 1)) (ja_cons (je_op jo_sub je_int (je_gint rfl T.c_MOST_worlds)) (ja_cons (je_gint rfl T.c_MOST_worlds) ja_nil)))) (je_one (je_call jx F_is_count (hr.mono (by decide)) rfl T.g_is_count k_is_count b_is_count (ja_cons (je_var 2 (pv 2)) (ja_cons (je_op jo_sub je_int (je_gint rfl T.c_MOST_worlds)) (ja_cons (je_gint rfl T.c_MOST_worlds) ja_nil)))))))
    (jss_one (js_if (JW.pt (jw_or (jt_not (jt_val (je_var 3 (pv 3)))) (jw_or1 (jt_not (jt_val (je_meth jx (je_var 0 (pv 0)) T.cl_World T.m_World_is_free F_World_is_free (hr.mono (by decide)) b_World_is_free (ja_cons (je_var 1 (pv 1)) (ja_cons (je_var 2 (pv 2)) ja_nil))))))))
    (jss_one (js_raise jx tk rfl T.x_BadPlace.e T.x_BadPlace.g T.x_BadPlace.k T.x_BadPlace.s T.x_BadPlace.t rfl))
    jss_nil))), fun ds M Q h => ?_⟩
  clear hr hp tk jx nd F_World_is_free b_World_is_free k_World_is_free fd_World_is_free F_is_count b_is_count k_is_count fd_is_count F T
  obtain ⟨r, e, a, b, rfl, hw, ha, hb, hh⟩ := h
  refine ⟨rfl, a, -400, 400, rfl, ha, ?_⟩
  rcases hh with ⟨x, y, rfl, rfl, hx, hy, hf, hq⟩ | ⟨hc, he⟩ | ⟨x, y, rfl, rfl, hf, he⟩
  · have e1 : isCount (.int x) (-400) 400 = true := isCount_int.mpr hx
    have e2 : isCount (.int y) (-400) 400 = true := isCount_int.mpr hy
    rw [e1]
    refine tt ⟨rfl, .int y, -400, 400, rfl, rfl, ?_⟩
    rw [e2]
    refine ff ⟨_, _, hw.1, by decide, rfl, r, e.rs, e.W, e.H, e.ls, x, y, rfl, hw, ?_⟩
    have hf : freeM e.rs e.W e.H x y = true := hf
    rw [hf]
    exact ff (.inl hq)
  · cases e1 : isCount a (-400) 400 with
    | false => exact ff (tt (tt he))
    | true =>
      rw [e1, Bool.true_and] at hc
      refine tt ⟨rfl, b, -400, 400, rfl, hb, ?_⟩
      rw [hc]
      exact tt (tt he)
  · have two : isCount (.int x) (-400) 400 = false ∨ isCount (.int x) (-400) 400 = true := by cases isCount (.int x) (-400) 400 <;> simp
    rcases two with e1 | e1
    · rw [e1]; exact ff (tt (tt he))
    · rw [e1]
      refine tt ⟨rfl, .int y, -400, 400, rfl, rfl, ?_⟩
      cases e2 : isCount (.int y) (-400) 400 with
      | false => exact tt (tt he)
      | true =>
        refine ff ⟨_, _, hw.1, by decide, rfl, r, e.rs, e.W, e.H, e.ls, x, y, rfl, hw, ?_⟩
        have hf : freeM e.rs e.W e.H x y = false := hf
        rw [hf]
        exact tt he

def ct_Runner_init (K : PySem.W.Frag) : Ct := fun ds M Q E => ∃ (r w : Nat) (e : Wd) (a b : D), ds = [.ref r, .ref w, a, b] ∧ M[r]? = some (.ins (He.ga K "Runner") ks_Runner (List.replicate 7 none)) ∧ IsW K M w e ∧ (tyN M a).isSome = true ∧ (tyN M b).isSome = true ∧
  ((∃ x y, a = .int x ∧ b = .int y ∧ (-400 ≤ x ∧ x ≤ 400) ∧ (-400 ≤ y ∧ y ≤ 400) ∧ e.free x y = true ∧ Q .non (M.set r (runnerO K w ⟨0, x, y, 0, 0, false⟩))) ∨
   ((isCount a (-400) 400 && isCount b (-400) 400) = false ∧ E (He.ga K "BadPlace") M) ∨ (∃ x y, a = .int x ∧ b = .int y ∧ e.free x y = false ∧ E (He.ga K "BadPlace") M))

abbrev N_Runner_init : List Str := ["self", "world", "left", "top"]
theorem sc_Runner_init : FnScope N_Runner_init ["self", "world", "left", "top"] (defScope s_Runner_init) := ⟨rfl, rfl, rfl, by decide +kernel, rfl, by decide +kernel, by decide +kernel⟩
theorem ok_Runner_init (T : Txt K mg base) : Ok P w K mg base 5 (He.fAd K ("Runner", some "__init__")) ["self", "world", "left", "top"] 4 (ct_Runner_init K) := by
  obtain ⟨fd, F⟩ := T.f_Runner_init
  obtain ⟨fd_World_need_place, F_World_need_place, b_World_need_place, k_World_need_place⟩ := ok_World_need_place (P := P) (w := w) (base := base) T
  have nd := sc_Runner_init.nd
  refine Ok.of F (F.bindsN fun _ _ _ _ _ _ us hl => match us, hl with | [_, _, _, _], _ => rfl) sc_Runner_init rfl fun cdv A outer s c jx tk hp hr => ⟨_, (jss_cons (js_expr (je_meth jx (je_var 1 (pv 1)) T.cl_World T.m_World_need_place F_World_need_place (hr.mono (by decide)) b_World_need_place (ja_cons (je_var 2 (pv 2)) (ja_cons (je_var 3 (pv 3)) ja_nil))))
    (jss_cons (js_fld 0 (je_var 0 (pv 0)) (je_var 1 (pv 1)) T.cl_Runner T.n_Runner_world)
    (jss_cons (js_fld 1 (je_var 0 (pv 0)) je_int T.cl_Runner T.n_Runner_time)
    (jss_cons (js_fld 2 (je_var 0 (pv 0)) (je_var 2 (pv 2)) T.cl_Runner T.n_Runner_left)
    (jss_cons (js_fld 3 (je_var 0 (pv 0)) (je_var 3 (pv 3)) T.cl_Runner T.n_Runner_top)
    (jss_cons (js_fld 4 (je_var 0 (pv 0)) je_int T.cl_Runner T.n_Runner_across)
    (jss_cons (js_fld 5 (je_var 0 (pv 0)) je_int T.cl_Runner T.n_Runner_down)
    (jss_one (js_fld 6 (je_var 0 (pv 0)) je_bl T.cl_Runner T.n_Runner_was_jumping))))))))), fun ds M Q h => ?_⟩
  clear hr hp tk jx nd F_World_need_place b_World_need_place k_World_need_place fd_World_need_place F T
  obtain ⟨r, w, e, a, b, rfl, hr, hw, ha, hb, hh⟩ := h
  have hlen : r < M.length := (List.getElem?_eq_some_iff.mp hr).1
  rcases hh with ⟨x, y, rfl, rfl, hx, hy, hf, hq⟩ | ⟨hc, he⟩ | ⟨x, y, rfl, rfl, hf, he⟩
  · refine ⟨_, _, hw.1, by decide, rfl, w, e, .int x, .int y, rfl, hw, rfl, rfl, .inl ⟨x, y, rfl, rfl, hx, hy, hf, ?_⟩⟩
    have g : ∀ (M' : Mem) (o : MO), M'.length = M.length → (M'.set r o)[r]? = some o := fun M' o h => List.getElem?_set_self (by rw [h]; exact hlen)
    refine ⟨_, _, hr, rfl, _, _, g _ _ rfl, rfl, _, _, g _ _ (by simp), rfl, _, _, g _ _ (by simp), rfl, _, _, g _ _ (by simp), rfl, _, _, g _ _ (by simp), rfl, _, _, g _ _ (by simp), rfl, .inl ?_⟩
    simp only [List.set_set]
    exact hq
  · exact ⟨_, _, hw.1, by decide, rfl, w, e, a, b, rfl, hw, ha, hb, .inr (.inl ⟨hc, he⟩)⟩
  · exact ⟨_, _, hw.1, by decide, rfl, w, e, .int x, .int y, rfl, hw, rfl, rfl, .inr (.inr ⟨x, y, rfl, rfl, hf, he⟩)⟩

def ct_Runner_at (K : PySem.W.Frag) : Ct := fun ds M Q _ => ∃ (r w : Nat) (s : RS), ds = [.ref r] ∧ M[r]? = some (runnerO K w s) ∧ Q (.tup [.int s.x, .int s.y]) M

abbrev N_Runner_at : List Str := ["self"]
theorem sc_Runner_at : FnScope N_Runner_at ["self"] (defScope s_Runner_at) := ⟨rfl, rfl, rfl, by decide +kernel, rfl, by decide +kernel, by decide +kernel⟩
theorem ok_Runner_at (T : Txt K mg base) : Ok P w K mg base 1 (He.fAd K ("Runner", some "at")) ["self"] 1 (ct_Runner_at K) := by
  obtain ⟨fd, F⟩ := T.f_Runner_at
  have nd := sc_Runner_at.nd
  refine Ok.of F (F.bindsN fun _ _ _ _ _ _ us hl => match us, hl with | [_], _ => rfl) sc_Runner_at rfl fun cdv A outer s c jx tk hp hr => ⟨_, (jss_one (js_ret (je_tup (ja_cons (je_fld 2 (je_var 0 (pv 0)) T.cl_Runner T.n_Runner_left) (ja_cons (je_fld 3 (je_var 0 (pv 0)) T.cl_Runner T.n_Runner_top) ja_nil))))), fun ds M Q h => ?_⟩
  clear hr hp tk jx nd F T
  obtain ⟨r, w, s, rfl, hr, hq⟩ := h
  exact ⟨_, _, _, hr, rfl, rfl, _, _, _, hr, rfl, rfl, le_line rfl, .inl hq⟩

def ct_Runner_pace (K : PySem.W.Frag) : Ct := fun ds M Q _ => ∃ (r w : Nat) (s : RS), ds = [.ref r] ∧ M[r]? = some (runnerO K w s) ∧ Q (.tup [.int s.vx, .int s.vy]) M

abbrev N_Runner_pace : List Str := ["self"]
theorem sc_Runner_pace : FnScope N_Runner_pace ["self"] (defScope s_Runner_pace) := ⟨rfl, rfl, rfl, by decide +kernel, rfl, by decide +kernel, by decide +kernel⟩
theorem ok_Runner_pace (T : Txt K mg base) : Ok P w K mg base 1 (He.fAd K ("Runner", some "pace")) ["self"] 1 (ct_Runner_pace K) := by
  obtain ⟨fd, F⟩ := T.f_Runner_pace
  have nd := sc_Runner_pace.nd
  refine Ok.of F (F.bindsN fun _ _ _ _ _ _ us hl => match us, hl with | [_], _ => rfl) sc_Runner_pace rfl fun cdv A outer s c jx tk hp hr => ⟨_, (jss_one (js_ret (je_tup (ja_cons (je_fld 4 (je_var 0 (pv 0)) T.cl_Runner T.n_Runner_across) (ja_cons (je_fld 5 (je_var 0 (pv 0)) T.cl_Runner T.n_Runner_down) ja_nil))))), fun ds M Q h => ?_⟩
  clear hr hp tk jx nd F T
  obtain ⟨r, w, s, rfl, hr, hq⟩ := h
  exact ⟨_, _, _, hr, rfl, rfl, _, _, _, hr, rfl, rfl, le_line rfl, .inl hq⟩

def ct_Runner_clock (K : PySem.W.Frag) : Ct := fun ds M Q _ => ∃ (r w : Nat) (s : RS), ds = [.ref r] ∧ M[r]? = some (runnerO K w s) ∧ Q (.int s.t) M

abbrev N_Runner_clock : List Str := ["self"]
theorem sc_Runner_clock : FnScope N_Runner_clock ["self"] (defScope s_Runner_clock) := ⟨rfl, rfl, rfl, by decide +kernel, rfl, by decide +kernel, by decide +kernel⟩
theorem ok_Runner_clock (T : Txt K mg base) : Ok P w K mg base 1 (He.fAd K ("Runner", some "clock")) ["self"] 1 (ct_Runner_clock K) := by
  obtain ⟨fd, F⟩ := T.f_Runner_clock
  have nd := sc_Runner_clock.nd
  refine Ok.of F (F.bindsN fun _ _ _ _ _ _ us hl => match us, hl with | [_], _ => rfl) sc_Runner_clock rfl fun cdv A outer s c jx tk hp hr => ⟨_, (jss_one (js_ret (je_fld 1 (je_var 0 (pv 0)) T.cl_Runner T.n_Runner_time))), fun ds M Q h => ?_⟩
  clear hr hp tk jx nd F T
  obtain ⟨r, w, s, rfl, hr, hq⟩ := h
  exact ⟨_, _, _, hr, rfl, rfl, .inl hq⟩

def ct_World_under (K : PySem.W.Frag) : Ct := fun ds M Q _ => ∃ r rs W H ls l t n, ds = [.ref r, .int l, .int t, .int n] ∧ IsWorld K M r rs W H ls ∧ Q (.lst ((underM ls l t n).map fun (i : Nat) => D.int (0 + (i : Int)))) M

abbrev N_World_under : List Str := ["self", "left", "top", "time", "found", "at", "lift", "mine", "row"]
theorem sc_World_under : FnScope N_World_under ["self", "left", "top", "time"] (defScope s_World_under) := ⟨rfl, rfl, rfl, by decide +kernel, rfl, by decide +kernel, by decide +kernel⟩
theorem ok_World_under (T : Txt K mg base) : Ok P w K mg base 3 (He.fAd K ("World", some "under")) ["self", "left", "top", "time"] 4 (ct_World_under K) := by
  obtain ⟨fd, F⟩ := T.f_World_under
  obtain ⟨fd_place, F_place, b_place, k_place⟩ := ok_place (P := P) (w := w) (base := base) T
  have nd := sc_World_under.nd
  refine Ok.of F (F.bindsN fun _ _ _ _ _ _ us hl => match us, hl with | [_, _, _, _], _ => rfl) sc_World_under rfl fun cdv A outer s c jx tk hp hr => ⟨_, (jss_cons (js_set (i := 4) nd rfl (by first | exact Or.inl rfl | exact Or.inr rfl) (je_lstM ja_nil))
    (jss_cons (js_for hp rfl (ji_enum rfl T.u_enumerate (ja_cons (je_fld 1 (je_var 0 (pv 0)) T.cl_World T.n_World_lifts) ja_nil)) (jg_tup rfl (jgs_cons (jg_name (i := 5) nd rfl (by first | exact Or.inl rfl | exact Or.inr rfl)) (jgs_cons (jg_name (i := 6) nd rfl (by first | exact Or.inl rfl | exact Or.inr rfl)) jgs_nil)))
    (jss_cons (js_asg (je_call jx F_place (hr.mono (by decide)) rfl T.g_place k_place b_place (ja_cons (je_var 6 (pv 6)) (ja_cons (je_var 3 (pv 3)) ja_nil))) (jg_tup rfl (jgs_cons (jg_name (i := 7) nd rfl (by first | exact Or.inl rfl | exact Or.inr rfl)) (jgs_cons (jg_name (i := 8) nd rfl (by first | exact Or.inl rfl | exact Or.inr rfl)) jgs_nil))))
    (jss_one (js_if (JW.pt (jw_and (jt_cmp (jo_eq (room_units hr)) (je_var 8 (pv 8)) (je_op jo_add (je_var 2 (pv 2)) (je_gint rfl T.c_HIGH))) (jw_and (jt_cmp jo_lt (je_var 7 (pv 7)) (je_op jo_add (je_var 1 (pv 1)) (je_gint rfl T.c_WIDE))) (jw_and1 (jt_cmp jo_lt (je_var 1 (pv 1)) (je_op jo_add (je_var 7 (pv 7)) (je_ix ji_seq (je_var 6 (pv 6)) je_int)))))))
    (jss_one (js_expr (je_bm PySem.F.plainAttrs_list PySem.F.slot_list_append PySem.F.type_list_append jm_app (je_var 4 (pv 4)) (ja_cons (je_var 5 (pv 5)) ja_nil))))
    jss_nil))))
    (jss_one (js_ret (je_frz (je_var 4 (pv 4))))))), fun ds M Q h => ?_⟩
  clear hr hp tk jx nd F_place b_place k_place fd_place F T
  obtain ⟨r, rs, W, H, ls, l, t, n, rfl, ⟨hr, g, hl, hn⟩, hq⟩ := h
  refine ⟨le_line rfl, g_var ?_⟩
  try dsimp only
  refine ⟨_, _, _, get_left hr, rfl, rfl, ?_⟩
  refine loop_inv _ (fun i ρ M' => M' = M ++ [.lst (((List.range i).filter (onAt ls l t n)).map fun (i : Nat) => D.int (0 + (i : Int)))] ∧ ∃ a b c d, ρ = [some (.ref r), some (.int l), some (.int t), some (.int n), some (.ref M.length), a, b, c, d]) ?_ ?_ ⟨rfl, none, none, none, none, rfl⟩
  · rintro i d hd ρ M' ⟨rfl, a, b, c', d', rfl⟩
    obtain ⟨x, hx, rfl⟩ := numbered_get hd
    rw [List.getElem?_map] at hx
    obtain ⟨z, hz, rfl⟩ := Option.map_eq_some_iff.mp hx
    have ok := hl z (List.mem_of_getElem? hz)
    obtain ⟨-, -, -, -, ⟨f1, f2⟩, p1, p2⟩ := isLift_iff.mp ok
    have hi : i < ls.length := (List.getElem?_eq_some_iff.mp hz).1
    have ea : onAt ls l t n i = onLift z l t n := by unfold onAt; rw [hz]
    have no : onLift z l t n = false → ∀ {go : Rho → Mem → Prop} {ρ : Rho}, (∀ ρ M', (M' = M ++ [.lst (((List.range (i + 1)).filter (onAt ls l t n)).map fun (i : Nat) => D.int (0 + (i : Int)))] ∧ ∃ a b c d, ρ = [some (.ref r), some (.int l), some (.int t), some (.int n), some (.ref M.length), a, b, c, d]) → go ρ M') → (∃ a b c d, ρ = [some (.ref r), some (.int l), some (.int t), some (.int n), some (.ref M.length), a, b, c, d]) → go ρ (M ++ [.lst (((List.range i).filter (onAt ls l t n)).map fun (i : Nat) => D.int (0 + (i : Int)))]) := fun e go ρ hgo h =>
      hgo _ _ ⟨by rw [List.range_succ, List.filter_append]; simp only [List.filter_cons, ea, e]; simp, h⟩
    refine ⟨trivial, fun go hgo => ?_⟩
    refine ⟨rfl, rfl, z.way, z.l, z.t, z.w, z.f, z.p, n, rfl, f1, f2, p1, p2, rfl, fun h1 => ⟨fun h2 => ⟨_, rfl, fun h3 => ?_, fun h3 => ?_⟩, fun h2 => ff ?_⟩, fun h1 => ff ?_⟩
    · have e : onLift z l t n = true := by
        unfold onLift
        rw [h1, h2]
        exact h3
      refine ⟨ty_lst get_end, _, get_end, ?_, ?_⟩
      · rw [List.length_map]
        refine Nat.lt_of_le_of_lt (List.length_filter_le _ _) ?_
        rw [List.length_range]
        exact Nat.lt_of_lt_of_le (show i < 1000 by omega) (by decide)
      · rw [set_end]
        refine hgo _ _ ⟨?_, _, _, _, _, rfl⟩
        rw [List.range_succ, List.filter_append]
        simp only [List.filter_cons, ea, e]
        simp
    · exact no (by unfold onLift; rw [h1, h2]; exact h3) hgo ⟨_, _, _, _, rfl⟩
    · exact no (by unfold onLift; rw [h1, h2]; rfl) hgo ⟨_, _, _, _, rfl⟩
    · exact no (by unfold onLift; rw [h1]; rfl) hgo ⟨_, _, _, _, rfl⟩
  · rintro ρ M' ⟨rfl, a, b, c', d', rfl⟩
    rw [numbered_length, List.length_map]
    refine ⟨trivial, _, get_end, ?_⟩
    rw [set_end]
    exact .inr ⟨M, Cut.same (ints_lt _ _), hq⟩

def ct_World_is_on_ledge (K : PySem.W.Frag) : Ct := fun ds M Q _ => ∃ r rs W H ls l t, ds = [.ref r, .int l, .int t] ∧ IsWorld K M r rs W H ls ∧ Q (.bl (ledgeAt rs W H l t)) M

abbrev N_World_is_on_ledge : List Str := ["self", "left", "top", "right"]
theorem sc_World_is_on_ledge : FnScope N_World_is_on_ledge ["self", "left", "top"] (defScope s_World_is_on_ledge) := ⟨rfl, rfl, rfl, by decide +kernel, rfl, by decide +kernel, by decide +kernel⟩
theorem ok_World_is_on_ledge (T : Txt K mg base) : Ok P w K mg base 3 (He.fAd K ("World", some "is_on_ledge")) ["self", "left", "top"] 3 (ct_World_is_on_ledge K) := by
  obtain ⟨fd, F⟩ := T.f_World_is_on_ledge
  obtain ⟨fd_is_ledge, F_is_ledge, b_is_ledge, k_is_ledge⟩ := ok_is_ledge (P := P) (w := w) (base := base) T
  have nd := sc_World_is_on_ledge.nd
  refine Ok.of F (F.bindsN fun _ _ _ _ _ _ us hl => match us, hl with | [_, _, _], _ => rfl) sc_World_is_on_ledge rfl fun cdv A outer s c jx tk hp hr => ⟨_, (jss_one (js_ret (je_callB (jc_any rfl) rfl T.u_any boot_any (ja_cons (je_lc (own := [("right", 3)]) rfl nd (ji_rng1 rfl T.u_range (ja_cons (je_gint rfl T.c_WIDE) ja_nil)) (blkOk_by (N := N_World_is_on_ledge) (sc := (defScope s_World_is_on_ledge)) (own := [("right", 3)]) (by decide +kernel)) (fun _ _ _ _ _ => (jgc_name (i := 3) nd rfl (by first | exact Or.inl rfl | exact Or.inr rfl))) (fun _ _ _ _ _ => jts_nil) (fun _ _ _ _ _ => (je_call (JX.in _ _) F_is_ledge (hr.mono (by decide)) rfl T.g_is_ledge k_is_ledge b_is_ledge (ja_cons (je_fld 0 (je_var 0 (pv 0)) T.cl_World T.n_World_rows) (ja_cons (je_op jo_add (je_var 1 (pv 1)) (je_var 3 (pv 3))) (ja_cons (je_op jo_add (je_var 2 (pv 2)) (je_gint rfl T.c_HIGH)) ja_nil)))))) ja_nil)))), fun ds M Q h => ?_⟩
  clear hr hp tk jx nd F_is_ledge b_is_ledge k_is_ledge fd_is_ledge F T
  obtain ⟨r, rs, W, H, ls, l, t, rfl, ⟨hr, g, hl, hn⟩, hq⟩ := h
  refine ⟨⟨by decide, by decide⟩, ?_⟩
  refine lc_map _ (fun d => match d with
    | .int x => .bl (ledgeM rs W H (l + x) (t + 10))
    | _ => .non) trivial (by rw [upTo_len]; decide) (fun x hx yes no hy => ?_) ?_
  · obtain ⟨k, hk⟩ := List.getElem?_of_mem hx
    obtain ⟨-, rfl⟩ := upTo_get hk
    exact tt ⟨_, _, _, hr, rfl, rfl, rfl, rs, W, H, _, _, rfl, g, hy⟩
  · refine ⟨(List.range 6).map fun (x : Nat) => ledgeM rs W H (l + (0 + (x : Int))) (t + 10), ?_, .inl ?_⟩
    · unfold J.upTo
      show some _ = some _
      rw [List.map_map, List.map_map]
      rfl
    · have e : ((List.range 6).map fun (x : Nat) => ledgeM rs W H (l + (0 + (x : Int))) (t + 10)).any id = ledgeAt rs W H l t := by
        rw [List.any_map]; rfl
      rw [e]
      exact hq

def ct_World_is_on_floor (K : PySem.W.Frag) : Ct := fun ds M Q _ => ∃ r rs W H ls l t n b, ds = [.ref r, .int l, .int t, .int n, .bl b] ∧ IsWorld K M r rs W H ls ∧ Q (.bl (floorM rs W H ls l t n b)) M

abbrev N_World_is_on_floor : List Str := ["self", "left", "top", "time", "is_dropping"]
theorem sc_World_is_on_floor : FnScope N_World_is_on_floor ["self", "left", "top", "time", "is_dropping"] (defScope s_World_is_on_floor) := ⟨rfl, rfl, rfl, by decide +kernel, rfl, by decide +kernel, by decide +kernel⟩
theorem ok_World_is_on_floor (T : Txt K mg base) : Ok P w K mg base 4 (He.fAd K ("World", some "is_on_floor")) ["self", "left", "top", "time", "is_dropping"] 5 (ct_World_is_on_floor K) := by
  obtain ⟨fd, F⟩ := T.f_World_is_on_floor
  obtain ⟨fd_World_under, F_World_under, b_World_under, k_World_under⟩ := ok_World_under (P := P) (w := w) (base := base) T
  obtain ⟨fd_World_is_on_ledge, F_World_is_on_ledge, b_World_is_on_ledge, k_World_is_on_ledge⟩ := ok_World_is_on_ledge (P := P) (w := w) (base := base) T
  obtain ⟨fd_World_is_free, F_World_is_free, b_World_is_free, k_World_is_free⟩ := ok_World_is_free (P := P) (w := w) (base := base) T
  have nd := sc_World_is_on_floor.nd
  refine Ok.of F (F.bindsN fun _ _ _ _ _ _ us hl => match us, hl with | [_, _, _, _, _], _ => rfl) sc_World_is_on_floor rfl fun cdv A outer s c jx tk hp hr => ⟨_, (jss_cons (js_if (jt_not (jt_val (je_meth jx (je_var 0 (pv 0)) T.cl_World T.m_World_is_free F_World_is_free (hr.mono (by decide)) b_World_is_free (ja_cons (je_var 1 (pv 1)) (ja_cons (je_op jo_add (je_var 2 (pv 2)) je_int) ja_nil)))))
    (jss_one (js_ret je_bl))
    jss_nil)
    (jss_cons (js_if (jt_val (je_var 4 (pv 4)))
    (jss_one (js_ret je_bl))
    jss_nil)
    (jss_one (js_ret (je_or (je_meth jx (je_var 0 (pv 0)) T.cl_World T.m_World_is_on_ledge F_World_is_on_ledge (hr.mono (by decide)) b_World_is_on_ledge (ja_cons (je_var 1 (pv 1)) (ja_cons (je_var 2 (pv 2)) ja_nil))) (je_one (je_cmp (jo_ne (room_units hr)) (je_meth jx (je_var 0 (pv 0)) T.cl_World T.m_World_under F_World_under (hr.mono (by decide)) b_World_under (ja_cons (je_var 1 (pv 1)) (ja_cons (je_var 2 (pv 2)) (ja_cons (je_var 3 (pv 3)) ja_nil)))) (je_lst ja_nil)))))))), fun ds M Q h => ?_⟩
  clear hr hp tk jx nd F_World_under b_World_under k_World_under fd_World_under F_World_is_on_ledge b_World_is_on_ledge k_World_is_on_ledge fd_World_is_on_ledge F_World_is_free b_World_is_free k_World_is_free fd_World_is_free F T
  obtain ⟨r, rs, W, H, ls, l, t, n, b, rfl, hw, hq⟩ := h
  obtain ⟨hr, g, hl, hn⟩ := hw
  refine ⟨_, _, hr, by decide, rfl, r, rs, W, H, ls, _, _, rfl, ⟨hr, g, hl, hn⟩, fun h1 => .inl ?_, fun h1 => ⟨fun h2 => .inl ?_, fun h2 => ?_⟩⟩
  · have e : floorM rs W H ls l t n b = true := by unfold floorM; rw [h1]; rfl
    rw [e] at hq; exact hq
  · have e : floorM rs W H ls l t n b = false := by unfold floorM; rw [h1, h2]; rfl
    rw [e] at hq; exact hq
  · have e : floorM rs W H ls l t n b = (ledgeAt rs W H l t || !(underM ls l t n).isEmpty) := by unfold floorM; rw [h1, h2]; simp
    rw [e] at hq
    refine ⟨_, _, hr, by decide, rfl, r, rs, W, H, ls, _, _, rfl, ⟨hr, g, hl, hn⟩, fun h3 => .inl ?_, fun h3 => ?_⟩
    · rw [h3] at hq; exact hq
    · rw [h3, Bool.false_or] at hq
      refine ⟨_, _, hr, by decide, rfl, r, rs, W, H, ls, _, _, _, rfl, ⟨hr, g, hl, hn⟩, le_line rfl, ?_⟩
      refine ⟨.list ((underM ls l t n).map fun (i : Nat) => .int (0 + (i : Int))), .list [], ?_, rfl, ?_, .inl ?_⟩
      · show (pyL _).map PyData.list = _
        rw [pyL_of (g := fun d => match d with
          | .int i => .int i
          | _ => .none) (fun x hx => by
            obtain ⟨i, _, rfl⟩ := List.mem_map.mp hx
            rfl), List.map_map]
        rfl
      · exact Nat.le_trans (Nat.min_le_right _ _) (by decide)
      · rw [if_pos rfl, eqv_nil, List.isEmpty_map]
        exact hq

def ct_Runner_stands (K : PySem.W.Frag) : Ct := fun ds M Q _ => ∃ (r w : Nat) (e : Wd) (s : RS) (b : Bool), ds = [.ref r, .bl b] ∧ M[r]? = some (runnerO K w s) ∧ IsW K M w e ∧ Q (.bl (e.floor s.x s.y s.t b)) M

abbrev N_Runner_stands : List Str := ["self", "is_dropping"]
theorem sc_Runner_stands : FnScope N_Runner_stands ["self", "is_dropping"] (defScope s_Runner_stands) := ⟨rfl, rfl, rfl, by decide +kernel, rfl, by decide +kernel, by decide +kernel⟩
theorem ok_Runner_stands (T : Txt K mg base) : Ok P w K mg base 5 (He.fAd K ("Runner", some "stands")) ["self", "is_dropping"] 2 (ct_Runner_stands K) := by
  obtain ⟨fd, F⟩ := T.f_Runner_stands
  obtain ⟨fd_World_is_on_floor, F_World_is_on_floor, b_World_is_on_floor, k_World_is_on_floor⟩ := ok_World_is_on_floor (P := P) (w := w) (base := base) T
  have nd := sc_Runner_stands.nd
  refine Ok.of F (F.bindsN fun _ _ _ _ _ _ us hl => match us, hl with | [_, _], _ => rfl) sc_Runner_stands rfl fun cdv A outer s c jx tk hp hr => ⟨_, (jss_one (js_ret (je_meth jx (je_fld 0 (je_var 0 (pv 0)) T.cl_Runner T.n_Runner_world) T.cl_World T.m_World_is_on_floor F_World_is_on_floor (hr.mono (by decide)) b_World_is_on_floor (ja_cons (je_fld 2 (je_var 0 (pv 0)) T.cl_Runner T.n_Runner_left) (ja_cons (je_fld 3 (je_var 0 (pv 0)) T.cl_Runner T.n_Runner_top) (ja_cons (je_fld 1 (je_var 0 (pv 0)) T.cl_Runner T.n_Runner_time) (ja_cons (je_var 1 (pv 1)) ja_nil))))))), fun ds M Q h => ?_⟩
  clear hr hp tk jx nd F_World_is_on_floor b_World_is_on_floor k_World_is_on_floor fd_World_is_on_floor F T
  obtain ⟨r, w, e, s, b, rfl, hr, hw, hq⟩ := h
  exact ⟨_, _, _, hr, rfl, rfl, _, _, hw.1, by decide, _, _, _, hr, rfl, rfl, _, _, _, hr, rfl, rfl, _, _, _, hr, rfl, rfl, rfl, w, e.rs, e.W, e.H, e.ls, s.x, s.y, s.t, b, rfl, hw, .inl hq⟩

def ct_Runner_is_standing (K : PySem.W.Frag) : Ct := fun ds M Q _ => ∃ (r w : Nat) (e : Wd) (s : RS), ds = [.ref r] ∧ M[r]? = some (runnerO K w s) ∧ IsW K M w e ∧ Q (.bl (e.floor s.x s.y s.t false)) M

abbrev N_Runner_is_standing : List Str := ["self"]
theorem sc_Runner_is_standing : FnScope N_Runner_is_standing ["self"] (defScope s_Runner_is_standing) := ⟨rfl, rfl, rfl, by decide +kernel, rfl, by decide +kernel, by decide +kernel⟩
theorem ok_Runner_is_standing (T : Txt K mg base) : Ok P w K mg base 6 (He.fAd K ("Runner", some "is_standing")) ["self"] 1 (ct_Runner_is_standing K) := by
  obtain ⟨fd, F⟩ := T.f_Runner_is_standing
  obtain ⟨fd_Runner_stands, F_Runner_stands, b_Runner_stands, k_Runner_stands⟩ := ok_Runner_stands (P := P) (w := w) (base := base) T
  have nd := sc_Runner_is_standing.nd
  refine Ok.of F (F.bindsN fun _ _ _ _ _ _ us hl => match us, hl with | [_], _ => rfl) sc_Runner_is_standing rfl fun cdv A outer s c jx tk hp hr => ⟨_, (jss_one (js_ret (je_meth jx (je_var 0 (pv 0)) T.cl_Runner T.m_Runner_stands F_Runner_stands (hr.mono (by decide)) b_Runner_stands (ja_cons je_bl ja_nil)))), fun ds M Q h => ?_⟩
  clear hr hp tk jx nd F_Runner_stands b_Runner_stands k_Runner_stands fd_Runner_stands F T
  obtain ⟨r, w, e, s, rfl, hr, hw, hq⟩ := h
  exact ⟨_, _, hr, by decide, rfl, r, w, e, s, false, rfl, hr, hw, .inl hq⟩

def ct_Runner_go_down (K : PySem.W.Frag) : Ct := fun ds M Q _ => ∃ (r w : Nat) (e : Wd) (s : RS) (d : Bool), ds = [.ref r, .bl d] ∧ M[r]? = some (runnerO K w s) ∧ IsW K M w e ∧ s.ok e ∧ Q .non (M.set r (runnerO K w (downM e d s)))

abbrev N_Runner_go_down : List Str := ["self", "is_dropping", "by", "step", "is_stopped"]
theorem sc_Runner_go_down : FnScope N_Runner_go_down ["self", "is_dropping"] (defScope s_Runner_go_down) := ⟨rfl, rfl, rfl, by decide +kernel, rfl, by decide +kernel, by decide +kernel⟩
theorem ok_Runner_go_down (T : Txt K mg base) : Ok P w K mg base 6 (He.fAd K ("Runner", some "go_down")) ["self", "is_dropping"] 2 (ct_Runner_go_down K) := by
  obtain ⟨fd, F⟩ := T.f_Runner_go_down
  obtain ⟨fd_Runner_stands, F_Runner_stands, b_Runner_stands, k_Runner_stands⟩ := ok_Runner_stands (P := P) (w := w) (base := base) T
  obtain ⟨fd_World_is_free, F_World_is_free, b_World_is_free, k_World_is_free⟩ := ok_World_is_free (P := P) (w := w) (base := base) T
  have nd := sc_Runner_go_down.nd
  refine Ok.of F (F.bindsN fun _ _ _ _ _ _ us hl => match us, hl with | [_, _], _ => rfl) sc_Runner_go_down rfl fun cdv A outer s c jx tk hp hr => ⟨_, (jss_cons (js_set (i := 2) nd rfl (by first | exact Or.inl rfl | exact Or.inr rfl) (je_if (jt_cmp jo_gt (je_fld 5 (je_var 0 (pv 0)) T.cl_Runner T.n_Runner_down) je_int) je_int (je_neg je_int)))
    (jss_one (js_for hp rfl (ji_rng1 rfl T.u_range (ja_cons (je_callB jc_abs rfl T.u_abs boot_abs (ja_cons (je_fld 5 (je_var 0 (pv 0)) T.cl_Runner T.n_Runner_down) ja_nil)) ja_nil)) (jg_name (i := 3) nd rfl (by first | exact Or.inl rfl | exact Or.inr rfl))
    (jss_cons (js_set (i := 4) nd rfl (by first | exact Or.inl rfl | exact Or.inr rfl) (je_if (jt_cmp jo_gt (je_var 2 (pv 2)) je_int) (je_meth jx (je_var 0 (pv 0)) T.cl_Runner T.m_Runner_stands F_Runner_stands (hr.mono (by decide)) b_Runner_stands (ja_cons (je_var 1 (pv 1)) ja_nil)) (je_not (je_meth jx (je_fld 0 (je_var 0 (pv 0)) T.cl_Runner T.n_Runner_world) T.cl_World T.m_World_is_free F_World_is_free (hr.mono (by decide)) b_World_is_free (ja_cons (je_fld 2 (je_var 0 (pv 0)) T.cl_Runner T.n_Runner_left) (ja_cons (je_op jo_sub (je_fld 3 (je_var 0 (pv 0)) T.cl_Runner T.n_Runner_top) je_int) ja_nil))))))
    (jss_cons (js_if (jt_val (je_var 4 (pv 4)))
    (jss_cons (js_fld 5 (je_var 0 (pv 0)) je_int T.cl_Runner T.n_Runner_down)
    (jss_one js_retN))
    jss_nil)
    (jss_one (js_fld 3 (je_var 0 (pv 0)) (je_op jo_add (je_fld 3 (je_var 0 (pv 0)) T.cl_Runner T.n_Runner_top) (je_var 2 (pv 2))) T.cl_Runner T.n_Runner_top))))))), fun ds M Q h => ?_⟩
  clear hr hp tk jx nd F_Runner_stands b_Runner_stands k_Runner_stands fd_Runner_stands F_World_is_free b_World_is_free k_World_is_free fd_World_is_free F T
  obtain ⟨r, w, e, s, d, rfl, hr, hw, hs, hq⟩ := h
  have hlen : r < M.length := (List.getElem?_eq_some_iff.mp hr).1
  have hv1 := hs.d1
  have hv2 := hs.d2
  refine seq_via (fun ρ M' => M' = M ∧ ρ = [some (.ref r), some (.bl d), some (.int (if 0 < s.vy then 1 else -1)), none, none]) (fun go hgo => ?_) ?_
  · refine ⟨_, _, _, hr, rfl, rfl, fun h1 => ?_, fun h1 => ?_⟩
    · have h1 : 0 < s.vy := of_decide_eq_true h1
      rw [if_pos h1] at hgo
      exact hgo _ _ ⟨rfl, rfl⟩
    · have h1 : ¬ 0 < s.vy := of_decide_eq_false h1
      rw [if_neg h1] at hgo
      exact hgo _ _ ⟨rfl, rfl⟩
  rintro _ M1 ⟨rfl, rfl⟩
  generalize hb : (if 0 < s.vy then 1 else -1 : Int) = b
  have hbs : 0 < b ↔ 0 < s.vy := by split at hb <;> omega
  refine ⟨_, _, _, hr, rfl, rfl, ⟨by omega, by omega⟩, ?_⟩
  refine loop_inv _ (fun i ρ M' => ∃ si z4 z5, M' = M1.set r (runnerO K w si) ∧ si.ok e ∧ si.vy = s.vy ∧ (∃ k, k + i = s.vy.natAbs ∧ downN e d k si = downM e d s) ∧ ρ = [some (.ref r), some (.bl d), some (.int b), z4, z5]) ?_ ?_ ⟨s, none, none, (set_self hr).symm, hs, rfl, ⟨s.vy.natAbs, rfl, rfl⟩, rfl⟩
  · rintro i x hx ρ _ ⟨si, z4, z5, rfl, hsi, hvy, ⟨k, hk, hN⟩, rfl⟩
    obtain ⟨hi, rfl⟩ := upTo_get hx
    have hr1 : (M1.set r (runnerO K w si))[r]? = some (runnerO K w si) := List.getElem?_set_self hlen
    have hw1 : IsW K (M1.set r (runnerO K w si)) w e := hw.put hr
    obtain ⟨k, rfl⟩ : ∃ k', k = k' + 1 := ⟨k - 1, by omega⟩
    refine ⟨trivial, fun go hgo => ?_⟩
    refine seq_via (fun ρ M' => M' = M1.set r (runnerO K w si) ∧ ρ = [some (.ref r), some (.bl d), some (.int b), some (.int (0 + (i : Int))), some (.bl (stopM e d si))]) (fun go2 hgo2 => ?_) ?_
    · refine ⟨fun h1 => ?_, fun h1 => ?_⟩
      · have h1 : 0 < si.vy := by rw [hvy]; exact hbs.mp (of_decide_eq_true h1)
        have es : stopM e d si = e.floor si.x si.y si.t d := if_pos h1
        rw [es] at hgo2
        exact ⟨_, _, hr1, by decide, rfl, r, w, e, si, d, rfl, hr1, hw1, hgo2 _ _ ⟨rfl, rfl⟩⟩
      · have h1 : ¬ 0 < si.vy := by rw [hvy]; exact fun q => of_decide_eq_false h1 (hbs.mpr q)
        have es : stopM e d si = !e.free si.x (si.y - 1) := if_neg h1
        rw [es] at hgo2
        exact ⟨_, _, _, hr1, rfl, rfl, _, _, hw1.1, by decide, _, _, _, hr1, rfl, rfl, _, _, _, hr1, rfl, rfl, rfl, w, e.rs, e.W, e.H, e.ls, si.x, si.y - 1, rfl, hw1, hgo2 _ _ ⟨rfl, rfl⟩⟩
    rintro _ _ ⟨rfl, rfl⟩
    refine ⟨fun h1 => ?_, fun h1 => ?_⟩
    · have h1 : stopM e d si = true := h1
      have e1 : downN e d (k + 1) si = { si with vy := 0 } := by
        show (if stopM e d si = true then { si with vy := 0 } else _) = _
        rw [if_pos h1]
      refine ⟨_, _, hr1, rfl, .inl ?_⟩
      rw [List.set_set]
      rw [← hN, e1] at hq
      exact hq
    · have h1 : stopM e d si = false := h1
      have e1 : downN e d (k + 1) si = downN e d k { si with y := si.y + (if 0 < si.vy then 1 else -1) } := by
        show (if stopM e d si = true then { si with vy := 0 } else _) = _
        rw [if_neg (by rw [h1]; exact Bool.false_ne_true)]
      have hne : si.vy ≠ 0 := by omega
      have hok := stop_ok hsi hne h1
      have ebb : (if 0 < si.vy then 1 else -1 : Int) = b := by rw [hvy]; exact hb
      rw [ebb] at e1 hok
      refine ⟨_, _, _, hr1, rfl, rfl, _, _, hr1, rfl, ?_⟩
      rw [List.set_set]
      exact hgo _ _ ⟨{ si with y := si.y + b }, _, _, rfl, hok, hvy, ⟨k, by omega, by rw [← e1, hN]⟩, rfl⟩
  · rintro ρ _ ⟨si, z4, z5, rfl, hsi, hvy, ⟨k, hk, hN⟩, rfl⟩
    rw [upTo_len] at hk
    have : k = 0 := by omega
    subst this
    refine ⟨trivial, .inl ?_⟩
    rw [← hN] at hq
    exact hq

def ct_Runner_step_down (K : PySem.W.Frag) : Ct := fun ds M Q _ => ∃ (r w : Nat) (e : Wd) (s : RS), ds = [.ref r] ∧ M[r]? = some (runnerO K w s) ∧ IsW K M w e ∧ (e.floor s.x (s.y + 1) s.t false = true → Q .non (M.set r (runnerO K w { s with y := s.y + 1 }))) ∧ (e.floor s.x (s.y + 1) s.t false = false → Q .non M)

abbrev N_Runner_step_down : List Str := ["self"]
theorem sc_Runner_step_down : FnScope N_Runner_step_down ["self"] (defScope s_Runner_step_down) := ⟨rfl, rfl, rfl, by decide +kernel, rfl, by decide +kernel, by decide +kernel⟩
theorem ok_Runner_step_down (T : Txt K mg base) : Ok P w K mg base 5 (He.fAd K ("Runner", some "step_down")) ["self"] 1 (ct_Runner_step_down K) := by
  obtain ⟨fd, F⟩ := T.f_Runner_step_down
  obtain ⟨fd_World_is_on_floor, F_World_is_on_floor, b_World_is_on_floor, k_World_is_on_floor⟩ := ok_World_is_on_floor (P := P) (w := w) (base := base) T
  have nd := sc_Runner_step_down.nd
  refine Ok.of F (F.bindsN fun _ _ _ _ _ _ us hl => match us, hl with | [_], _ => rfl) sc_Runner_step_down rfl fun cdv A outer s c jx tk hp hr => ⟨_, (jss_one (js_if (jt_val (je_meth jx (je_fld 0 (je_var 0 (pv 0)) T.cl_Runner T.n_Runner_world) T.cl_World T.m_World_is_on_floor F_World_is_on_floor (hr.mono (by decide)) b_World_is_on_floor (ja_cons (je_fld 2 (je_var 0 (pv 0)) T.cl_Runner T.n_Runner_left) (ja_cons (je_op jo_add (je_fld 3 (je_var 0 (pv 0)) T.cl_Runner T.n_Runner_top) je_int) (ja_cons (je_fld 1 (je_var 0 (pv 0)) T.cl_Runner T.n_Runner_time) (ja_cons je_bl ja_nil))))))
    (jss_one (js_fld 3 (je_var 0 (pv 0)) (je_op jo_add (je_fld 3 (je_var 0 (pv 0)) T.cl_Runner T.n_Runner_top) je_int) T.cl_Runner T.n_Runner_top))
    jss_nil)), fun ds M Q h => ?_⟩
  clear hr hp tk jx nd F_World_is_on_floor b_World_is_on_floor k_World_is_on_floor fd_World_is_on_floor F T
  obtain ⟨r, w, e, s, rfl, hr, hw, hq1, hq2⟩ := h
  refine ⟨_, _, _, hr, rfl, rfl, _, _, hw.1, by decide, _, _, _, hr, rfl, rfl, _, _, _, hr, rfl, rfl, _, _, _, hr, rfl, rfl, rfl, w, e.rs, e.W, e.H, e.ls, s.x, s.y + 1, s.t, false, rfl, hw, fun h1 => ?_, fun h1 => .inl (hq2 h1)⟩
  exact ⟨_, _, _, hr, rfl, rfl, _, _, hr, rfl, .inl (hq1 h1)⟩

def ct_Runner_step_across (K : PySem.W.Frag) : Ct := fun ds M Q _ => ∃ (r w : Nat) (e : Wd) (s : RS) (b : Int), ds = [.ref r, .int b] ∧ M[r]? = some (runnerO K w s) ∧ IsW K M w e ∧ s.ok e ∧ (∀ s', stepM e b s = some s' → Q (.bl true) (M.set r (runnerO K w s'))) ∧ (stepM e b s = none → Q (.bl false) M)

abbrev N_Runner_step_across : List Str := ["self", "by", "was_standing"]
theorem sc_Runner_step_across : FnScope N_Runner_step_across ["self", "by"] (defScope s_Runner_step_across) := ⟨rfl, rfl, rfl, by decide +kernel, rfl, by decide +kernel, by decide +kernel⟩
theorem ok_Runner_step_across (T : Txt K mg base) : Ok P w K mg base 6 (He.fAd K ("Runner", some "step_across")) ["self", "by"] 2 (ct_Runner_step_across K) := by
  obtain ⟨fd, F⟩ := T.f_Runner_step_across
  obtain ⟨fd_World_is_free, F_World_is_free, b_World_is_free, k_World_is_free⟩ := ok_World_is_free (P := P) (w := w) (base := base) T
  obtain ⟨fd_Runner_stands, F_Runner_stands, b_Runner_stands, k_Runner_stands⟩ := ok_Runner_stands (P := P) (w := w) (base := base) T
  obtain ⟨fd_Runner_step_down, F_Runner_step_down, b_Runner_step_down, k_Runner_step_down⟩ := ok_Runner_step_down (P := P) (w := w) (base := base) T
  have nd := sc_Runner_step_across.nd
  refine Ok.of F (F.bindsN fun _ _ _ _ _ _ us hl => match us, hl with | [_, _], _ => rfl) sc_Runner_step_across rfl fun cdv A outer s c jx tk hp hr => ⟨_, (jss_cons (js_set (i := 2) nd rfl (by first | exact Or.inl rfl | exact Or.inr rfl) (je_meth jx (je_var 0 (pv 0)) T.cl_Runner T.m_Runner_stands F_Runner_stands (hr.mono (by decide)) b_Runner_stands (ja_cons je_bl ja_nil)))
    (jss_cons (js_if (jt_val (je_meth jx (je_fld 0 (je_var 0 (pv 0)) T.cl_Runner T.n_Runner_world) T.cl_World T.m_World_is_free F_World_is_free (hr.mono (by decide)) b_World_is_free (ja_cons (je_op jo_add (je_fld 2 (je_var 0 (pv 0)) T.cl_Runner T.n_Runner_left) (je_var 1 (pv 1))) (ja_cons (je_fld 3 (je_var 0 (pv 0)) T.cl_Runner T.n_Runner_top) ja_nil))))
    (jss_cons (js_fld 2 (je_var 0 (pv 0)) (je_op jo_add (je_fld 2 (je_var 0 (pv 0)) T.cl_Runner T.n_Runner_left) (je_var 1 (pv 1))) T.cl_Runner T.n_Runner_left)
    (jss_cons (js_if (JW.pt (jw_and (jt_val (je_var 2 (pv 2))) (jw_and (jt_cmp jo_ge (je_fld 5 (je_var 0 (pv 0)) T.cl_Runner T.n_Runner_down) je_int) (jw_and1 (jt_not (jt_val (je_meth jx (je_var 0 (pv 0)) T.cl_Runner T.m_Runner_stands F_Runner_stands (hr.mono (by decide)) b_Runner_stands (ja_cons je_bl ja_nil))))))))
    (jss_one (js_expr (je_meth0 jx (je_var 0 (pv 0)) T.cl_Runner T.m_Runner_step_down F_Runner_step_down (hr.mono (by decide)) b_Runner_step_down)))
    jss_nil)
    (jss_one (js_ret je_bl))))
    jss_nil)
    (jss_cons (js_if (JW.pt (jw_and (jt_val (je_var 2 (pv 2))) (jw_and1 (jt_val (je_meth jx (je_fld 0 (je_var 0 (pv 0)) T.cl_Runner T.n_Runner_world) T.cl_World T.m_World_is_free F_World_is_free (hr.mono (by decide)) b_World_is_free (ja_cons (je_op jo_add (je_fld 2 (je_var 0 (pv 0)) T.cl_Runner T.n_Runner_left) (je_var 1 (pv 1))) (ja_cons (je_op jo_sub (je_fld 3 (je_var 0 (pv 0)) T.cl_Runner T.n_Runner_top) je_int) ja_nil)))))))
    (jss_cons (js_asg (je_tup (ja_cons (je_op jo_add (je_fld 2 (je_var 0 (pv 0)) T.cl_Runner T.n_Runner_left) (je_var 1 (pv 1))) (ja_cons (je_op jo_sub (je_fld 3 (je_var 0 (pv 0)) T.cl_Runner T.n_Runner_top) je_int) ja_nil))) (jg_tup rfl (jgs_cons (jg_fld 2 (je_var 0 (pv 0)) T.cl_Runner T.n_Runner_left) (jgs_cons (jg_fld 3 (je_var 0 (pv 0)) T.cl_Runner T.n_Runner_top) jgs_nil))))
    (jss_one (js_ret je_bl)))
    jss_nil)
    (jss_one (js_ret je_bl))))), fun ds M Q h => ?_⟩
  clear hr hp tk jx nd F_World_is_free b_World_is_free k_World_is_free fd_World_is_free F_Runner_stands b_Runner_stands k_Runner_stands fd_Runner_stands F_Runner_step_down b_Runner_step_down k_Runner_step_down fd_Runner_step_down F T
  obtain ⟨r, w, e, s, b, rfl, hr, hw, hs, hq1, hq2⟩ := h
  have hlen : r < M.length := (List.getElem?_eq_some_iff.mp hr).1
  refine ⟨_, _, hr, by decide, rfl, r, w, e, s, false, rfl, hr, hw, ?_⟩
  refine ⟨_, _, _, hr, rfl, rfl, _, _, hw.1, by decide, _, _, _, hr, rfl, rfl, _, _, _, hr, rfl, rfl, rfl, w, e.rs, e.W, e.H, e.ls, s.x + b, s.y, rfl, hw, fun h1 => ?_, fun h1 => ?_⟩
  · have hr1 : (M.set r (runnerO K w { s with x := s.x + b }))[r]? = some (runnerO K w { s with x := s.x + b }) := List.getElem?_set_self hlen
    have hw1 : IsW K (M.set r (runnerO K w { s with x := s.x + b })) w e := hw.put hr
    have h1 : e.free (s.x + b) s.y = true := h1
    have no : ¬ (e.floor s.x s.y s.t false = true ∧ 0 ≤ s.vy ∧ e.floor (s.x + b) s.y s.t false = false ∧ e.floor (s.x + b) (s.y + 1) s.t false = true) → Q (.bl true) (M.set r (runnerO K w { s with x := s.x + b })) := fun h => hq1 _ (by
      unfold stepM
      rw [if_pos h1, if_neg h])
    refine ⟨_, _, _, hr, rfl, rfl, _, _, hr, rfl, fun h2 => ⟨_, _, _, hr1, rfl, rfl, fun h3 => ⟨_, _, hr1, by decide, rfl, r, w, e, { s with x := s.x + b }, false, rfl, hr1, hw1, fun h4 => ?_, fun h4 => ?_⟩, fun h3 => ff (.inl (no ?_))⟩, fun h2 => ff (.inl (no ?_))⟩
    · refine ⟨_, _, hr1, by decide, rfl, r, w, e, { s with x := s.x + b }, rfl, hr1, hw1, fun h5 => .inl ?_, fun h5 => .inl (no ?_)⟩
      · rw [List.set_set]
        refine hq1 _ ?_
        unfold stepM
        rw [if_pos h1, if_pos ⟨h2, of_decide_eq_true h3, (Bool.not_eq_true' _).mp h4, h5⟩]
      · intro q
        have h5 : e.floor (s.x + b) (s.y + 1) s.t false = false := h5
        rw [h5] at q; cases q.2.2.2
    · refine .inl (no fun q => ?_)
      have h4 : (!e.floor (s.x + b) s.y s.t false) = false := h4
      rw [q.2.2.1] at h4; cases h4
    · exact fun q => of_decide_eq_false h3 q.2.1
    · intro q
      have h2 : e.floor s.x s.y s.t false = false := h2
      rw [h2] at q; cases q.1
  · have h1 : e.free (s.x + b) s.y = false := h1
    have h1n : ¬ (e.free (s.x + b) s.y = true) := by rw [h1]; exact Bool.false_ne_true
    have hr1 : (M.set r (runnerO K w { s with x := s.x + b }))[r]? = some (runnerO K w { s with x := s.x + b }) := List.getElem?_set_self hlen
    refine ⟨fun h2 => ⟨_, _, _, hr, rfl, rfl, _, _, hw.1, by decide, _, _, _, hr, rfl, rfl, _, _, _, hr, rfl, rfl, rfl, w, e.rs, e.W, e.H, e.ls, s.x + b, s.y - 1, rfl, hw, fun h3 => ?_, fun h3 => .inl (hq2 ?_)⟩, fun h2 => ff (.inl (hq2 ?_))⟩
    · refine ⟨_, _, _, hr, rfl, rfl, _, _, _, hr, rfl, rfl, le_line rfl, rfl, _, _, hr, rfl, _, _, hr1, rfl, .inl ?_⟩
      rw [List.set_set]
      exact hq1 { s with x := s.x + b, y := s.y - 1 } (by
        unfold stepM
        rw [if_neg h1n, if_pos ⟨h2, h3⟩])
    · unfold stepM
      rw [if_neg h1n, if_neg]
      intro q
      have h3 : e.free (s.x + b) (s.y - 1) = false := h3
      rw [h3] at q; cases q.2
    · unfold stepM
      rw [if_neg h1n, if_neg]
      intro q
      have h2 : e.floor s.x s.y s.t false = false := h2
      rw [h2] at q; cases q.1

def ct_Runner_go_across (K : PySem.W.Frag) : Ct := fun ds M Q _ => ∃ (r w : Nat) (e : Wd) (s : RS), ds = [.ref r] ∧ M[r]? = some (runnerO K w s) ∧ IsW K M w e ∧ s.ok e ∧ Q .non (M.set r (runnerO K w (acrossM e  s)))

abbrev N_Runner_go_across : List Str := ["self", "by", "step"]
theorem sc_Runner_go_across : FnScope N_Runner_go_across ["self"] (defScope s_Runner_go_across) := ⟨rfl, rfl, rfl, by decide +kernel, rfl, by decide +kernel, by decide +kernel⟩
theorem ok_Runner_go_across (T : Txt K mg base) : Ok P w K mg base 7 (He.fAd K ("Runner", some "go_across")) ["self"] 1 (ct_Runner_go_across K) := by
  obtain ⟨fd, F⟩ := T.f_Runner_go_across
  obtain ⟨fd_Runner_step_across, F_Runner_step_across, b_Runner_step_across, k_Runner_step_across⟩ := ok_Runner_step_across (P := P) (w := w) (base := base) T
  have nd := sc_Runner_go_across.nd
  refine Ok.of F (F.bindsN fun _ _ _ _ _ _ us hl => match us, hl with | [_], _ => rfl) sc_Runner_go_across rfl fun cdv A outer s c jx tk hp hr => ⟨_, (jss_cons (js_set (i := 1) nd rfl (by first | exact Or.inl rfl | exact Or.inr rfl) (je_if (jt_cmp jo_gt (je_fld 4 (je_var 0 (pv 0)) T.cl_Runner T.n_Runner_across) je_int) je_int (je_neg je_int)))
    (jss_one (js_for hp rfl (ji_rng1 rfl T.u_range (ja_cons (je_callB jc_abs rfl T.u_abs boot_abs (ja_cons (je_fld 4 (je_var 0 (pv 0)) T.cl_Runner T.n_Runner_across) ja_nil)) ja_nil)) (jg_name (i := 2) nd rfl (by first | exact Or.inl rfl | exact Or.inr rfl))
    (jss_one (js_if (jt_not (jt_val (je_meth jx (je_var 0 (pv 0)) T.cl_Runner T.m_Runner_step_across F_Runner_step_across (hr.mono (by decide)) b_Runner_step_across (ja_cons (je_var 1 (pv 1)) ja_nil))))
    (jss_cons (js_fld 4 (je_var 0 (pv 0)) je_int T.cl_Runner T.n_Runner_across)
    (jss_one js_retN))
    jss_nil))))), fun ds M Q h => ?_⟩
  clear hr hp tk jx nd F_Runner_step_across b_Runner_step_across k_Runner_step_across fd_Runner_step_across F T
  obtain ⟨r, w, e, s, rfl, hr, hw, hs, hq⟩ := h
  have hlen : r < M.length := (List.getElem?_eq_some_iff.mp hr).1
  have hv1 := hs.v1
  have hv2 := hs.v2
  refine seq_via (fun ρ M' => M' = M ∧ ρ = [some (.ref r), some (.int (if 0 < s.vx then 1 else -1)), none]) (fun go hgo => ?_) ?_
  · refine ⟨_, _, _, hr, rfl, rfl, fun h1 => ?_, fun h1 => ?_⟩
    · have h1 : 0 < s.vx := of_decide_eq_true h1
      rw [if_pos h1] at hgo
      exact hgo _ _ ⟨rfl, rfl⟩
    · have h1 : ¬ 0 < s.vx := of_decide_eq_false h1
      rw [if_neg h1] at hgo
      exact hgo _ _ ⟨rfl, rfl⟩
  rintro _ M1 ⟨rfl, rfl⟩
  generalize hb : (if 0 < s.vx then 1 else -1 : Int) = b
  refine ⟨_, _, _, hr, rfl, rfl, ⟨by omega, by omega⟩, ?_⟩
  have ea : acrossM e s = acrossN e b s.vx.natAbs s := by unfold acrossM; rw [hb]
  rw [ea] at hq
  refine loop_inv _ (fun i ρ M' => ∃ si z, M' = M1.set r (runnerO K w si) ∧ si.ok e ∧ (∃ k, k + i = s.vx.natAbs ∧ acrossN e b k si = acrossN e b s.vx.natAbs s) ∧ ρ = [some (.ref r), some (.int b), z]) ?_ ?_ ⟨s, none, (set_self hr).symm, hs, ⟨s.vx.natAbs, rfl, rfl⟩, rfl⟩
  · rintro i d hd ρ _ ⟨si, z, rfl, hsi, ⟨k, hk, hN⟩, rfl⟩
    obtain ⟨hi, rfl⟩ := upTo_get hd
    have hr1 : (M1.set r (runnerO K w si))[r]? = some (runnerO K w si) := List.getElem?_set_self hlen
    have hw1 : IsW K (M1.set r (runnerO K w si)) w e := hw.put hr
    obtain ⟨k, rfl⟩ : ∃ k', k = k' + 1 := ⟨k - 1, by
      omega⟩
    refine ⟨trivial, fun go hgo => ⟨_, _, hr1, by decide, rfl, r, w, e, si, b, rfl, hr1, hw1, hsi, fun s' h => ?_, fun h => ?_⟩⟩
    · rw [List.set_set]
      have : acrossN e b (k + 1) si = acrossN e b k s' := by
        show (match stepM e b si with
          | some s' => acrossN e b k s'
          | none => { si with vx := 0 }) = _
        rw [h]
      exact ff (hgo _ _ ⟨s', _, rfl, (step_ok hsi h).1, ⟨k, by omega, by rw [← this, hN]⟩, rfl⟩)
    · have : acrossN e b (k + 1) si = { si with vx := 0 } := by
        show (match stepM e b si with
          | some s' => acrossN e b k s'
          | none => { si with vx := 0 }) = _
        rw [h]
      refine tt ⟨_, _, hr1, rfl, .inl ?_⟩
      rw [List.set_set]
      rw [← hN, this] at hq
      exact hq
  · rintro ρ _ ⟨si, z, rfl, hsi, ⟨k, hk, hN⟩, rfl⟩
    rw [upTo_len] at hk
    have : k = 0 := by
      have : ((s.vx.natAbs : Int)).toNat = s.vx.natAbs := by omega
      omega
    subst this
    refine ⟨trivial, .inl ?_⟩
    rw [← hN] at hq
    exact hq

def ct_Runner_leap (K : PySem.W.Frag) : Ct := fun ds M Q _ => ∃ (r w : Nat) (e : Wd) (s : RS) (z : Str), ds = [.ref r, .str z] ∧ M[r]? = some (runnerO K w s) ∧ IsW K M w e ∧ s.ok e ∧ Q .non (M.set r (runnerO K w (leapM e z s)))

abbrev N_Runner_leap : List Str := ["self", "keys"]
theorem sc_Runner_leap : FnScope N_Runner_leap ["self", "keys"] (defScope s_Runner_leap) := ⟨rfl, rfl, rfl, by decide +kernel, rfl, by decide +kernel, by decide +kernel⟩
theorem ok_Runner_leap (T : Txt K mg base) : Ok P w K mg base 6 (He.fAd K ("Runner", some "leap")) ["self", "keys"] 2 (ct_Runner_leap K) := by
  obtain ⟨fd, F⟩ := T.f_Runner_leap
  obtain ⟨fd_Runner_stands, F_Runner_stands, b_Runner_stands, k_Runner_stands⟩ := ok_Runner_stands (P := P) (w := w) (base := base) T
  have nd := sc_Runner_leap.nd
  refine Ok.of F (F.bindsN fun _ _ _ _ _ _ us hl => match us, hl with | [_, _], _ => rfl) sc_Runner_leap rfl fun cdv A outer s c jx tk hp hr => ⟨_, (jss_one (js_if (JW.pt (jw_and (jt_val (je_meth jx (je_var 0 (pv 0)) T.cl_Runner T.m_Runner_stands F_Runner_stands (hr.mono (by decide)) b_Runner_stands (ja_cons (je_cmp jo_inS je_str (je_var 1 (pv 1))) ja_nil))) (jw_and1 (jt_cmp jo_ge (je_fld 5 (je_var 0 (pv 0)) T.cl_Runner T.n_Runner_down) je_int))))
    (jss_one (js_fld 5 (je_var 0 (pv 0)) (je_if (JW.pt (jw_and (jt_cmp jo_inS je_str (je_var 1 (pv 1))) (jw_and1 (jt_not (jt_val (je_fld 6 (je_var 0 (pv 0)) T.cl_Runner T.n_Runner_was_jumping)))))) (je_op jo_sub je_int (je_gint rfl T.c_JUMP)) je_int) T.cl_Runner T.n_Runner_down))
    (jss_one (js_fld 5 (je_var 0 (pv 0)) (je_callB (jc_min2 rfl) rfl T.u_min boot_min (ja_cons (je_gint rfl T.c_FALLING) (ja_cons (je_op jo_add (je_fld 5 (je_var 0 (pv 0)) T.cl_Runner T.n_Runner_down) je_int) ja_nil))) T.cl_Runner T.n_Runner_down)))), fun ds M Q h => ?_⟩
  clear hr hp tk jx nd F_Runner_stands b_Runner_stands k_Runner_stands fd_Runner_stands F T
  obtain ⟨r, w, e, s, z, rfl, hr, hw, hs, hq⟩ := h
  have hlen : r < M.length := (List.getElem?_eq_some_iff.mp hr).1
  refine ⟨_, _, hr, by decide, 100, rfl, rfl, r, w, e, s, has 100 z, rfl, hr, hw, fun h1 => ⟨_, _, _, hr, rfl, rfl, fun h2 => ?_, fun h2 => ?_⟩, fun h1 => ff ?_⟩
  · have hy : 0 ≤ s.vy := of_decide_eq_true h2
    have e0 : leapM e z s = { s with vy := if has 106 z = true ∧ s.j = false then 0 - 6 else 0 } := by
      unfold leapM
      rw [if_pos ⟨h1, hy⟩]
    rw [e0] at hq
    refine ⟨106, rfl, fun h3 => ⟨_, _, _, hr, rfl, rfl, fun h4 => ?_, fun h4 => ?_⟩, fun h3 => ff ?_⟩
    · rw [if_pos ⟨h3, (Bool.not_eq_true' _).mp h4⟩] at hq
      exact ⟨_, _, hr, rfl, .inl hq⟩
    · rw [if_neg (fun q => by rw [q.2] at h4; cases h4)] at hq
      exact ⟨_, _, hr, rfl, .inl hq⟩
    · rw [if_neg (fun q => by
        have h3 : has 106 z = false := h3
        rw [h3] at q; cases q.1)] at hq
      exact ⟨_, _, hr, rfl, .inl hq⟩
  · have e0 : leapM e z s = { s with vy := min 6 (s.vy + 1) } := by
      unfold leapM
      rw [if_neg (fun q => of_decide_eq_false h2 q.2)]
    rw [e0] at hq
    exact ⟨_, _, _, hr, rfl, rfl, _, _, hr, rfl, .inl hq⟩
  · have e0 : leapM e z s = { s with vy := min 6 (s.vy + 1) } := by
      unfold leapM
      rw [if_neg (fun q => by rw [h1] at q; cases q.1)]
    rw [e0] at hq
    exact ⟨_, _, _, hr, rfl, rfl, _, _, hr, rfl, .inl hq⟩

def ct_Runner_speed_up (K : PySem.W.Frag) : Ct := fun ds M Q _ => ∃ (r w : Nat) (e : Wd) (s : RS) (z : Str), ds = [.ref r, .str z] ∧ M[r]? = some (runnerO K w s) ∧ IsW K M w e ∧ s.ok e ∧ Q .non (M.set r (runnerO K w (speedM  z s)))

abbrev N_Runner_speed_up : List Str := ["self", "keys", "by"]
theorem sc_Runner_speed_up : FnScope N_Runner_speed_up ["self", "keys"] (defScope s_Runner_speed_up) := ⟨rfl, rfl, rfl, by decide +kernel, rfl, by decide +kernel, by decide +kernel⟩
theorem ok_Runner_speed_up (T : Txt K mg base) : Ok P w K mg base 1 (He.fAd K ("Runner", some "speed_up")) ["self", "keys"] 2 (ct_Runner_speed_up K) := by
  obtain ⟨fd, F⟩ := T.f_Runner_speed_up
  have nd := sc_Runner_speed_up.nd
  refine Ok.of F (F.bindsN fun _ _ _ _ _ _ us hl => match us, hl with | [_, _], _ => rfl) sc_Runner_speed_up rfl fun cdv A outer s c jx tk hp hr => ⟨_, (jss_cons (js_set (i := 2) nd rfl (by first | exact Or.inl rfl | exact Or.inr rfl) (je_op jo_sub (je_callTy jc_int rfl T.u_int boot_int (ja_cons (je_cmp jo_inS je_str (je_var 1 (pv 1))) ja_nil)) (je_callTy jc_int rfl T.u_int boot_int (ja_cons (je_cmp jo_inS je_str (je_var 1 (pv 1))) ja_nil))))
    (jss_cons (js_if (jt_cmp (jo_eq (room_units hr)) (je_var 2 (pv 2)) je_int)
    (jss_one (js_set (i := 2) nd rfl (by first | exact Or.inl rfl | exact Or.inr rfl) (je_op jo_sub (je_callTy jc_int rfl T.u_int boot_int (ja_cons (je_cmp jo_lt (je_fld 4 (je_var 0 (pv 0)) T.cl_Runner T.n_Runner_across) je_int) ja_nil)) (je_callTy jc_int rfl T.u_int boot_int (ja_cons (je_cmp jo_gt (je_fld 4 (je_var 0 (pv 0)) T.cl_Runner T.n_Runner_across) je_int) ja_nil)))))
    jss_nil)
    (jss_one (js_fld 4 (je_var 0 (pv 0)) (je_callB (jc_max2 rfl) rfl T.u_max boot_max (ja_cons (je_op jo_sub je_int (je_gint rfl T.c_FASTEST)) (ja_cons (je_callB (jc_min2 rfl) rfl T.u_min boot_min (ja_cons (je_gint rfl T.c_FASTEST) (ja_cons (je_op jo_add (je_fld 4 (je_var 0 (pv 0)) T.cl_Runner T.n_Runner_across) (je_var 2 (pv 2))) ja_nil))) ja_nil))) T.cl_Runner T.n_Runner_across)))), fun ds M Q h => ?_⟩
  clear hr hp tk jx nd F T
  obtain ⟨r, w, e, s, z, rfl, hr, hw, hs, hq⟩ := h
  have hlen : r < M.length := (List.getElem?_eq_some_iff.mp hr).1
  refine ⟨114, rfl, 108, rfl, fun h1 => ?_, fun h1 => ?_⟩
  · have e1 : speedM z s = { s with vx := max (0 - 3) (min 3 (s.vx + (b2i (decide (s.vx < 0)) - b2i (decide (0 < s.vx))))) } := by
      unfold speedM pushM
      rw [if_pos (show b2i (has 114 z) - b2i (has 108 z) = 0 from of_decide_eq_true h1)]
    rw [e1] at hq
    exact ⟨_, _, _, hr, rfl, rfl, _, _, _, hr, rfl, rfl, _, _, _, hr, rfl, rfl, _, _, hr, rfl, .inl hq⟩
  · have e1 : speedM z s = { s with vx := max (0 - 3) (min 3 (s.vx + (b2i (has 114 z) - b2i (has 108 z)))) } := by
      unfold speedM pushM
      rw [if_neg (show ¬ (b2i (has 114 z) - b2i (has 108 z) = 0) from of_decide_eq_false h1)]
    rw [e1] at hq
    exact ⟨_, _, _, hr, rfl, rfl, _, _, hr, rfl, .inl hq⟩

def ct_Runner_be_carried (K : PySem.W.Frag) : Ct := fun ds M Q _ => ∃ (r w : Nat) (e : Wd) (s : RS), ds = [.ref r] ∧ M[r]? = some (runnerO K w s) ∧ IsW K M w e ∧ s.ok e ∧ Q .non (M.set r (runnerO K w (carryM e  s)))
def wayF (n : Int) : D → D
  | .tup [.str way, .int l, .int t, .int _, .int f, .int p] => placeD (placeL way l t f p n)
  | _ => .non

abbrev N_Runner_be_carried : List Str := ["self", "ways", "lift", "under", "mine", "row", "left", "top"]
theorem sc_Runner_be_carried : FnScope N_Runner_be_carried ["self"] (defScope s_Runner_be_carried) := ⟨rfl, rfl, rfl, by decide +kernel, rfl, by decide +kernel, by decide +kernel⟩
theorem ok_Runner_be_carried (T : Txt K mg base) : Ok P w K mg base 4 (He.fAd K ("Runner", some "be_carried")) ["self"] 1 (ct_Runner_be_carried K) := by
  obtain ⟨fd, F⟩ := T.f_Runner_be_carried
  obtain ⟨fd_World_is_free, F_World_is_free, b_World_is_free, k_World_is_free⟩ := ok_World_is_free (P := P) (w := w) (base := base) T
  obtain ⟨fd_place, F_place, b_place, k_place⟩ := ok_place (P := P) (w := w) (base := base) T
  obtain ⟨fd_World_under, F_World_under, b_World_under, k_World_under⟩ := ok_World_under (P := P) (w := w) (base := base) T
  have nd := sc_Runner_be_carried.nd
  refine Ok.of F (F.bindsN fun _ _ _ _ _ _ us hl => match us, hl with | [_], _ => rfl) sc_Runner_be_carried rfl fun cdv A outer s c jx tk hp hr => ⟨_, (jss_cons (js_setLc (i := 1) (own := [("lift", 2)]) rfl nd rfl rfl (sw_true rfl rfl rfl (by decide +kernel)) (ji_list (je_fld 1 (je_fld 0 (je_var 0 (pv 0)) T.cl_Runner T.n_Runner_world) T.cl_World T.n_World_lifts)) (blkOk_by (N := N_Runner_be_carried) (sc := (defScope s_Runner_be_carried)) (own := [("lift", 2)]) (by decide +kernel)) (fun _ _ _ _ _ => (jgc_name (i := 2) nd rfl (by first | exact Or.inl rfl | exact Or.inr rfl))) (fun _ _ _ _ _ => jts_nil) (fun _ _ _ _ _ => (je_call (JX.in _ _) F_place (hr.mono (by decide)) rfl T.g_place k_place b_place (ja_cons (je_var 2 (pv 2)) (ja_cons (je_fld 1 (je_var 0 (pv 0)) T.cl_Runner T.n_Runner_time) ja_nil)))))
    (jss_cons (js_set (i := 3) nd rfl (by first | exact Or.inl rfl | exact Or.inr rfl) (je_meth jx (je_fld 0 (je_var 0 (pv 0)) T.cl_Runner T.n_Runner_world) T.cl_World T.m_World_under F_World_under (hr.mono (by decide)) b_World_under (ja_cons (je_fld 2 (je_var 0 (pv 0)) T.cl_Runner T.n_Runner_left) (ja_cons (je_fld 3 (je_var 0 (pv 0)) T.cl_Runner T.n_Runner_top) (ja_cons (je_fld 1 (je_var 0 (pv 0)) T.cl_Runner T.n_Runner_time) ja_nil)))))
    (jss_cons (js_fld 1 (je_var 0 (pv 0)) (je_op jo_add (je_fld 1 (je_var 0 (pv 0)) T.cl_Runner T.n_Runner_time) je_int) T.cl_Runner T.n_Runner_time)
    (jss_one (js_if (jt_cmp (jo_ne (room_units hr)) (je_var 3 (pv 3)) (je_lst ja_nil))
    (jss_cons (js_asg (je_call jx F_place (hr.mono (by decide)) rfl T.g_place k_place b_place (ja_cons (je_ix ji_seq (je_fld 1 (je_fld 0 (je_var 0 (pv 0)) T.cl_Runner T.n_Runner_world) T.cl_World T.n_World_lifts) (je_ix ji_seq (je_var 3 (pv 3)) je_int)) (ja_cons (je_fld 1 (je_var 0 (pv 0)) T.cl_Runner T.n_Runner_time) ja_nil))) (jg_tup rfl (jgs_cons (jg_name (i := 4) nd rfl (by first | exact Or.inl rfl | exact Or.inr rfl)) (jgs_cons (jg_name (i := 5) nd rfl (by first | exact Or.inl rfl | exact Or.inr rfl)) jgs_nil))))
    (jss_cons (js_par (i := 6) (j := 7) rfl nd rfl rfl (by decide) rfl rfl (ja_cons (je_op jo_sub (je_op jo_add (je_fld 2 (je_var 0 (pv 0)) T.cl_Runner T.n_Runner_left) (je_var 4 (pv 4))) (je_ix ji_seq (je_ix ji_seq (je_var 1 (pv 1)) (je_ix ji_seq (je_var 3 (pv 3)) je_int)) je_int)) (ja_cons (je_op jo_sub (je_op jo_add (je_fld 3 (je_var 0 (pv 0)) T.cl_Runner T.n_Runner_top) (je_var 5 (pv 5))) (je_ix ji_seq (je_ix ji_seq (je_var 1 (pv 1)) (je_ix ji_seq (je_var 3 (pv 3)) je_int)) je_int)) ja_nil)) (by rfl))
    (jss_one (js_if (jt_val (je_meth jx (je_fld 0 (je_var 0 (pv 0)) T.cl_Runner T.n_Runner_world) T.cl_World T.m_World_is_free F_World_is_free (hr.mono (by decide)) b_World_is_free (ja_cons (je_var 6 (pv 6)) (ja_cons (je_var 7 (pv 7)) ja_nil))))
    (jss_one (js_asg (je_tup (ja_cons (je_var 6 (pv 6)) (ja_cons (je_var 7 (pv 7)) ja_nil))) (jg_tup rfl (jgs_cons (jg_fld 2 (je_var 0 (pv 0)) T.cl_Runner T.n_Runner_left) (jgs_cons (jg_fld 3 (je_var 0 (pv 0)) T.cl_Runner T.n_Runner_top) jgs_nil)))))
    jss_nil))))
    jss_nil))))), fun ds M Q h => ?_⟩
  clear hr hp tk jx nd F_World_is_free b_World_is_free k_World_is_free fd_World_is_free F_place b_place k_place fd_place F_World_under b_World_under k_World_under fd_World_under F T
  obtain ⟨r, w, e, s, rfl, hr, hw, hs, hq⟩ := h
  have hlen : r < M.length := (List.getElem?_eq_some_iff.mp hr).1
  obtain ⟨hg, hls, hlm⟩ := hw.ok
  refine ⟨_, _, _, hr, rfl, rfl, _, _, _, hw.1, rfl, rfl, ?_⟩
  refine lc_map (e.ls.map Lift.d) (wayF s.t) trivial (by rw [List.length_map]; exact Nat.le_trans hlm (by decide)) (fun x hx yes no hy => ?_) ?_
  · obtain ⟨z, hz, rfl⟩ := List.mem_map.mp hx
    obtain ⟨-, -, -, -, ⟨f1, f2⟩, p1, p2⟩ := isLift_iff.mp (hls z hz)
    exact tt ⟨_, _, _, hr, rfl, rfl, rfl, z.way, z.l, z.t, z.w, z.f, z.p, s.t, rfl, f1, f2, p1, p2, hy⟩
  have hr1 : (M.set r (runnerO K w { s with t := s.t + 1 }))[r]? = some (runnerO K w { s with t := s.t + 1 }) := List.getElem?_set_self hlen
  have hw1 : IsW K (M.set r (runnerO K w { s with t := s.t + 1 })) w e := hw.put hr
  refine ⟨_, _, _, hr, rfl, rfl, _, _, hw.1, by decide, _, _, _, hr, rfl, rfl, _, _, _, hr, rfl, rfl, _, _, _, hr, rfl, rfl, rfl, w, e.rs, e.W, e.H, e.ls, s.x, s.y, s.t, rfl, hw, ?_⟩
  refine ⟨_, _, _, hr, rfl, rfl, _, _, hr, rfl, le_line rfl, ?_⟩
  obtain ⟨ps, hps1, hps2⟩ := pyL_ints (xs := (underM e.ls s.x s.y s.t).map fun (i : Nat) => D.int (0 + (i : Int))) (fun x hx => by
    obtain ⟨i, _, rfl⟩ := List.mem_map.mp hx
    exact ⟨_, rfl⟩)
  refine ne_nil hps1 hps2 ?_
  cases hu : underM e.ls s.x s.y s.t with
  | nil =>
    have ec : carryM e s = { s with t := s.t + 1 } := by unfold carryM; rw [hu]
    rw [ec] at hq
    exact ff (.inl hq)
  | cons i rest =>
    have hi : i ∈ underM e.ls s.x s.y s.t := by rw [hu]; exact List.mem_cons_self
    obtain ⟨hi1, hi2⟩ := List.mem_filter.mp hi
    have hi1 := List.mem_range.mp hi1
    have hz : e.ls[i]? = some e.ls[i] := List.getElem?_eq_getElem hi1
    generalize hze : e.ls[i] = z at hz
    have hzm : z ∈ e.ls := List.mem_of_getElem? hz
    obtain ⟨-, -, -, -, ⟨f1, f2⟩, p1, p2⟩ := isLift_iff.mp (hls z hzm)
    have h0 : atI (((i :: rest).map fun (i : Nat) => D.int (0 + (i : Int)))) 0 = some (.int (0 + (i : Int))) := atI_zero
    have h1 : atI (e.ls.map Lift.d) (0 + (i : Int)) = some z.d := atI_of (by omega) (by
      rw [show (0 + (i : Int)).toNat = i by omega, List.getElem?_map, hz]; rfl)
    have h2 : atI ((e.ls.map Lift.d).map (wayF s.t)) (0 + (i : Int)) = some (placeD (placeL z.way z.l z.t z.f z.p s.t)) := atI_of (by omega) (by
      rw [show (0 + (i : Int)).toNat = i by omega, List.getElem?_map, List.getElem?_map, hz]; rfl)
    refine tt ⟨_, _, _, hr1, rfl, rfl, _, _, _, hw1.1, rfl, rfl, _, _, rfl, h0, _, _, rfl, h1, _, _, _, hr1, rfl, rfl, rfl, z.way, z.l, z.t, z.w, z.f, z.p, s.t + 1, rfl, f1, f2, p1, p2, rfl, ?_⟩
    refine ⟨_, _, _, hr1, rfl, rfl, _, _, rfl, h0, _, _, rfl, h2, _, rfl, _, _, _, hr1, rfl, rfl, _, _, rfl, h0, _, _, rfl, h2, _, rfl, ?_⟩
    refine ⟨_, _, _, hr1, rfl, rfl, _, _, hw1.1, by decide, rfl, w, e.rs, e.W, e.H, e.ls, _, _, rfl, hw1, fun h3 => ?_, fun h3 => .inl ?_⟩
    · have ec : carryM e s = { s with t := s.t + 1, x := s.x + (placeL z.way z.l z.t z.f z.p (s.t + 1)).1 - (placeL z.way z.l z.t z.f z.p s.t).1, y := s.y + (placeL z.way z.l z.t z.f z.p (s.t + 1)).2 - (placeL z.way z.l z.t z.f z.p s.t).2 } := by
        unfold carryM
        rw [hu]
        dsimp only
        rw [hz]
        exact if_pos h3
      rw [ec] at hq
      refine ⟨le_line rfl, rfl, _, _, hr1, rfl, _, _, List.getElem?_set_self (by rw [List.length_set]; exact hlen), rfl, .inl ?_⟩
      rw [List.set_set, List.set_set]
      exact hq
    · have ec : carryM e s = { s with t := s.t + 1 } := by
        unfold carryM
        rw [hu]
        dsimp only
        rw [hz]
        exact if_neg (by have h3 : e.free _ _ = false := h3; rw [h3]; exact Bool.false_ne_true)
      rw [ec] at hq
      exact hq

def ct_Runner_tick (K : PySem.W.Frag) : Ct := fun ds M Q E => ∃ (r w : Nat) (e : Wd) (s : RS) (d : D), ds = [.ref r, d] ∧ M[r]? = some (runnerO K w s) ∧ IsW K M w e ∧ s.ok e ∧ (tyN M d).isSome = true ∧ (∀ z, d = .str z → z.length ≤ 1000) ∧
  ((∃ z, d = .str z ∧ goodKeys z = true ∧ Q .non (M.set r (runnerO K w (tickM e z s)))) ∨ (isKeys d = false ∧ E (He.ga K "BadKeys") M))

abbrev N_Runner_tick : List Str := ["self", "keys"]
theorem sc_Runner_tick : FnScope N_Runner_tick ["self", "keys"] (defScope s_Runner_tick) := ⟨rfl, rfl, rfl, by decide +kernel, rfl, by decide +kernel, by decide +kernel⟩
theorem ok_Runner_tick (T : Txt K mg base) : Ok P w K mg base 8 (He.fAd K ("Runner", some "tick")) ["self", "keys"] 2 (ct_Runner_tick K) := by
  obtain ⟨fd, F⟩ := T.f_Runner_tick
  obtain ⟨fd_Runner_go_down, F_Runner_go_down, b_Runner_go_down, k_Runner_go_down⟩ := ok_Runner_go_down (P := P) (w := w) (base := base) T
  obtain ⟨fd_Runner_go_across, F_Runner_go_across, b_Runner_go_across, k_Runner_go_across⟩ := ok_Runner_go_across (P := P) (w := w) (base := base) T
  obtain ⟨fd_Runner_leap, F_Runner_leap, b_Runner_leap, k_Runner_leap⟩ := ok_Runner_leap (P := P) (w := w) (base := base) T
  obtain ⟨fd_Runner_speed_up, F_Runner_speed_up, b_Runner_speed_up, k_Runner_speed_up⟩ := ok_Runner_speed_up (P := P) (w := w) (base := base) T
  obtain ⟨fd_Runner_be_carried, F_Runner_be_carried, b_Runner_be_carried, k_Runner_be_carried⟩ := ok_Runner_be_carried (P := P) (w := w) (base := base) T
  obtain ⟨fd_need_keys, F_need_keys, b_need_keys, k_need_keys⟩ := ok_need_keys (P := P) (w := w) (base := base) T
  have nd := sc_Runner_tick.nd
  refine Ok.of F (F.bindsN fun _ _ _ _ _ _ us hl => match us, hl with | [_, _], _ => rfl) sc_Runner_tick rfl fun cdv A outer s c jx tk hp hr => ⟨_, (jss_cons (js_expr (je_call jx F_need_keys (hr.mono (by decide)) rfl T.g_need_keys k_need_keys b_need_keys (ja_cons (je_var 1 (pv 1)) ja_nil)))
    (jss_cons (js_expr (je_meth0 jx (je_var 0 (pv 0)) T.cl_Runner T.m_Runner_be_carried F_Runner_be_carried (hr.mono (by decide)) b_Runner_be_carried))
    (jss_cons (js_expr (je_meth jx (je_var 0 (pv 0)) T.cl_Runner T.m_Runner_speed_up F_Runner_speed_up (hr.mono (by decide)) b_Runner_speed_up (ja_cons (je_var 1 (pv 1)) ja_nil)))
    (jss_cons (js_expr (je_meth jx (je_var 0 (pv 0)) T.cl_Runner T.m_Runner_leap F_Runner_leap (hr.mono (by decide)) b_Runner_leap (ja_cons (je_var 1 (pv 1)) ja_nil)))
    (jss_cons (js_expr (je_meth0 jx (je_var 0 (pv 0)) T.cl_Runner T.m_Runner_go_across F_Runner_go_across (hr.mono (by decide)) b_Runner_go_across))
    (jss_cons (js_expr (je_meth jx (je_var 0 (pv 0)) T.cl_Runner T.m_Runner_go_down F_Runner_go_down (hr.mono (by decide)) b_Runner_go_down (ja_cons (je_cmp jo_inS je_str (je_var 1 (pv 1))) ja_nil)))
    (jss_one (js_fld 6 (je_var 0 (pv 0)) (je_cmp jo_inS je_str (je_var 1 (pv 1))) T.cl_Runner T.n_Runner_was_jumping)))))))), fun ds M Q h => ?_⟩
  clear hr hp tk jx nd F_Runner_go_down b_Runner_go_down k_Runner_go_down fd_Runner_go_down F_Runner_go_across b_Runner_go_across k_Runner_go_across fd_Runner_go_across F_Runner_leap b_Runner_leap k_Runner_leap fd_Runner_leap F_Runner_speed_up b_Runner_speed_up k_Runner_speed_up fd_Runner_speed_up F_Runner_be_carried b_Runner_be_carried k_Runner_be_carried fd_Runner_be_carried F_need_keys b_need_keys k_need_keys fd_need_keys F T
  obtain ⟨r, w, e, s, d, rfl, hr, hw, hs, hd, hz, hh⟩ := h
  rcases hh with ⟨z, rfl, hg, hq⟩ | ⟨hb, he⟩
  case inr => exact ⟨rfl, d, rfl, hd, hz, fun q => (by rw [hb] at q; cases q), fun _ => he⟩
  have hlen : r < M.length := (List.getElem?_eq_some_iff.mp hr).1
  have get : ∀ x, (M.set r (runnerO K w x))[r]? = some (runnerO K w x) := fun x => List.getElem?_set_self hlen
  have put : ∀ x, IsW K (M.set r (runnerO K w x)) w e := fun x => hw.put hr
  have a1 := (carry_ok hs).1
  have b1 := (speed_ok (z := z) a1).1
  have c1 := (leap_ok (z := z) b1).1
  have d1 := (across_ok c1).1
  have e1 := (down_ok (d := has 100 z) d1).1
  refine ⟨rfl, .str z, rfl, hd, hz, fun _ => ?_, fun q => (by rw [show isKeys (.str z) = true from hg] at q; cases q)⟩
  refine ⟨_, _, hr, by decide, rfl, r, w, e, s, rfl, hr, hw, hs, ?_⟩
  refine ⟨_, _, get _, by decide, rfl, r, w, e, carryM e s, z, rfl, get _, put _, a1, ?_⟩
  rw [List.set_set]
  refine ⟨_, _, get _, by decide, rfl, r, w, e, speedM z (carryM e s), z, rfl, get _, put _, b1, ?_⟩
  rw [List.set_set]
  refine ⟨_, _, get _, by decide, rfl, r, w, e, leapM e z (speedM z (carryM e s)), rfl, get _, put _, c1, ?_⟩
  rw [List.set_set]
  refine ⟨_, _, get _, by decide, 100, rfl, rfl, r, w, e, acrossM e (leapM e z (speedM z (carryM e s))), has 100 z, rfl, get _, put _, d1, ?_⟩
  rw [List.set_set]
  refine ⟨106, rfl, _, _, get _, rfl, .inl ?_⟩
  rw [List.set_set]
  exact hq

-- @use Tx
def ct_written (K : PySem.W.Frag) : Ct := fun ds M Q E => ∃ (d : D) (ks : List D), ds = [d] ∧ (d = .lst ks ∨ ∃ i, d = .ref i ∧ M[i]? = some (.lst ks)) ∧ (∀ k ∈ ks, (∀ M : Mem, (tyN M k).isSome = true) ∧ ∀ z, k = .str z → z.length ≤ 1000) ∧ ks.length ≤ 9000 ∧
  ((∃ zs : List Str, ks = zs.map D.str ∧ (∀ z ∈ zs, goodKeys z = true) ∧ Q (.str (textM zs)) M) ∨ (ks.all isKeys = false ∧ E (He.ga K "BadKeys") M))
theorem wr_strs {ks : List D} (h : ks.all isKeys = true) : ∃ zs : List Str, ks = zs.map D.str ∧ ∀ z ∈ zs, goodKeys z = true := by
  induction ks with
  | nil => exact ⟨[], rfl, fun _ q => (nomatch q)⟩
  | cons k ks ih =>
    rw [List.all_cons, Bool.and_eq_true] at h
    obtain ⟨zs, rfl, hz⟩ := ih h.2
    cases k with
    | str s => exact ⟨s :: zs, rfl, fun z q => by
        rcases List.mem_cons.mp q with rfl | q
        · exact h.1
        · exact hz z q⟩
    | _ => exact absurd (show false = true from h.1) Bool.false_ne_true
theorem wr_keys {zs : List Str} (h : ∀ z ∈ zs, goodKeys z = true) : (zs.map D.str).all isKeys = true := by
  rw [List.all_eq_true]
  intro k hk
  obtain ⟨z, hz, rfl⟩ := List.mem_map.mp hk
  exact h z hz
theorem iSeq_any {i : Nat} {ρ : Rho} {M M0 E0 : Mem} {d : D} {ks : List D} {R : List D → (Mem → Prop) → Mem → Prop} (hρ : ρ[i]? = some (some d)) (hM : M = M0 ++ E0) (hd : d = .lst ks ∨ ∃ j, d = .ref j ∧ M0[j]? = some (.lst ks))
    (h : ∀ st : Mem → Prop, (∀ E, st (M0 ++ E)) → R ks st M) : iSeq (sVar i) ρ M R := by
  unfold iSeq sVar
  rw [hρ]
  rcases hd with rfl | ⟨j, rfl, hj⟩
  · exact h _ fun _ => trivial
  · subst hM
    exact ⟨ks, get_left hj, h _ fun E => get_left hj⟩
theorem log1920 {i : Int} (h : i.natAbs < 2 ^ 64) : i.natAbs.log2 < 1920 := by
  have : i.natAbs.log2 < 64 := PySem.Flt.log2_lt_of (by decide) h
  omega
theorem atI_last {α : Type} (l : List α) (x : α) : L2.atI (l ++ [x]) (-1) = some x := by
  unfold L2.atI L2.ixN
  rw [if_neg (by omega), if_pos (by rw [List.length_append]; show -((l.length + 1 : Nat) : Int) ≤ -1; omega)]
  have e : (-1 + ((l ++ [x]).length : Int)).toNat = l.length := by rw [List.length_append]; show (-1 + ((l.length + 1 : Nat) : Int)).toNat = _; omega
  rw [e, Option.bind_some, get_snoc]
theorem ixN_last (n : Nat) : L2.ixN (n + 1) (-1) = some n := by
  unfold L2.ixN
  rw [if_neg (by omega), if_pos (by omega)]
  congr 1
  omega
def pairD (p : Nat × Str) : D := .tup [.int p.1, .str p.2]

abbrev N_written : List Str := ["rows", "keys", "found", "many"]
theorem sc_written : FnScope N_written ["rows"] (defScope s_written) := ⟨rfl, rfl, rfl, by decide +kernel, rfl, by decide +kernel, by decide +kernel⟩
theorem ok_written (T : Txt K mg base) : Ok P w K mg base 2 (He.fAd K ("written", none)) ["rows"] 1 (ct_written K) := by
  obtain ⟨fd, F⟩ := T.f_written
  obtain ⟨fd_need_keys, F_need_keys, b_need_keys, k_need_keys⟩ := ok_need_keys (P := P) (w := w) (base := base) T
  have nd := sc_written.nd
  refine Ok.of F (F.bindsN fun _ _ _ _ _ _ us hl => match us, hl with | [_], _ => rfl) sc_written rfl fun cdv A outer s c jx tk hp hr => ⟨_, (jss_cons (js_for hp rfl (ji_list (je_var 0 (pv 0))) (jg_name (i := 1) nd rfl (by first | exact Or.inl rfl | exact Or.inr rfl))
    (jss_one (js_expr (je_call jx F_need_keys (hr.mono (by decide)) rfl T.g_need_keys k_need_keys b_need_keys (ja_cons (je_var 1 (pv 1)) ja_nil)))))
    (jss_cons (js_set (i := 2) nd rfl (by first | exact Or.inl rfl | exact Or.inr rfl) (je_lstM ja_nil))
    (jss_cons (js_for hp rfl (ji_list (je_var 0 (pv 0))) (jg_name (i := 1) nd rfl (by first | exact Or.inl rfl | exact Or.inr rfl))
    (jss_one (js_if (JW.pt (jw_and (jt_cmp (jo_ne (room_units hr)) (je_var 2 (pv 2)) (je_lst ja_nil)) (jw_and1 (jt_cmp (jo_eq (room_units hr)) (je_ix ji_seq (je_ix ji_seq (je_var 2 (pv 2)) (je_neg je_int)) je_int) (je_var 1 (pv 1))))))
    (jss_one (js_asg (je_tup (ja_cons (je_op jo_add (je_ix ji_seq (je_ix ji_seq (je_var 2 (pv 2)) (je_neg je_int)) je_int) je_int) (ja_cons (je_var 1 (pv 1)) ja_nil))) (jg_sub (je_var 2 (pv 2)) (je_neg je_int))))
    (jss_one (js_expr (je_bm PySem.F.plainAttrs_list PySem.F.slot_list_append PySem.F.type_list_append jm_app (je_var 2 (pv 2)) (ja_cons (je_tup (ja_cons je_int (ja_cons (je_var 1 (pv 1)) ja_nil))) ja_nil)))))))
    (jss_one (js_ret (je_bm PySem.F.plainAttrs_str PySem.F.slot_str_join PySem.F.type_str_join jm_join je_str (ja_cons (je_lc (own := [("many", 3), ("keys", 1)]) rfl nd (ji_list (je_var 2 (pv 2))) (blkOk_by (N := N_written) (sc := (defScope s_written)) (own := [("many", 3), ("keys", 1)]) (by decide +kernel)) (fun _ _ _ _ _ => (jgc_tup (n := 2) rfl (jgcs_cons (jgc_name (i := 3) nd rfl (by first | exact Or.inl rfl | exact Or.inr rfl)) (jgcs_cons (jgc_name (i := 1) nd rfl (by first | exact Or.inl rfl | exact Or.inr rfl)) jgcs_nil)))) (fun _ _ _ _ _ => jts_nil) (fun _ _ _ _ _ => (je_op jo_add (je_callTy jc_strI rfl T.u_str boot_str (ja_cons (je_var 3 (pv 3)) ja_nil)) (je_if (jt_cmp (jo_ne (room_units hr)) (je_var 1 (pv 1)) je_str) (je_var 1 (pv 1)) je_str)))) ja_nil))))))), fun ds M Q h => ?_⟩
  clear hr hp tk jx nd F_need_keys b_need_keys k_need_keys fd_need_keys F T
  obtain ⟨d, ks, rfl, hd, hk, hl, hh⟩ := h
  have hgood : ks.all isKeys = true → ∃ zs : List Str, ks = zs.map D.str ∧ (∀ z ∈ zs, goodKeys z = true) ∧ Q (.str (textM zs)) M := fun q => by
    rcases hh with hh | ⟨q2, _⟩
    · exact hh
    · rw [q] at q2; cases q2
  have hbad : ks.all isKeys = false → c.Ed (He.ga K "BadKeys") M := fun q => by
    rcases hh with ⟨zs, rfl, hz, _⟩ | ⟨_, q2⟩
    · rw [wr_keys hz] at q; cases q
    · exact q2
  clear hh
  refine seq_via (fun ρ M' => M' = M ∧ ks.all isKeys = true ∧ ∃ x1, ρ = [some d, x1, none, none]) (fun go hgo => ?_) ?_
  · refine iSeq_any (M0 := M) (E0 := []) rfl (List.append_nil _).symm hd fun st hst => ?_
    have hst0 : st M := by have := hst []; rwa [List.append_nil] at this
    refine loop_inv _ (fun i ρ M' => M' = M ∧ (ks.take i).all isKeys = true ∧ ∃ x1, ρ = [some d, x1, none, none]) ?_ ?_ ⟨rfl, rfl, none, rfl⟩
    · rintro i k hi ρ M' ⟨rfl, hall, x1, rfl⟩
      have hkm := List.mem_of_getElem? hi
      refine ⟨hst0, fun go2 hgo2 => ⟨rfl, k, rfl, (hk k hkm).1 _, (hk k hkm).2, fun q => hgo2 _ _ ⟨rfl, ?_, _, rfl⟩, fun q => hbad ?_⟩⟩
      · rw [List.take_add_one, hi, List.all_append, hall]
        show (isKeys k && true) = true
        rw [q]; rfl
      · cases q2 : ks.all isKeys with
        | false => rfl
        | true =>
          have := List.all_eq_true.mp q2 k hkm
          rw [this] at q; cases q
    · rintro ρ M' ⟨rfl, hall, x1, rfl⟩
      rw [List.take_length] at hall
      exact ⟨hst0, hgo _ _ ⟨rfl, hall, x1, rfl⟩⟩
  rintro _ M1 ⟨rfl, hall, x1, rfl⟩
  obtain ⟨zs, rfl, hz, hq⟩ := hgood hall
  rw [List.length_map] at hl
  try dsimp only
  refine ⟨le_line rfl, ?_⟩
  try dsimp only
  have rl : ∀ i, (rle (zs.take i)).length ≤ zs.length := fun i => by
    have := rle_len (zs.take i)
    rw [List.length_take] at this
    omega
  have small : ∀ n : Nat, n ≤ 9001 → n ≤ sizeLine := fun n hn => Nat.le_trans hn (by decide)
  refine seq_via (fun ρ M' => M' = M1 ++ [.lst ((rle zs).map pairD)] ∧ ∃ x1, ρ = [some d, x1, some (.ref M1.length), none]) (fun go hgo => ?_) ?_
  · refine iSeq_any (M0 := M1) (E0 := [.lst []]) rfl rfl hd fun st hst => ?_
    refine loop_inv _ (fun i ρ M' => M' = M1 ++ [.lst ((rle (zs.take i)).map pairD)] ∧ ∃ x1, ρ = [some d, x1, some (.ref M1.length), none]) ?_ ?_ ⟨rfl, x1, rfl⟩
    · rintro i k hi ρ _ ⟨rfl, y1, rfl⟩
      rw [List.getElem?_map] at hi
      obtain ⟨z, hz2, rfl⟩ := Option.map_eq_some_iff.mp hi
      refine ⟨hst _, fun go2 hgo2 => ?_⟩
      have ht : zs.take (i + 1) = zs.take i ++ [z] := by rw [List.take_add_one, hz2]; rfl
      have hr : rle (zs.take (i + 1)) = rleStep (rle (zs.take i)) z := by
        rw [ht]
        unfold rle
        rw [List.foldl_append]; rfl
      rw [hr] at hgo2
      have rli := rl i
      generalize rle (zs.take i) = a at hgo2 rli
      have hpy : ∀ ps : List (Nat × Str), pyL (ps.map pairD) = some (ps.map fun p => PyData.tuple [.int p.1, .str p.2]) := fun ps => by
        induction ps with
        | nil => rfl
        | cons p ps ih => rw [List.map_cons]; unfold pyL; rw [ih]; rfl
      refine ⟨le_line rfl, _, _, (pyM_ref get_end).trans (congrArg _ (hpy a)), rfl, Nat.le_trans (Nat.min_le_right _ _) (by decide), ?_⟩
      rw [if_pos rfl, eqv_nil]
      rcases snoc_cases a with rfl | ⟨b, ⟨n, y⟩, rfl⟩
      · refine ff (ff ⟨ty_lst get_end, le_line rfl, _, get_end, lt_line (by decide), ?_⟩)
        rw [set_end]
        exact hgo2 _ _ ⟨rfl, _, rfl⟩
      · have hpe : ((b ++ [(n, y)]).map fun p => PyData.tuple [.int p.1, .str p.2]).isEmpty = false := by
          rw [List.map_append]
          cases b.map fun p : Nat × Str => PyData.tuple [.int (p.1 : Int), .str p.2] <;> rfl
        rw [hpe]
        have hat : L2.atI ((b ++ [(n, y)]).map pairD) (-1) = some (pairD (n, y)) := by rw [List.map_append]; exact atI_last _ _
        refine tt ⟨_, _, asL_ref get_end, hat, _, rfl, fun h1 => ?_, fun h1 => ?_⟩
        · have h1 : y = z := of_decide_eq_true h1
          subst h1
          refine ⟨_, _, asL_ref get_end, hat, _, rfl, le_line rfl, _, b.length, get_end, ?_, ?_⟩
          · rw [List.length_map, List.length_append]
            exact ixN_last _
          · rw [set_end, List.map_append, List.set_append_right _ _ (by rw [List.length_map]; exact Nat.le_refl _), List.length_map, Nat.sub_self]
            refine hgo2 _ _ ⟨?_, _, rfl⟩
            rw [rleStep_same, List.map_append]
            rfl
        · have h1 : ¬ y = z := of_decide_eq_false h1
          rw [rleStep_new h1] at hgo2
          refine ⟨ty_lst get_end, le_line rfl, _, get_end, ?_, ?_⟩
          · rw [List.length_map]
            exact Nat.lt_of_le_of_lt (show _ ≤ 9000 by omega) (by decide)
          · rw [set_end]
            refine hgo2 _ _ ⟨?_, _, rfl⟩
            rw [List.map_append (l₂ := [(1, z)])]
            rfl
    · rintro ρ _ ⟨rfl, y1, rfl⟩
      rw [List.length_map, List.take_length]
      exact ⟨hst _, hgo _ _ ⟨rfl, y1, rfl⟩⟩
  clear x1
  rintro _ _ ⟨rfl, x1, rfl⟩
  have hp := okP_rle hz (by omega)
  have rll := rl zs.length
  rw [List.take_length] at rll
  refine ⟨rfl, _, get_end, ?_⟩
  refine lc_map _ (fun x => match x with
    | .tup [.int n, .str z] => .str (wordS (n.toNat, z))
    | _ => .non) get_end (by rw [List.length_map]; exact small _ (by omega)) (fun x hxm yes no hy => ?_) ?_
  · obtain ⟨p, hpm, rfl⟩ := List.mem_map.mp hxm
    obtain ⟨n, z⟩ := p
    have hp1 := (hp _ hpm).2.1
    have hyw : yes (.str (wordS (n, z))) _ := hy
    have hlen : (Str.ofString (toString (n : Int))).length ≤ 4 := by
      rw [TL.len_tl, TL.tl_num]
      exact TL.numL_len (by decide) hp1
    have hzl := good_len (hp _ hpm).2.2
    refine ⟨rfl, tt ⟨log1920 (by show (n : Int).natAbs < _; omega), fun h1 => ⟨?_, ?_⟩, fun h1 => ⟨?_, ?_⟩⟩⟩
    · exact Nat.le_trans (Nat.add_le_add hlen hzl) (by decide)
    · have h1 : ¬ z = Str.ofString "" := of_decide_eq_false ((Bool.not_eq_true' _).mp h1)
      unfold wordS at hyw
      rw [if_neg h1] at hyw
      exact hyw
    · exact Nat.le_trans (Nat.add_le_add hlen (Nat.le_refl 1)) (by decide)
    · have h1 : z = Str.ofString "" := of_decide_eq_true ((Bool.not_eq_false' _).mp h1)
      unfold wordS at hyw
      rw [if_pos h1] at hyw
      exact hyw
  · refine ⟨(rle zs).map wordS, ?_, ?_, ?_⟩
    · show some _ = some _
      rw [List.map_map, List.map_map]
      congr 1
    · have := sum_le (ns := ((rle zs).map wordS).map (·.length)) (b := 8) fun n hn => by
        obtain ⟨s, hs, rfl⟩ := List.mem_map.mp hn
        obtain ⟨p, hpm, rfl⟩ := List.mem_map.mp hs
        exact wordS_len (hp p hpm)
      rw [List.length_map, List.length_map] at this
      rw [List.length_map]
      show _ + _ * 1 ≤ _
      omega
    · exact .inr ⟨M1, Cut.same rfl, hq⟩

def ct_World_init (K : PySem.W.Frag) : Ct := fun ds M Q E => ∃ r d xs, ds = [.ref r, d, .lst xs] ∧ M[r]? = some (.ins (He.ga K "World") ks_World [none, none]) ∧ MapLike M d ∧ (∀ x ∈ xs, Plain1 M x) ∧
  ((isMap d = false ∧ E (He.ga K "BadMap") M) ∨ ∃ rs W H, d = rowsD rs ∧ Grid rs W H ∧ ((xs.all isLift = false ∧ E (He.ga K "BadLift") M) ∨ ∃ ls : List Lift, xs = ls.map Lift.d ∧ (∀ z ∈ ls, z.ok) ∧ Q .non (M.set r (worldO K rs ls))))

abbrev N_World_init : List Str := ["self", "rows", "lifts", "lift"]
theorem sc_World_init : FnScope N_World_init ["self", "rows", "lifts"] (defScope s_World_init) := ⟨rfl, rfl, rfl, by decide +kernel, rfl, by decide +kernel, by decide +kernel⟩
theorem ok_World_init (T : Txt K mg base) : Ok P w K mg base 4 (He.fAd K ("World", some "__init__")) ["self", "rows", "lifts"] 3 (ct_World_init K) := by
  obtain ⟨fd, F⟩ := T.f_World_init
  obtain ⟨fd_need_lift, F_need_lift, b_need_lift, k_need_lift⟩ := ok_need_lift (P := P) (w := w) (base := base) T
  obtain ⟨fd_need_map, F_need_map, b_need_map, k_need_map⟩ := ok_need_map (P := P) (w := w) (base := base) T
  have nd := sc_World_init.nd
  refine Ok.of F (F.bindsN fun _ _ _ _ _ _ us hl => match us, hl with | [_, _, _], _ => rfl) sc_World_init rfl fun cdv A outer s c jx tk hp hr => ⟨_, (jss_cons (js_expr (je_call jx F_need_map (hr.mono (by decide)) rfl T.g_need_map k_need_map b_need_map (ja_cons (je_var 1 (pv 1)) ja_nil)))
    (jss_cons (js_for hp rfl (ji_list (je_var 2 (pv 2))) (jg_name (i := 3) nd rfl (by first | exact Or.inl rfl | exact Or.inr rfl))
    (jss_one (js_expr (je_call jx F_need_lift (hr.mono (by decide)) rfl T.g_need_lift k_need_lift b_need_lift (ja_cons (je_var 3 (pv 3)) ja_nil)))))
    (jss_cons (js_fld 0 (je_var 0 (pv 0)) (je_callTy jc_list rfl T.u_list boot_list (ja_cons (je_var 1 (pv 1)) ja_nil)) T.cl_World T.n_World_rows)
    (jss_one (js_fld 1 (je_var 0 (pv 0)) (je_callTy jc_list rfl T.u_list boot_list (ja_cons (je_var 2 (pv 2)) ja_nil)) T.cl_World T.n_World_lifts))))), fun ds M Q h => ?_⟩
  clear hr hp tk jx nd F_need_lift b_need_lift k_need_lift fd_need_lift F_need_map b_need_map k_need_map fd_need_map F T
  obtain ⟨r, d, xs, rfl, hr, hk, hx, hh⟩ := h
  rcases hh with ⟨hm, he⟩ | ⟨rs, W, H, rfl, g, hh⟩
  · exact ⟨rfl, d, rfl, hk, fun z => (by rw [hm] at z; cases z), fun _ => he⟩
  refine ⟨rfl, _, rfl, hk, fun _ => ?_, not_bad g⟩
  have hlen : r < M.length := (List.getElem?_eq_some_iff.mp hr).1
  refine loop_inv _ (fun i ρ M' => M' = M ∧ (xs.take i).all isLift = true ∧ ∃ z, ρ = [some (.ref r), some (rowsD rs), some (.lst xs), z]) ?_ ?_ ⟨rfl, rfl, none, rfl⟩
  · rintro i d hd ρ M' ⟨rfl, ha, z, rfl⟩
    have hm := List.mem_of_getElem? hd
    refine ⟨trivial, fun go hgo => ⟨rfl, d, rfl, hx d hm, fun e => ?_, fun e => ?_⟩⟩
    · refine hgo _ _ ⟨rfl, ?_, _, rfl⟩
      rw [List.take_add_one, hd, List.all_append, ha]
      show (isLift d && true) = true
      rw [e]; rfl
    · rcases hh with ⟨_, he⟩ | ⟨ls, rfl, hl, _⟩
      · exact he
      · obtain ⟨y, hy, rfl⟩ := List.mem_map.mp hm
        have := hl y hy
        unfold Lift.ok at this
        rw [this] at e; cases e
  · rintro ρ M' ⟨rfl, ha, z, rfl⟩
    rw [List.take_length] at ha
    rcases hh with ⟨hb, he⟩ | ⟨ls, rfl, hl, hq⟩
    · rw [ha] at hb; cases hb
    · refine ⟨trivial, ?_⟩
      refine ⟨_, .inl rfl, _, _, hr, rfl, _, .inl rfl, _, _, List.getElem?_set_self hlen, rfl, .inl ?_⟩
      rw [List.set_set]
      exact hq

-- @use Cr
def ct_is_unit : Ct := fun ds M Q _ => ∃ d, ds = [d] ∧ Plain1 M d ∧ Q (.bl (isUnit d)) M

abbrev N_is_unit : List Str := ["thing", "one"]
theorem sc_is_unit : FnScope N_is_unit ["thing"] (defScope s_is_unit) := ⟨rfl, rfl, rfl, by decide +kernel, rfl, by decide +kernel, by decide +kernel⟩
theorem ok_is_unit (T : Txt K mg base) : Ok P w K mg base 2 (He.fAd K ("is_unit", none)) ["thing"] 1 ct_is_unit := by
  obtain ⟨fd, F⟩ := T.f_is_unit
  obtain ⟨fd_is_count, F_is_count, b_is_count, k_is_count⟩ := ok_is_count (P := P) (w := w) (base := base) T
  have nd := sc_is_unit.nd
  refine Ok.of F (F.bindsN fun _ _ _ _ _ _ us hl => match us, hl with | [_], _ => rfl) sc_is_unit rfl fun cdv A outer s c jx tk hp hr => ⟨_, (jss_one (js_ret (je_and (je_isi .tup rfl T.u_isinstance rfl T.u_tuple boot_tuple (je_var 0 (pv 0))) (je_and (je_cmp (jo_eq (room_units hr)) (je_callB jc_len rfl T.u_len boot_len (ja_cons (je_var 0 (pv 0)) ja_nil)) je_int) (je_one (je_callB (jc_all rfl) rfl T.u_all boot_all (ja_cons (je_lc (own := [("one", 1)]) rfl nd (ji_tup (je_var 0 (pv 0))) (blkOk_by (N := N_is_unit) (sc := (defScope s_is_unit)) (own := [("one", 1)]) (by decide +kernel)) (fun _ _ _ _ _ => (jgc_name (i := 1) nd rfl (by first | exact Or.inl rfl | exact Or.inr rfl))) (fun _ _ _ _ _ => jts_nil) (fun _ _ _ _ _ => (je_call (JX.in _ _) F_is_count (hr.mono (by decide)) rfl T.g_is_count k_is_count b_is_count (ja_cons (je_var 1 (pv 1)) (ja_cons (je_op jo_sub je_int (je_gint rfl T.c_MOST_worlds)) (ja_cons (je_gint rfl T.c_MOST_worlds) ja_nil)))))) ja_nil))))))), fun ds M Q h => ?_⟩
  clear hr hp tk jx nd F_is_count b_is_count k_is_count fd_is_count F T
  obtain ⟨d, rfl, ⟨ht, hx⟩, hq⟩ := h
  obtain ⟨a, ha⟩ := Option.isSome_iff_exists.mp ht
  by_cases hd : ∃ xs, d = .tup xs
  · obtain ⟨xs, rfl⟩ := hd
    refine ⟨.tup, rfl, tt ⟨fun h2 => ?_, fun h2 => .inl ?_⟩⟩
    · have h2 : (xs.length : Int) = 2 := of_decide_eq_true h2
      obtain ⟨x, y, rfl⟩ : ∃ x y, xs = [x, y] := by
        match xs, h2 with
        | [x, y], _ => exact ⟨x, y, rfl⟩
        | [], h => exact absurd h (by decide)
        | [_], h => exact absurd h (by show ¬ (1 : Int) = 2; decide)
        | _ :: _ :: _ :: _, h => exact absurd h (by simp; omega)
      refine lc_map _ (fun x => .bl (isCount x (-400) 400)) trivial (le_line rfl) (fun z hz yes no hy => ?_) ?_
      · exact tt ⟨rfl, z, -400, 400, rfl, hx _ rfl z hz, hy⟩
      · refine ⟨[isCount x (-400) 400, isCount y (-400) 400], rfl, .inl ?_⟩
        have e : ([isCount x (-400) 400, isCount y (-400) 400].all id) = isUnit (.tup [x, y]) := by
          show (isCount x (-400) 400 && (isCount y (-400) 400 && true)) = (isCount x (-400) 400 && isCount y (-400) 400)
          rw [Bool.and_true]
        rw [e]
        exact hq
    · have h2 : ¬ (xs.length : Int) = 2 := of_decide_eq_false h2
      have e : isUnit (.tup xs) = false := by
        unfold isUnit
        split
        · rename_i q
          cases q
          exact absurd rfl h2
        · rfl
      rw [e] at hq
      exact hq
  · have e : isUnit d = false := by
      unfold isUnit
      split
      · exact absurd ⟨_, rfl⟩ hd
      · rfl
    have no : isB a .tup = false := by
      cases d with
      | tup xs => exact absurd ⟨xs, rfl⟩ hd
      | ref r =>
        unfold tyN at ha
        dsimp only at ha
        split at ha <;> cases ha <;> rfl
      | _ => cases ha <;> rfl
    rw [e] at hq
    refine ⟨a, ha, ?_⟩
    rw [no]
    exact ff (.inl hq)

-- @use Cr
def ct_Course_covers (K : PySem.W.Frag) : Ct := fun ds M Q _ => ∃ (c w r q g : Nat) (o : CO) (t : CT) (u : Int × Int), ds = [.ref c, placeD u] ∧ M[c]? = some (courseO K w r q g o t) ∧ M[r]? = some (runnerO K w t.s) ∧ Q (.bl (covB t.s u)) M

abbrev N_Course_covers : List Str := ["self", "unit", "left", "top"]
theorem sc_Course_covers : FnScope N_Course_covers ["self", "unit"] (defScope s_Course_covers) := ⟨rfl, rfl, rfl, by decide +kernel, rfl, by decide +kernel, by decide +kernel⟩
theorem ok_Course_covers (T : Txt K mg base) : Ok P w K mg base 2 (He.fAd K ("Course", some "covers")) ["self", "unit"] 2 (ct_Course_covers K) := by
  obtain ⟨fd, F⟩ := T.f_Course_covers
  obtain ⟨fd_Runner_at, F_Runner_at, b_Runner_at, k_Runner_at⟩ := ok_Runner_at (P := P) (w := w) (base := base) T
  have nd := sc_Course_covers.nd
  refine Ok.of F (F.bindsN fun _ _ _ _ _ _ us hl => match us, hl with | [_, _], _ => rfl) sc_Course_covers rfl fun cdv A outer s c jx tk hp hr => ⟨_, (jss_cons (js_asg (je_meth0 jx (je_fld 0 (je_var 0 (pv 0)) T.cl_Course T.n_Course_runner) T.cl_Runner T.m_Runner_at F_Runner_at (hr.mono (by decide)) b_Runner_at) (jg_tup rfl (jgs_cons (jg_name (i := 2) nd rfl (by first | exact Or.inl rfl | exact Or.inr rfl)) (jgs_cons (jg_name (i := 3) nd rfl (by first | exact Or.inl rfl | exact Or.inr rfl)) jgs_nil))))
    (jss_one (js_ret (je_and (je_chain jo_le jo_lt (je_var 2 (pv 2)) (je_ix ji_seq (je_var 1 (pv 1)) je_int) (je_op jo_add (je_var 2 (pv 2)) (je_gint rfl T.c_WIDE))) (je_one (je_chain jo_le jo_lt (je_var 3 (pv 3)) (je_ix ji_seq (je_var 1 (pv 1)) je_int) (je_op jo_add (je_var 3 (pv 3)) (je_gint rfl T.c_HIGH)))))))), fun ds M Q h => ?_⟩
  clear hr hp tk jx nd F_Runner_at b_Runner_at k_Runner_at fd_Runner_at F T
  obtain ⟨cc, w, r, q, g, o, t, u, rfl, hc, hr, hq⟩ := h
  refine ⟨_, _, _, hc, rfl, rfl, _, _, hr, by decide, rfl, r, w, t.s, rfl, hr, rfl, ?_⟩
  dsimp only [gsCons, gVar, gsNil]
  have e : ∀ a b c d : Bool, ((a && b) && (c && d)) = ((a && b) && (c && d)) := fun _ _ _ _ => rfl
  unfold covB at hq
  refine ⟨_, rfl, fun h1 => ⟨fun h2 => ⟨_, rfl, fun h3 => .inl ?_, fun h3 => .inl ?_⟩, fun h2 => .inl ?_⟩, fun h1 => ff (.inl ?_)⟩
  · rw [h1, h2, h3] at hq
    exact hq
  · rw [h3, Bool.false_and, Bool.and_false] at hq
    exact hq
  · rw [h2, Bool.and_false, Bool.false_and] at hq
    exact hq
  · rw [h1, Bool.false_and, Bool.false_and] at hq
    exact hq

-- @use Cr
def ct_Course_look (K : PySem.W.Frag) : Ct := fun ds M Q _ => ∃ (c w r q g : Nat) (o : CO) (t : CT), ds = [.ref c] ∧ IsC K M c w r q g o t ∧ ∀ M', Frm M M' [c, r, q, g] → IsC K M' c w r q g o (lookM o t) → Q (.lst ((foundM o t).map fun (n : Nat) => D.int (n : Int))) M'
theorem sel_numb {P : Nat → Int × Int → Bool} {p : D → Bool} {f : D → D} (hp : ∀ n u, p (.tup [.int ((n : Nat) : Int), placeD u]) = P n u) (hf : ∀ (n : Nat) d, f (.tup [.int (n : Int), d]) = .int (n : Int)) : ∀ (us : List (Int × Int)) (k : Nat), ((numbered k (us.map placeD)).filter p).map f = (selM P k us).map fun (n : Nat) => D.int (n : Int)
  | [], k => rfl
  | u :: us, k => by
    show ((D.tup [.int (k : Int), placeD u] :: numbered (k + 1) (us.map placeD)).filter p).map f = _
    rw [List.filter_cons, hp]
    unfold selM
    split
    · rw [List.map_cons, List.map_cons, hf, sel_numb hp hf us (k + 1)]
    · exact sel_numb hp hf us (k + 1)
theorem isGot_app {a b : List (Nat × Nat)} {n : Nat} : isGot (a ++ b) n = (isGot a n || isGot b n) := List.any_append

abbrev N_Course_look : List Str := ["self", "found", "number", "unit"]
theorem sc_Course_look : FnScope N_Course_look ["self"] (defScope s_Course_look) := ⟨rfl, rfl, rfl, by decide +kernel, rfl, by decide +kernel, by decide +kernel⟩
theorem ok_Course_look (T : Txt K mg base) : Ok P w K mg base 3 (He.fAd K ("Course", some "look")) ["self"] 1 (ct_Course_look K) := by
  obtain ⟨fd, F⟩ := T.f_Course_look
  obtain ⟨fd_Course_covers, F_Course_covers, b_Course_covers, k_Course_covers⟩ := ok_Course_covers (P := P) (w := w) (base := base) T
  obtain ⟨fd_Runner_clock, F_Runner_clock, b_Runner_clock, k_Runner_clock⟩ := ok_Runner_clock (P := P) (w := w) (base := base) T
  have nd := sc_Course_look.nd
  refine Ok.of F (F.bindsN fun _ _ _ _ _ _ us hl => match us, hl with | [_], _ => rfl) sc_Course_look rfl fun cdv A outer s c jx tk hp hr => ⟨_, (jss_cons (js_setLc (i := 1) (own := [("number", 2), ("unit", 3)]) rfl nd rfl rfl (sw_true rfl rfl rfl (by decide +kernel)) (ji_enum rfl T.u_enumerate (ja_cons (je_fld 2 (je_var 0 (pv 0)) T.cl_Course T.n_Course_things) ja_nil)) (blkOk_by (N := N_Course_look) (sc := (defScope s_Course_look)) (own := [("number", 2), ("unit", 3)]) (by decide +kernel)) (fun _ _ _ _ _ => (jgc_tup (n := 2) rfl (jgcs_cons (jgc_name (i := 2) nd rfl (by first | exact Or.inl rfl | exact Or.inr rfl)) (jgcs_cons (jgc_name (i := 3) nd rfl (by first | exact Or.inl rfl | exact Or.inr rfl)) jgcs_nil)))) (fun _ _ _ _ _ => (jts_one (JW.pt (jw_and (jt_cmp (jo_notInD (hu_of hr)) (je_var 2 (pv 2)) (je_fld 6 (je_var 0 (pv 0)) T.cl_Course T.n_Course_got)) (jw_and1 (jt_val (je_meth (JX.in _ _) (je_var 0 (pv 0)) T.cl_Course T.m_Course_covers F_Course_covers (hr.mono (by decide)) b_Course_covers (ja_cons (je_var 3 (pv 3)) ja_nil)))))))) (fun _ _ _ _ _ => (je_var 2 (pv 2))))
    (jss_cons (js_for hp rfl (ji_list (je_var 1 (pv 1))) (jg_name (i := 2) nd rfl (by first | exact Or.inl rfl | exact Or.inr rfl))
    (jss_one (js_asg (je_meth0 jx (je_fld 0 (je_var 0 (pv 0)) T.cl_Course T.n_Course_runner) T.cl_Runner T.m_Runner_clock F_Runner_clock (hr.mono (by decide)) b_Runner_clock) (jg_dset (hu_of hr) (je_fld 6 (je_var 0 (pv 0)) T.cl_Course T.n_Course_got) (je_var 2 (pv 2))))))
    (jss_cons (js_if (JW.pt (jw_and (jt_cmp jo_isN (je_fld 7 (je_var 0 (pv 0)) T.cl_Course T.n_Course_reached) je_non) (jw_and1 (jt_val (je_meth jx (je_var 0 (pv 0)) T.cl_Course T.m_Course_covers F_Course_covers (hr.mono (by decide)) b_Course_covers (ja_cons (je_fld 3 (je_var 0 (pv 0)) T.cl_Course T.n_Course_goal) ja_nil))))))
    (jss_one (js_fld 7 (je_var 0 (pv 0)) (je_meth0 jx (je_fld 0 (je_var 0 (pv 0)) T.cl_Course T.n_Course_runner) T.cl_Runner T.m_Runner_clock F_Runner_clock (hr.mono (by decide)) b_Runner_clock) T.cl_Course T.n_Course_reached))
    jss_nil)
    (jss_one (js_ret (je_var 1 (pv 1))))))), fun ds M Q h => ?_⟩
  clear hr hp tk jx nd F_Course_covers b_Course_covers k_Course_covers fd_Course_covers F_Runner_clock b_Runner_clock k_Runner_clock fd_Runner_clock F T
  obtain ⟨cc, w, r, q, g, o, t, rfl, hC, hq⟩ := h
  have ne := hC.ne
  have hus := hC.us
  have hgl := hC.go.len
  refine ⟨_, _, _, hC.c, rfl, rfl, ?_⟩
  refine lc_filt _ (fun d => match d with
    | .tup [n, _] => n
    | _ => .non) (fun d => match d with
    | .tup [.int n, .tup [.int a, .int b]] => !isGot t.got n.toNat && covB t.s (a, b)
    | _ => false) trivial (by rw [numbered_length, List.length_map]; exact Nat.le_trans hus (by decide)) (fun x hx yes no hy hno => ?_) ?_
  · obtain ⟨k, hk⟩ := List.getElem?_of_mem hx
    obtain ⟨y, hy2, rfl⟩ := numbered_get hk
    rw [List.getElem?_map] at hy2
    obtain ⟨u, _, rfl⟩ := Option.map_eq_some_iff.mp hy2
    refine ⟨rfl, ?_⟩
    refine ⟨_, _, _, hC.c, rfl, rfl, t.got.map kvD, .inl hC.g, ?_⟩
    have hy : (!isGot t.got (0 + k) && covB t.s u) = true → yes (.int ((0 + k : Nat) : Int)) M := hy
    have hno : (!isGot t.got (0 + k) && covB t.s u) = false → no M := hno
    rw [if_pos rfl, lookI_got]
    refine ⟨fun h1 => ?_, fun h1 => ff (hno ?_)⟩
    · refine ⟨_, _, hC.c, by decide, rfl, cc, w, r, q, g, o, t, u, rfl, hC.c, hC.r, fun h2 => hy ?_, fun h2 => hno ?_⟩
      · rw [h1, h2]; rfl
      · rw [h2, Bool.and_false]
    · rw [h1, Bool.false_and]
  rw [sel_numb (P := fun n u => !isGot t.got n && covB t.s u) (fun n u => rfl) (fun n d => rfl) o.us 0]
  have hnd := selM_nodup (P := fun n u => !isGot t.got n && covB t.s u) o.us 0
  have hmem : ∀ n ∈ foundM o t, isGot t.got n = false := fun n hn => by
    obtain ⟨_, _, u, _, hP⟩ := selM_mem hn
    rw [Bool.and_eq_true, Bool.not_eq_true'] at hP
    exact hP.1
  have hfl : (foundM o t).length ≤ 20 := Nat.le_trans (selM_len _ _) hus
  have e0 : selM (fun n u => !isGot t.got n && covB t.s u) 0 o.us = foundM o t := rfl
  rw [e0] at hnd ⊢
  generalize hF : foundM o t = F at hnd hmem hfl hq
  try dsimp only [gVar]
  have gl : g < M.length := (List.getElem?_eq_some_iff.mp hC.g).1
  have cl : cc < M.length := (List.getElem?_eq_some_iff.mp hC.c).1
  have t0 := hC.ok.t0
  let S : Nat → Mem := fun i => M.set g (.dic ((t.got ++ (F.take i).map fun n => (n, t.s.t.toNat)).map kvD))
  have sc : ∀ i, (S i)[cc]? = some (courseO K w r q g o t) := fun i => by rw [List.getElem?_set_ne (Ne.symm ne.cg)]; exact hC.c
  have sr : ∀ i, (S i)[r]? = some (runnerO K w t.s) := fun i => by rw [List.getElem?_set_ne (Ne.symm ne.rg)]; exact hC.r
  have sg : ∀ i, (S i)[g]? = some (.dic ((t.got ++ (F.take i).map fun n => (n, t.s.t.toNat)).map kvD)) := fun i => List.getElem?_set_self gl
  refine seq_via (fun ρ M' => M' = S F.length ∧ ∃ x1 x2, ρ = [some (.ref cc), some (.lst (F.map fun (n : Nat) => D.int (n : Int))), x1, x2]) (fun go hgo => ?_) ?_
  · refine loop_inv (F.map fun (n : Nat) => D.int (n : Int)) (fun i ρ M' => M' = S i ∧ ∃ x2, ρ = [some (.ref cc), some (.lst (F.map fun (n : Nat) => D.int (n : Int))), x2, none]) ?_ ?_ ⟨?_, none, rfl⟩
    · rintro i d hd ρ _ ⟨rfl, x2, rfl⟩
      rw [List.getElem?_map] at hd
      obtain ⟨n, hn, rfl⟩ := Option.map_eq_some_iff.mp hd
      have hlt : i < F.length := (List.getElem?_eq_some_iff.mp hn).1
      refine ⟨trivial, fun go2 hgo2 => ?_⟩
      have hfree : isGot (t.got ++ (F.take i).map fun n => (n, t.s.t.toNat)) n = false := by
        rw [isGot_app, hmem n (List.mem_of_getElem? hn), Bool.false_or]
        cases q2 : isGot ((F.take i).map fun n => (n, t.s.t.toNat)) n with
        | false => rfl
        | true =>
          obtain ⟨p, hp, hpn⟩ := List.mem_map.mp (isGot_mem.mp q2)
          obtain ⟨m, hm, rfl⟩ := List.mem_map.mp hp
          obtain ⟨j, hj⟩ := List.getElem?_of_mem hm
          have hji : j < i := by
            have := (List.getElem?_eq_some_iff.mp hj).1
            rw [List.length_take] at this
            omega
          rw [List.getElem?_take_of_lt hji] at hj
          have hlt2 : j < F.length := (List.getElem?_eq_some_iff.mp hj).1
          have := List.pairwise_iff_getElem.mp hnd j i hlt2 hlt hji
          rw [(List.getElem?_eq_some_iff.mp hj).2, (List.getElem?_eq_some_iff.mp hn).2] at this
          have hpn : m = n := hpn
          omega
      refine ⟨_, _, _, sc i, rfl, rfl, _, _, sr i, by decide, rfl, r, w, t.s, rfl, sr i, _, _, _, sc i, rfl, rfl, _, sg i, lookI_free hfree, ?_, hgo2 _ _ ⟨?_, _, rfl⟩⟩
      · rw [List.length_map, List.length_append, List.length_map, List.length_take]
        omega
      · have e : (t.got ++ (F.take i ++ [n]).map fun n => (n, t.s.t.toNat)).map kvD = (t.got ++ (F.take i).map fun n => (n, t.s.t.toNat)).map kvD ++ [((n : Int), D.int t.s.t)] := by
          simp only [List.map_append, List.append_assoc]
          show _ ++ (_ ++ [((n : Int), D.int ((t.s.t.toNat : Nat) : Int))]) = _
          rw [Int.toNat_of_nonneg t0]
        show (M.set g _).set g _ = M.set g _
        rw [List.set_set, List.take_add_one, hn]
        show _ = M.set g (.dic ((t.got ++ (F.take i ++ [n]).map fun n => (n, t.s.t.toNat)).map kvD))
        rw [e]
    · rintro ρ _ ⟨rfl, x2, rfl⟩
      rw [List.length_map]
      exact ⟨trivial, hgo _ _ ⟨rfl, x2, none, rfl⟩⟩
    · show M = M.set g _
      rw [List.take_zero, List.map_nil, List.append_nil]
      exact (set_self hC.g).symm
  rintro _ _ ⟨rfl, x1, x2, rfl⟩
  have hfr1 : Frm M (S F.length) [cc, r, q, g] := Frm.set (by simp)
  have eg : t.got ++ (F.take F.length).map (fun n => (n, t.s.t.toNat)) = (lookM o t).got := by rw [List.take_length, ← hF]; rfl
  have sq : (S F.length)[q]? = some (.lst (t.zs.map D.str)) := by rw [List.getElem?_set_ne (Ne.symm ne.qg)]; exact hC.q
  have sw : IsW K (S F.length) w o.e := isW (by rw [List.getElem?_set_ne ne.gw]; exact hC.w.1) hC.w.ok
  have hgo := hC.go.look
  have sg := sg F.length
  rw [eg] at sg
  have sc := sc F.length
  have sr := sr F.length
  generalize S F.length = M1 at hfr1 sc sr sq sw sg
  have cl1 : cc < M1.length := (List.getElem?_eq_some_iff.mp sc).1
  -- behind the last statement
  have fin : ∀ re : Option Nat, (lookM o t).re = re → Q (.lst (F.map fun (n : Nat) => D.int (n : Int))) (M1.set cc (courseO K w r q g o { t with re := re })) := fun re hre => by
    refine hq _ (hfr1.trans (Frm.set (by simp))) ⟨?_, ?_, ?_, ?_, ?_, hC.ok, hgo, hus⟩
    · rw [List.getElem?_set_self cl1, ← hre]; rfl
    · rw [List.getElem?_set_ne ne.cr]; exact sr
    · rw [List.getElem?_set_ne ne.cq]; exact sq
    · rw [List.getElem?_set_ne ne.cg]; exact sg
    · exact isW (by rw [List.getElem?_set_ne ne.cw]; exact sw.1) sw.ok
  have fin0 : (lookM o t).re = t.re → Q (.lst (F.map fun (n : Nat) => D.int (n : Int))) M1 := fun hre => by
    have := fin t.re hre
    rwa [show courseO K w r q g o { t with re := t.re } = courseO K w r q g o t from rfl, set_self sc] at this
  refine ⟨_, _, _, sc, rfl, rfl, ?_⟩
  cases hre : t.re with
  | some k =>
    refine ff (ff (.inl (fin0 ?_)))
    show (match t.re with | some r => some r | none => _) = t.re
    rw [hre]
  | none =>
    have hl : (lookM o t).re = if covB t.s o.g = true then some t.s.t.toNat else none := by
      show (match t.re with | some r => some r | none => _) = _
      rw [hre]
    refine tt ⟨_, _, sc, by decide, _, _, _, sc, rfl, rfl, rfl, cc, w, r, q, g, o, t, o.g, rfl, sc, sr, fun h1 => ?_, fun h1 => .inl (fin0 ?_)⟩
    · refine ⟨_, _, _, sc, rfl, rfl, _, _, sr, by decide, rfl, r, w, t.s, rfl, sr, _, _, sc, rfl, .inl ?_⟩
      have := fin (some t.s.t.toNat) (by rw [hl, if_pos h1])
      have e : optD (some t.s.t.toNat) = .int t.s.t := by show D.int ((t.s.t.toNat : Nat) : Int) = _; rw [Int.toNat_of_nonneg t0]
      unfold courseO at this
      rw [e] at this
      exact this
    · rw [hl, if_neg (by rw [h1]; decide), hre]

-- @use Cr
def ct_Course_init (K : PySem.W.Frag) : Ct := fun ds M Q E => ∃ (c w : Nat) (e : Wd) (a b things goal : D), ds = [.ref c, .ref w, a, b, things, goal] ∧ M[c]? = some (.ins (He.ga K "Course") ks_Course (List.replicate 8 none)) ∧ IsW K M w e ∧ (∀ M, (tyN M a).isSome = true) ∧ (∀ M, (tyN M b).isSome = true) ∧
  ((((isCount a (-400) 400 && isCount b (-400) 400) = false ∨ ∃ x y, a = .int x ∧ b = .int y ∧ e.free x y = false) ∧ ∀ E', E (He.ga K "BadPlace") (M ++ E')) ∨
   ∃ x y, a = .int x ∧ b = .int y ∧ (-400 ≤ x ∧ x ≤ 400) ∧ (-400 ≤ y ∧ y ≤ 400) ∧ e.free x y = true ∧ PlainL things ∧ PlainA goal ∧
    ((∃ us u, CourseOk things goal us u ∧ ∀ M' r q g, Frm M M' [c] → IsC K M' c w r q g ⟨e, x, y, us, u⟩ (beginM ⟨e, x, y, us, u⟩) → Q .non M') ∨ ((∀ us u, ¬ CourseOk things goal us u) ∧ ∀ M', Frm M M' [c] → E (He.ga K "BadCourse") M')))

abbrev N_Course_init : List Str := ["self", "world", "left", "top", "things", "goal", "good", "one"]
theorem sc_Course_init : FnScope N_Course_init ["self", "world", "left", "top", "things", "goal"] (defScope s_Course_init) := ⟨rfl, rfl, rfl, by decide +kernel, rfl, by decide +kernel, by decide +kernel⟩
theorem ok_Course_init (T : Txt K mg base) : Ok P w K mg base 7 (He.fAd K ("Course", some "__init__")) ["self", "world", "left", "top", "things", "goal"] 6 (ct_Course_init K) := by
  obtain ⟨fd, F⟩ := T.f_Course_init
  obtain ⟨fd_Course_look, F_Course_look, b_Course_look, k_Course_look⟩ := ok_Course_look (P := P) (w := w) (base := base) T
  obtain ⟨fd_is_unit, F_is_unit, b_is_unit, k_is_unit⟩ := ok_is_unit (P := P) (w := w) (base := base) T
  obtain ⟨fd_Runner_init, F_Runner_init, b_Runner_init, k_Runner_init⟩ := ok_Runner_init (P := P) (w := w) (base := base) T
  have nd := sc_Course_init.nd
  refine Ok.of F (F.bindsN fun _ _ _ _ _ _ us hl => match us, hl with | [_, _, _, _, _, _], _ => rfl) sc_Course_init rfl fun cdv A outer s c jx tk hp hr => ⟨_, (jss_cons (js_fld 0 (je_var 0 (pv 0)) (je_make (ks := ks_Runner) jx T.mk_Runner F_Runner_init (hr.mono (by decide)) rfl T.g_Runner b_Runner_init (ja_cons (je_var 1 (pv 1)) (ja_cons (je_var 2 (pv 2)) (ja_cons (je_var 3 (pv 3)) ja_nil)))) T.cl_Course T.n_Course_runner)
    (jss_cons (js_set (i := 6) nd rfl (by first | exact Or.inl rfl | exact Or.inr rfl) (je_and (je_isi .lst rfl T.u_isinstance rfl T.u_list boot_list (je_var 4 (pv 4))) (je_and (je_cmp jo_le (je_callB jc_len rfl T.u_len boot_len (ja_cons (je_var 4 (pv 4)) ja_nil)) (je_gint rfl T.c_MOST_THINGS)) (je_one (je_callB (jc_all rfl) rfl T.u_all boot_all (ja_cons (je_lc (own := [("one", 7)]) rfl nd (ji_list (je_var 4 (pv 4))) (blkOk_by (N := N_Course_init) (sc := (defScope s_Course_init)) (own := [("one", 7)]) (by decide +kernel)) (fun _ _ _ _ _ => (jgc_name (i := 7) nd rfl (by first | exact Or.inl rfl | exact Or.inr rfl))) (fun _ _ _ _ _ => jts_nil) (fun _ _ _ _ _ => (je_call (JX.in _ _) F_is_unit (hr.mono (by decide)) rfl T.g_is_unit k_is_unit b_is_unit (ja_cons (je_var 7 (pv 7)) ja_nil)))) ja_nil))))))
    (jss_cons (js_if (JW.pt (jw_or (jt_not (jt_val (je_var 6 (pv 6)))) (jw_or (jt_cmp (jo_ne (room_units hr)) (je_lenSet rfl (room_units hr) rfl T.u_len rfl T.u_set (je_var 4 (pv 4))) (je_callB jc_len rfl T.u_len boot_len (ja_cons (je_var 4 (pv 4)) ja_nil))) (jw_or1 (jt_not (jt_val (je_call jx F_is_unit (hr.mono (by decide)) rfl T.g_is_unit k_is_unit b_is_unit (ja_cons (je_var 5 (pv 5)) ja_nil))))))))
    (jss_one (js_raise jx tk rfl T.x_BadCourse.e T.x_BadCourse.g T.x_BadCourse.k T.x_BadCourse.s T.x_BadCourse.t rfl))
    jss_nil)
    (jss_cons (js_fld 1 (je_var 0 (pv 0)) (je_tup (ja_cons (je_var 1 (pv 1)) (ja_cons (je_var 2 (pv 2)) (ja_cons (je_var 3 (pv 3)) ja_nil)))) T.cl_Course T.n_Course_begun)
    (jss_cons (js_fld 2 (je_var 0 (pv 0)) (je_callTy jc_list rfl T.u_list boot_list (ja_cons (je_var 4 (pv 4)) ja_nil)) T.cl_Course T.n_Course_things)
    (jss_cons (js_fld 3 (je_var 0 (pv 0)) (je_var 5 (pv 5)) T.cl_Course T.n_Course_goal)
    (jss_cons (js_fld 4 (je_var 0 (pv 0)) (je_lstM ja_nil) T.cl_Course T.n_Course_rows)
    (jss_cons (js_fld 5 (je_var 0 (pv 0)) (je_lst ja_nil) T.cl_Course T.n_Course_gone_back)
    (jss_cons (js_fld 6 (je_var 0 (pv 0)) je_dnew T.cl_Course T.n_Course_got)
    (jss_cons (js_fld 7 (je_var 0 (pv 0)) je_non T.cl_Course T.n_Course_reached)
    (jss_one (js_expr (je_meth0 jx (je_var 0 (pv 0)) T.cl_Course T.m_Course_look F_Course_look (hr.mono (by decide)) b_Course_look))))))))))))), fun ds M Q h => ?_⟩
  clear hr hp tk jx nd F_Course_look b_Course_look k_Course_look fd_Course_look F_is_unit b_is_unit k_is_unit fd_is_unit F_Runner_init b_Runner_init k_Runner_init fd_Runner_init F T
  obtain ⟨cc, w, e, a, b, things, goal, rfl, hc, hw, ha, hb, hh⟩ := h
  rcases hh with ⟨hp, he⟩ | ⟨x, y, rfl, rfl, hx, hy, hf, hth, hgo, hh⟩
  case inl =>
    refine ⟨rfl, ⟨by decide, by decide⟩, M.length, w, e, a, b, rfl, get_end, hw.left, ha _, hb _, .inr ?_⟩
    rcases hp with hp | ⟨x, y, rfl, rfl, hp⟩
    · exact .inl ⟨hp, he _⟩
    · exact .inr ⟨x, y, rfl, rfl, hp, he _⟩
  have cl : cc < M.length := (List.getElem?_eq_some_iff.mp hc).1
  refine ⟨rfl, ⟨by decide, by decide⟩, M.length, w, e, .int x, .int y, rfl, get_end, hw.left, rfl, rfl, .inl ⟨x, y, rfl, rfl, hx, hy, hf, rfl, ?_⟩⟩
  rw [set_end]
  refine ⟨_, _, get_left hc, rfl, ?_⟩
  rw [set_pre cl]
  try dsimp only
  have hset : ∀ (Y Z : MO) (E : Mem), (M.set cc Y ++ E).set cc Z = M.set cc Z ++ E := fun Y Z E => by rw [set_pre (by rw [List.length_set]; exact cl), List.set_set]
  have hget : ∀ (Y : MO) (E : Mem), (M.set cc Y ++ E)[cc]? = some Y := fun Y E => get_left (List.getElem?_set_self cl)
  have hfr : ∀ (Y : MO) (E : Mem), Frm M (M.set cc Y ++ E) [cc] := fun Y E => (Frm.set (by simp)).trans (Frm.app _ _ _)
  generalize hX1 : MO.ins (He.ga K (Str.ofString "Course")) ks_Course ((List.replicate 8 none).set 0 (some (D.ref (List.length M)))) = X1
  refine seq_via (fun ρ M' => M' = M.set cc X1 ++ [runnerO K w ⟨0, x, y, 0, 0, false⟩] ∧ ρ = [some (.ref cc), some (.ref w), some (.int x), some (.int y), some things, some goal, some (.bl (goodB things)), none]) (fun go hgo2 => ?_) ?_
  · rcases hth with ⟨xs, rfl, hpl, hx63⟩ | ⟨ty, hty, hno, hne⟩
    · have e1 : decide ((xs.length : Int) ≤ 20) = decide (xs.length ≤ 20) := decide_eq_decide.mpr (by omega)
      have e2 : goodB (.lst xs) = (decide (xs.length ≤ 20) && xs.all isUnit) := rfl
      refine ⟨.lst, rfl, tt ⟨_, rfl, fun h2 => ?_, fun h2 => ?_⟩⟩
      · rw [e1] at h2
        refine lc_map xs (fun x => .bl (isUnit x)) trivial (Nat.le_trans hx63 (by decide)) (fun z hz yes no hy => ?_) ?_
        · exact tt ⟨rfl, z, rfl, hpl z hz _, hy⟩
        · refine ⟨xs.map isUnit, congrArg some (map_bl isUnit xs), hgo2 _ _ ⟨rfl, ?_⟩⟩
          rw [e2, h2, Bool.true_and, List.all_map]
          rfl
      · rw [e1] at h2
        refine hgo2 _ _ ⟨rfl, ?_⟩
        rw [e2, h2, Bool.false_and]
        rfl
    · refine ⟨ty, hty _, ?_⟩
      rw [hno]
      refine ff (hgo2 _ _ ⟨rfl, ?_⟩)
      have e2 : goodB things = false := by
        unfold goodB
        split
        · exact absurd rfl (hne _)
        · rfl
      rw [e2]
      rfl
  rintro _ _ ⟨rfl, rfl⟩
  try dsimp only
  have hbad : (∀ us u, ¬ CourseOk things goal us u) → c.Ed (He.ga K "BadCourse") (M.set cc X1 ++ [runnerO K w ⟨0, x, y, 0, 0, false⟩]) := fun h => by
    rcases hh with ⟨us, u, h1, _⟩ | ⟨_, h2⟩
    · exact absurd h1 (h us u)
    · exact h2 _ (hfr _ _)
  have hgood : ∀ us u, CourseOk things goal us u → ∀ M' r q g, Frm M M' [cc] → IsC K M' cc w r q g ⟨e, x, y, us, u⟩ (beginM ⟨e, x, y, us, u⟩) → Q .non M' := fun us u h1 => by
    rcases hh with ⟨us', u', h1', h2⟩ | ⟨h2, _⟩
    · have e1 : us' = us := placeD_inj (by have := h1'.1.symm.trans h1.1; exact D.lst.inj this)
      have e2 : u' = u := by
        have := h1'.2.1.symm.trans h1.2.1
        have := placeD_inj (a := [u']) (b := [u]) (by rw [List.map_cons, this]; rfl)
        exact (List.cons.inj this).1
      subst e1 e2
      exact h2
    · exact absurd h1 (h2 us u)
  clear hh
  cases hB : goodB things with
  | false =>
    refine tt (tt (hbad fun us u h1 => ?_))
    rw [(goodB_of h1).1] at hB
    cases hB
  | true =>
    obtain ⟨xs, rfl, hxl, hxu⟩ : ∃ xs, things = .lst xs ∧ xs.length ≤ 20 ∧ xs.all isUnit = true := by
      unfold goodB at hB
      split at hB
      · rename_i xs
        rw [Bool.and_eq_true] at hB
        exact ⟨xs, rfl, of_decide_eq_true hB.1, hB.2⟩
      · cases hB
    obtain ⟨us, rfl, hub⟩ := units_of hxu
    rw [List.length_map] at hxl
    refine ff ⟨us.map (fun u => [u.1, u.2]), ?_, by rw [List.length_map]; omega, fun L hL1 hL2 => ⟨_, rfl, ?_⟩⟩
    · show some _ = some _
      rw [List.map_map]
      rfl
    rw [List.length_map]
    by_cases hnd : us.Nodup
    case neg =>
      have hlt := nodup_lt _ L (fun z => hnd (nodup_pairs.mp z)) hL1 fun z hz => (hL2 z).mp hz
      rw [List.length_map] at hlt
      refine ⟨fun _ => tt (hbad fun us' u h1 => ?_), fun q => ?_⟩
      · have e1 : us' = us := placeD_inj (D.lst.inj h1.1).symm
        exact hnd (e1 ▸ h1.2.2.2.1)
      · have q := of_decide_eq_true ((Bool.not_eq_false' _).mp q)
        omega
    have hle := nodup_len L _ hL1 fun z hz => (hL2 z).mp hz
    have hge := nodup_len _ L (nodup_pairs.mpr hnd) fun z hz => (hL2 z).mpr hz
    rw [List.length_map] at hle hge
    refine ⟨fun q => absurd (show (L.length : Int) = us.length by omega) (of_decide_eq_false ((Bool.not_eq_true' _).mp q)), fun _ => ⟨rfl, goal, rfl, hgo _, ?_⟩⟩
    cases hU : isUnit goal with
    | false =>
      refine tt (hbad fun us' u h1 => ?_)
      rw [(goodB_of h1).2] at hU
      cases hU
    | true =>
      obtain ⟨u, rfl, hu⟩ := isUnit_iff.mp hU
      refine ff ?_
      try dsimp only [sSkip]
      subst hX1
      refine ⟨le_line rfl, _, _, hget _ _, rfl, ?_⟩
      rw [hset]
      refine ⟨_, .inl rfl, _, _, hget _ _, rfl, ?_⟩
      rw [hset]
      refine ⟨_, _, hget _ _, rfl, ?_⟩
      rw [hset]
      refine ⟨le_line rfl, _, _, get_left (hget _ _), rfl, ?_⟩
      simp only [List.append_assoc, List.cons_append, List.nil_append, hset, len_app, List.length_set, List.length_cons, List.length_nil]
      refine ⟨le_line rfl, _, _, hget _ _, rfl, ?_⟩
      rw [hset]
      refine ⟨_, _, get_left (hget _ _), rfl, ?_⟩
      simp only [List.append_assoc, List.cons_append, List.nil_append, hset, len_app, List.length_set, List.length_cons, List.length_nil]
      refine ⟨_, _, hget _ _, rfl, ?_⟩
      rw [hset]
      let o : CO := ⟨e, x, y, us, u⟩
      let Y : MO := courseO K w M.length (M.length + 1) (M.length + 2) o (rawC o)
      let E : Mem := [runnerO K w ⟨0, x, y, 0, 0, false⟩, .lst [], .dic []]
      have at_ : ∀ (k : Nat) (v : MO), E[k]? = some v → (M.set cc Y ++ E)[M.length + k]? = some v := fun k v hk => by
        have := get_at (B := M.set cc Y) hk
        rwa [List.length_set] at this
      have hwn : w ≠ cc := fun z => by
        subst z
        have h1 := hw.1
        rw [hc] at h1
        have h1 : (8 : Nat) = 2 := congrArg (fun o : Option MO => match o with
          | some (.ins _ ks _) => ks.length
          | _ => 0) h1
        omega
      have hM : IsC K (M.set cc Y ++ E) cc w M.length (M.length + 1) (M.length + 2) o (rawC o) := by
        refine ⟨hget _ _, at_ 0 _ rfl, at_ 1 _ rfl, at_ 2 _ rfl, isW (e := e) (get_left ?_) hw.ok, start_ok hf, ⟨List.nodup_nil, fun _ z => (nomatch z)⟩, hxl⟩
        rw [List.getElem?_set_ne (Ne.symm hwn)]
        exact hw.1
      refine ⟨_, _, hM.c, by decide, rfl, cc, w, M.length, M.length + 1, M.length + 2, o, rawC o, rfl, hM, fun M' hf2 hC2 => .inl (hgood us u ⟨rfl, rfl, hxl, hnd, hub, hu⟩ M' _ _ _ ((hfr Y E).trans2 hf2 fun i hi => ?_) hC2)⟩
      simp only [List.mem_cons, List.not_mem_nil, or_false] at hi ⊢
      omega

-- @use Cr
def ct_Course_go (K : PySem.W.Frag) : Ct := fun ds M Q _ => ∃ (c w r q g : Nat) (o : CO) (t : CT) (z : Str), ds = [.ref c, .str z] ∧ IsC K M c w r q g o t ∧ goodKeys z = true ∧ t.zs.length < 5000 ∧
  ∀ M', Frm M M' [c, r, q, g] → IsC K M' c w r q g o (goM o z t) → Q (.lst ((foundM o (tickC o z t)).map fun (n : Nat) => D.int (n : Int))) M'

abbrev N_Course_go : List Str := ["self", "keys"]
theorem sc_Course_go : FnScope N_Course_go ["self", "keys"] (defScope s_Course_go) := ⟨rfl, rfl, rfl, by decide +kernel, rfl, by decide +kernel, by decide +kernel⟩
theorem ok_Course_go (T : Txt K mg base) : Ok P w K mg base 9 (He.fAd K ("Course", some "go")) ["self", "keys"] 2 (ct_Course_go K) := by
  obtain ⟨fd, F⟩ := T.f_Course_go
  obtain ⟨fd_Course_look, F_Course_look, b_Course_look, k_Course_look⟩ := ok_Course_look (P := P) (w := w) (base := base) T
  obtain ⟨fd_Runner_tick, F_Runner_tick, b_Runner_tick, k_Runner_tick⟩ := ok_Runner_tick (P := P) (w := w) (base := base) T
  have nd := sc_Course_go.nd
  refine Ok.of F (F.bindsN fun _ _ _ _ _ _ us hl => match us, hl with | [_, _], _ => rfl) sc_Course_go rfl fun cdv A outer s c jx tk hp hr => ⟨_, (jss_cons (js_expr (je_meth jx (je_fld 0 (je_var 0 (pv 0)) T.cl_Course T.n_Course_runner) T.cl_Runner T.m_Runner_tick F_Runner_tick (hr.mono (by decide)) b_Runner_tick (ja_cons (je_var 1 (pv 1)) ja_nil)))
    (jss_cons (js_expr (je_bm PySem.F.plainAttrs_list PySem.F.slot_list_append PySem.F.type_list_append jm_app (je_fld 4 (je_var 0 (pv 0)) T.cl_Course T.n_Course_rows) (ja_cons (je_var 1 (pv 1)) ja_nil)))
    (jss_one (js_ret (je_meth0 jx (je_var 0 (pv 0)) T.cl_Course T.m_Course_look F_Course_look (hr.mono (by decide)) b_Course_look))))), fun ds M Q h => ?_⟩
  clear hr hp tk jx nd F_Course_look b_Course_look k_Course_look fd_Course_look F_Runner_tick b_Runner_tick k_Runner_tick fd_Runner_tick F T
  obtain ⟨cc, w, r, q, g, o, t, z, rfl, hC, hz, hl, hq⟩ := h
  have ne := hC.ne
  have hzl := good_len hz
  have rl : r < M.length := (List.getElem?_eq_some_iff.mp hC.r).1
  have ql : q < M.length := (List.getElem?_eq_some_iff.mp hC.q).1
  refine ⟨_, _, _, hC.c, rfl, rfl, _, _, hC.r, by decide, rfl, r, w, o.e, t.s, .str z, rfl, hC.r, hC.w, hC.ok, rfl, fun y e => (by cases e; omega), .inl ⟨z, rfl, hz, ?_⟩⟩
  have sc : (M.set r (runnerO K w (tickM o.e z t.s)))[cc]? = some (courseO K w r q g o t) := by rw [List.getElem?_set_ne (Ne.symm ne.cr)]; exact hC.c
  have sq : (M.set r (runnerO K w (tickM o.e z t.s)))[q]? = some (.lst (t.zs.map D.str)) := by rw [List.getElem?_set_ne ne.rq]; exact hC.q
  refine ⟨_, _, _, sc, rfl, rfl, ty_lst sq, _, sq, ?_, ?_⟩
  · rw [List.length_map]; exact Nat.lt_of_le_of_lt (show _ ≤ 5000 by omega) (by decide)
  have hM : IsC K ((M.set r (runnerO K w (tickM o.e z t.s))).set q (.lst (t.zs.map D.str ++ [.str z]))) cc w r q g o (tickC o z t) := by
    refine ⟨?_, ?_, ?_, ?_, isW ?_ hC.w.ok, (tick_ok hC.ok).1, ⟨hC.go.nd, hC.go.lt⟩, hC.us⟩
    · rw [List.getElem?_set_ne (Ne.symm ne.cq)]; exact sc
    · rw [List.getElem?_set_ne (Ne.symm ne.rq), List.getElem?_set_self rl]; rfl
    · rw [List.getElem?_set_self (by rw [List.length_set]; exact ql)]
      show _ = some (MO.lst ((t.zs ++ [z]).map D.str))
      rw [List.map_append]; rfl
    · rw [List.getElem?_set_ne ne.qg, List.getElem?_set_ne ne.rg]; exact hC.g
    · rw [List.getElem?_set_ne ne.qw, List.getElem?_set_ne ne.rw_]; exact hC.w.1
  refine ⟨_, _, hM.c, by decide, rfl, cc, w, r, q, g, o, tickC o z t, rfl, hM, fun M' hf hC2 => .inl (hq M' ?_ hC2)⟩
  exact ((Frm.set (by simp)).trans (Frm.set (by simp))).trans hf

-- @use Cr
def ct_Course_tick (K : PySem.W.Frag) : Ct := fun ds M Q E => ∃ (c w r q g : Nat) (o : CO) (t : CT) (k : D), ds = [.ref c, k] ∧ IsC K M c w r q g o t ∧ (tyN M k).isSome = true ∧ (∀ z, k = .str z → z.length ≤ 1000) ∧
  ((∃ z, k = .str z ∧ goodKeys z = true ∧ t.zs.length < 5000 ∧ ∀ M', Frm M M' [c, r, q, g] → IsC K M' c w r q g o (goM o z { t with gone := [] }) → Q (.lst ((foundM o (tickC o z { t with gone := [] })).map fun (n : Nat) => D.int (n : Int))) M') ∨ (isKeys k = false ∧ E (He.ga K "BadKeys") M))

abbrev N_Course_tick : List Str := ["self", "keys"]
theorem sc_Course_tick : FnScope N_Course_tick ["self", "keys"] (defScope s_Course_tick) := ⟨rfl, rfl, rfl, by decide +kernel, rfl, by decide +kernel, by decide +kernel⟩
theorem ok_Course_tick (T : Txt K mg base) : Ok P w K mg base 10 (He.fAd K ("Course", some "tick")) ["self", "keys"] 2 (ct_Course_tick K) := by
  obtain ⟨fd, F⟩ := T.f_Course_tick
  obtain ⟨fd_Course_go, F_Course_go, b_Course_go, k_Course_go⟩ := ok_Course_go (P := P) (w := w) (base := base) T
  obtain ⟨fd_need_keys, F_need_keys, b_need_keys, k_need_keys⟩ := ok_need_keys (P := P) (w := w) (base := base) T
  have nd := sc_Course_tick.nd
  refine Ok.of F (F.bindsN fun _ _ _ _ _ _ us hl => match us, hl with | [_, _], _ => rfl) sc_Course_tick rfl fun cdv A outer s c jx tk hp hr => ⟨_, (jss_cons (js_expr (je_call jx F_need_keys (hr.mono (by decide)) rfl T.g_need_keys k_need_keys b_need_keys (ja_cons (je_var 1 (pv 1)) ja_nil)))
    (jss_cons (js_fld 5 (je_var 0 (pv 0)) (je_lst ja_nil) T.cl_Course T.n_Course_gone_back)
    (jss_one (js_ret (je_meth jx (je_var 0 (pv 0)) T.cl_Course T.m_Course_go F_Course_go (hr.mono (by decide)) b_Course_go (ja_cons (je_var 1 (pv 1)) ja_nil)))))), fun ds M Q h => ?_⟩
  clear hr hp tk jx nd F_Course_go b_Course_go k_Course_go fd_Course_go F_need_keys b_need_keys k_need_keys fd_need_keys F T
  obtain ⟨cc, w, r, q, g, o, t, k, rfl, hC, hk, hkl, hh⟩ := h
  rcases hh with ⟨z, rfl, hz, hl, hq⟩ | ⟨hb, he⟩
  case inr => exact ⟨rfl, k, rfl, hk, hkl, fun z => (by rw [hb] at z; cases z), fun _ => he⟩
  have ne := hC.ne
  have cl : cc < M.length := (List.getElem?_eq_some_iff.mp hC.c).1
  refine ⟨rfl, .str z, rfl, rfl, hkl, fun _ => ?_, fun q => (by rw [show isKeys (.str z) = true from hz] at q; cases q)⟩
  refine ⟨le_line rfl, _, _, hC.c, rfl, ?_⟩
  have hM : IsC K (M.set cc (courseO K w r q g o { t with gone := [] })) cc w r q g o { t with gone := [] } := by
    refine ⟨List.getElem?_set_self cl, ?_, ?_, ?_, isW ?_ hC.w.ok, hC.ok, ⟨hC.go.nd, hC.go.lt⟩, hC.us⟩
    · rw [List.getElem?_set_ne ne.cr]; exact hC.r
    · rw [List.getElem?_set_ne ne.cq]; exact hC.q
    · rw [List.getElem?_set_ne ne.cg]; exact hC.g
    · rw [List.getElem?_set_ne ne.cw]; exact hC.w.1
  refine ⟨_, _, hM.c, by decide, rfl, cc, w, r, q, g, o, { t with gone := [] }, z, rfl, hM, hz, hl, fun M' hf hC2 => .inl (hq M' ((Frm.set (by simp)).trans hf) hC2)⟩

-- @use Cr
def ct_Course_back (K : PySem.W.Frag) : Ct := fun ds M Q E => ∃ (c w r q g : Nat) (o : CO) (t : CT) (n : D), ds = [.ref c, n] ∧ IsC K M c w r q g o t ∧ (tyN M n).isSome = true ∧
  ((isCount n 1 t.zs.length = false ∧ E (He.ga K "Nothing") M) ∨
   ∃ k : Nat, n = .int (k : Int) ∧ 1 ≤ k ∧ k ≤ t.zs.length ∧ t.zs.length ≤ 4000 ∧ t.gone.length ≤ 4000 ∧ (∀ z ∈ t.zs, goodKeys z = true) ∧ (-400 ≤ o.x ∧ o.x ≤ 400) ∧ (-400 ≤ o.y ∧ o.y ≤ 400) ∧ o.e.free o.x o.y = true ∧
    ∀ M' r q g, Frm M M' [c] → IsC K M' c w r q g o (backM o k t) → Q .non M')

abbrev N_Course_back : List Str := ["self", "ticks", "left", "world", "at", "top", "keys"]
theorem sc_Course_back : FnScope N_Course_back ["self", "ticks"] (defScope s_Course_back) := ⟨rfl, rfl, rfl, by decide +kernel, rfl, by decide +kernel, by decide +kernel⟩
theorem ok_Course_back (T : Txt K mg base) : Ok P w K mg base 10 (He.fAd K ("Course", some "back")) ["self", "ticks"] 2 (ct_Course_back K) := by
  obtain ⟨fd, F⟩ := T.f_Course_back
  obtain ⟨fd_Course_go, F_Course_go, b_Course_go, k_Course_go⟩ := ok_Course_go (P := P) (w := w) (base := base) T
  obtain ⟨fd_Course_look, F_Course_look, b_Course_look, k_Course_look⟩ := ok_Course_look (P := P) (w := w) (base := base) T
  obtain ⟨fd_Runner_init, F_Runner_init, b_Runner_init, k_Runner_init⟩ := ok_Runner_init (P := P) (w := w) (base := base) T
  obtain ⟨fd_is_count, F_is_count, b_is_count, k_is_count⟩ := ok_is_count (P := P) (w := w) (base := base) T
  have nd := sc_Course_back.nd
  refine Ok.of F (F.bindsN fun _ _ _ _ _ _ us hl => match us, hl with | [_, _], _ => rfl) sc_Course_back rfl fun cdv A outer s c jx tk hp hr => ⟨_, (jss_cons (js_if (jt_not (jt_val (je_call jx F_is_count (hr.mono (by decide)) rfl T.g_is_count k_is_count b_is_count (ja_cons (je_var 1 (pv 1)) (ja_cons je_int (ja_cons (je_callB jc_len rfl T.u_len boot_len (ja_cons (je_fld 4 (je_var 0 (pv 0)) T.cl_Course T.n_Course_rows) ja_nil)) ja_nil))))))
    (jss_one (js_raise jx tk rfl T.x_Nothing.e T.x_Nothing.g T.x_Nothing.k T.x_Nothing.s T.x_Nothing.t rfl))
    jss_nil)
    (jss_cons (js_set (i := 2) nd rfl (by first | exact Or.inl rfl | exact Or.inr rfl) (je_slice (je_fld 4 (je_var 0 (pv 0)) T.cl_Course T.n_Course_rows) jo_none (jo_some (je_op jo_sub (je_callB jc_len rfl T.u_len boot_len (ja_cons (je_fld 4 (je_var 0 (pv 0)) T.cl_Course T.n_Course_rows) ja_nil)) (je_var 1 (pv 1))))))
    (jss_cons (js_fld 5 (je_var 0 (pv 0)) (je_op jo_add (je_slice (je_fld 4 (je_var 0 (pv 0)) T.cl_Course T.n_Course_rows) (jo_some (je_op jo_sub (je_callB jc_len rfl T.u_len boot_len (ja_cons (je_fld 4 (je_var 0 (pv 0)) T.cl_Course T.n_Course_rows) ja_nil)) (je_var 1 (pv 1)))) jo_none) (je_fld 5 (je_var 0 (pv 0)) T.cl_Course T.n_Course_gone_back)) T.cl_Course T.n_Course_gone_back)
    (jss_cons (js_asg (je_fld 1 (je_var 0 (pv 0)) T.cl_Course T.n_Course_begun) (jg_tup rfl (jgs_cons (jg_name (i := 3) nd rfl (by first | exact Or.inl rfl | exact Or.inr rfl)) (jgs_cons (jg_name (i := 4) nd rfl (by first | exact Or.inl rfl | exact Or.inr rfl)) (jgs_cons (jg_name (i := 5) nd rfl (by first | exact Or.inl rfl | exact Or.inr rfl)) jgs_nil)))))
    (jss_cons (js_fld 0 (je_var 0 (pv 0)) (je_make (ks := ks_Runner) jx T.mk_Runner F_Runner_init (hr.mono (by decide)) rfl T.g_Runner b_Runner_init (ja_cons (je_var 3 (pv 3)) (ja_cons (je_var 4 (pv 4)) (ja_cons (je_var 5 (pv 5)) ja_nil)))) T.cl_Course T.n_Course_runner)
    (jss_cons (js_fld 4 (je_var 0 (pv 0)) (je_lstM ja_nil) T.cl_Course T.n_Course_rows)
    (jss_cons (js_fld 6 (je_var 0 (pv 0)) je_dnew T.cl_Course T.n_Course_got)
    (jss_cons (js_fld 7 (je_var 0 (pv 0)) je_non T.cl_Course T.n_Course_reached)
    (jss_cons (js_expr (je_meth0 jx (je_var 0 (pv 0)) T.cl_Course T.m_Course_look F_Course_look (hr.mono (by decide)) b_Course_look))
    (jss_one (js_for hp rfl (ji_list (je_var 2 (pv 2))) (jg_name (i := 6) nd rfl (by first | exact Or.inl rfl | exact Or.inr rfl))
    (jss_one (js_expr (je_meth jx (je_var 0 (pv 0)) T.cl_Course T.m_Course_go F_Course_go (hr.mono (by decide)) b_Course_go (ja_cons (je_var 6 (pv 6)) ja_nil))))))))))))))), fun ds M Q h => ?_⟩
  clear hr hp tk jx nd F_Course_go b_Course_go k_Course_go fd_Course_go F_Course_look b_Course_look k_Course_look fd_Course_look F_Runner_init b_Runner_init k_Runner_init fd_Runner_init F_is_count b_is_count k_is_count fd_is_count F T
  obtain ⟨cc, w, r, q, g, o, t, n, rfl, hC, hn, hh⟩ := h
  refine ⟨_, _, _, hC.c, rfl, rfl, _, asL_ref hC.q, rfl, n, 1, _, rfl, hn, ?_⟩
  rw [List.length_map]
  rcases hh with ⟨hb, he⟩ | ⟨k, rfl, k1, k2, hzl, hgl, hz, hx, hy, hf, hq⟩
  · rw [hb]
    exact tt he
  rw [show isCount (.int (k : Int)) 1 (t.zs.length : Int) = true from isCount_int.mpr ⟨by omega, by omega⟩]
  refine ff ?_
  try dsimp only [sSkip]
  have ne := hC.ne
  have cl : cc < M.length := (List.getElem?_eq_some_iff.mp hC.c).1
  have em : (t.zs.length : Int) - (k : Int) = ((t.zs.length - k : Nat) : Int) := by omega
  refine ⟨_, _, _, hC.c, rfl, rfl, _, _, _, hC.c, rfl, rfl, _, asL_ref hC.q, _, asL_ref hC.q, ?_⟩
  rw [List.length_map, em, cutD_take, ← List.map_take]
  try dsimp only [gVar]
  refine ⟨_, _, _, hC.c, rfl, rfl, _, _, _, hC.c, rfl, rfl, _, asL_ref hC.q, _, asL_ref hC.q, ?_⟩
  rw [List.length_map, em, cutD_drop, ← List.map_drop]
  refine ⟨_, _, _, hC.c, rfl, rfl, _, _, rfl, rfl, ?_, ?_⟩
  · rw [List.length_map, List.length_map, List.length_drop]
    exact Nat.le_trans (show _ ≤ 8000 by omega) (by decide)
  rw [← List.map_append]
  have hset : ∀ (Y Z : MO) (E : Mem), (M.set cc Y ++ E).set cc Z = M.set cc Z ++ E := fun Y Z E => by rw [set_pre (by rw [List.length_set]; exact cl), List.set_set]
  have hget : ∀ (Y : MO) (E : Mem), (M.set cc Y ++ E)[cc]? = some Y := fun Y E => get_left (List.getElem?_set_self cl)
  have hfr : ∀ (Y : MO) (E : Mem), Frm M (M.set cc Y ++ E) [cc] := fun Y E => (Frm.set (by simp)).trans (Frm.app _ _ _)
  have hwl : ∀ (Y : MO) (E : Mem), IsW K (M.set cc Y ++ E) w o.e := fun Y E => isW (get_left (by rw [List.getElem?_set_ne ne.cw]; exact hC.w.1)) hC.w.ok
  refine ⟨_, _, hC.c, rfl, ?_⟩
  refine ⟨_, _, _, List.getElem?_set_self cl, rfl, rfl, rfl, ?_⟩
  dsimp only [gsCons, gVar, gsNil]
  refine ⟨rfl, ⟨by decide, by decide⟩, _, w, o.e, .int o.x, .int o.y, rfl, get_end, hwl _ _, rfl, rfl, .inl ⟨o.x, o.y, rfl, rfl, hx, hy, hf, rfl, ?_⟩⟩
  rw [set_end]
  refine ⟨_, _, hget _ _, rfl, ?_⟩
  rw [hset]
  refine ⟨le_line rfl, _, _, get_left (hget _ _), rfl, ?_⟩
  simp only [List.append_assoc, List.cons_append, List.nil_append, hset, len_app, List.length_set, List.length_cons, List.length_nil]
  refine ⟨_, _, get_left (hget _ _), rfl, ?_⟩
  simp only [List.append_assoc, List.cons_append, List.nil_append, hset, len_app, List.length_set, List.length_cons, List.length_nil]
  refine ⟨_, _, hget _ _, rfl, ?_⟩
  rw [hset]
  let t0 : CT := { rawC o with gone := t.zs.drop (t.zs.length - k) ++ t.gone }
  let Y : MO := courseO K w M.length (M.length + 1) (M.length + 2) o t0
  let E : Mem := [runnerO K w ⟨0, o.x, o.y, 0, 0, false⟩, .lst [], .dic []]
  have at_ : ∀ (k : Nat) (v : MO), E[k]? = some v → (M.set cc Y ++ E)[M.length + k]? = some v := fun k v hk => by
    have := get_at (B := M.set cc Y) hk
    rwa [List.length_set] at this
  have hM : IsC K (M.set cc Y ++ E) cc w M.length (M.length + 1) (M.length + 2) o t0 := ⟨hget _ _, at_ 0 _ rfl, at_ 1 _ rfl, at_ 2 _ rfl, hwl _ _, start_ok hf, ⟨List.nodup_nil, fun _ z => (nomatch z)⟩, hC.us⟩
  refine ⟨_, _, hM.c, by decide, rfl, cc, w, M.length, M.length + 1, M.length + 2, o, t0, rfl, hM, fun M' hf2 hC2 => ?_⟩
  have hS : ∀ i ∈ [cc, M.length, M.length + 1, M.length + 2], i ∈ [cc] ∨ M.length ≤ i := fun i hi => by
    simp only [List.mem_cons, List.not_mem_nil, or_false] at hi ⊢
    omega
  have hF0 := (hfr Y E).trans2 hf2 hS
  clear hf2 hM at_
  have hLl : (t.zs.take (t.zs.length - k)).length ≤ 4000 := by rw [List.length_take]; omega
  have hLg : ∀ z ∈ t.zs.take (t.zs.length - k), goodKeys z = true := fun z q => hz z (List.mem_of_mem_take q)
  have hbk : runC o (t.zs.take (t.zs.length - k)) (lookM o t0) = backM o k t := rfl
  generalize t.zs.take (t.zs.length - k) = L at hLl hLg hbk
  refine loop_inv (L.map D.str) (fun i ρ M' => Frm M M' [cc] ∧ IsC K M' cc w M.length (M.length + 1) (M.length + 2) o (runC o (L.take i) (lookM o t0)) ∧ ∃ x6, ρ = [some (.ref cc), some (.int (k : Int)), some (.lst (L.map D.str)), some (.ref w), some (.int o.x), some (.int o.y), x6]) ?_ ?_ ⟨hF0, hC2, none, rfl⟩
  · rintro i d hd ρ M1 ⟨hF, hC1, x6, rfl⟩
    rw [List.getElem?_map] at hd
    obtain ⟨z, hz2, rfl⟩ := Option.map_eq_some_iff.mp hd
    have hlt : i < L.length := (List.getElem?_eq_some_iff.mp hz2).1
    refine ⟨trivial, fun go2 hgo2 => ?_⟩
    refine ⟨_, _, hC1.c, by decide, rfl, cc, w, _, _, _, o, _, z, rfl, hC1, hLg z (List.mem_of_getElem? hz2), ?_, fun M' hf3 hC3 => hgo2 _ _ ⟨hF.trans2 hf3 hS, ?_, _, rfl⟩⟩
    · rw [runC_zs, List.length_append, List.length_take]
      show 0 + _ < 5000
      omega
    · rw [List.take_add_one, hz2]
      show IsC K M' cc w _ _ _ o (runC o (L.take i ++ [z]) (lookM o t0))
      rw [runC_snoc]
      exact hC3
  · rintro ρ M1 ⟨hF, hC1, x6, rfl⟩
    rw [List.length_map, List.take_length, hbk] at hC1
    exact ⟨trivial, .inl (hq M1 _ _ _ hF hC1)⟩

-- @use Cr
def ct_Course_again (K : PySem.W.Frag) : Ct := fun ds M Q E => ∃ (c w r q g : Nat) (o : CO) (t : CT), ds = [.ref c] ∧ IsC K M c w r q g o t ∧
  ((t.gone = [] ∧ E (He.ga K "Nothing") M) ∨ ∃ z rest, t.gone = z :: rest ∧ goodKeys z = true ∧ t.zs.length < 5000 ∧ ∀ M', Frm M M' [c, r, q, g] → IsC K M' c w r q g o (goM o z { t with gone := rest }) → Q (.lst ((foundM o (tickC o z { t with gone := rest })).map fun (n : Nat) => D.int (n : Int))) M')

abbrev N_Course_again : List Str := ["self", "keys"]
theorem sc_Course_again : FnScope N_Course_again ["self"] (defScope s_Course_again) := ⟨rfl, rfl, rfl, by decide +kernel, rfl, by decide +kernel, by decide +kernel⟩
theorem ok_Course_again (T : Txt K mg base) : Ok P w K mg base 10 (He.fAd K ("Course", some "again")) ["self"] 1 (ct_Course_again K) := by
  obtain ⟨fd, F⟩ := T.f_Course_again
  obtain ⟨fd_Course_go, F_Course_go, b_Course_go, k_Course_go⟩ := ok_Course_go (P := P) (w := w) (base := base) T
  have nd := sc_Course_again.nd
  refine Ok.of F (F.bindsN fun _ _ _ _ _ _ us hl => match us, hl with | [_], _ => rfl) sc_Course_again rfl fun cdv A outer s c jx tk hp hr => ⟨_, (jss_cons (js_if (jt_cmp (jo_eq (room_units hr)) (je_fld 5 (je_var 0 (pv 0)) T.cl_Course T.n_Course_gone_back) (je_lst ja_nil))
    (jss_one (js_raise jx tk rfl T.x_Nothing.e T.x_Nothing.g T.x_Nothing.k T.x_Nothing.s T.x_Nothing.t rfl))
    jss_nil)
    (jss_cons (js_set (i := 1) nd rfl (by first | exact Or.inl rfl | exact Or.inr rfl) (je_ix ji_seq (je_fld 5 (je_var 0 (pv 0)) T.cl_Course T.n_Course_gone_back) je_int))
    (jss_cons (js_fld 5 (je_var 0 (pv 0)) (je_slice (je_fld 5 (je_var 0 (pv 0)) T.cl_Course T.n_Course_gone_back) (jo_some je_int) jo_none) T.cl_Course T.n_Course_gone_back)
    (jss_one (js_ret (je_meth jx (je_var 0 (pv 0)) T.cl_Course T.m_Course_go F_Course_go (hr.mono (by decide)) b_Course_go (ja_cons (je_var 1 (pv 1)) ja_nil))))))), fun ds M Q h => ?_⟩
  clear hr hp tk jx nd F_Course_go b_Course_go k_Course_go fd_Course_go F T
  obtain ⟨cc, w, r, q, g, o, t, rfl, hC, hh⟩ := h
  refine ⟨_, _, _, hC.c, rfl, rfl, le_line rfl, _, _, pyR t.gone, rfl, Nat.le_trans (Nat.min_le_left _ _) (depR _), ?_⟩
  rw [if_neg Bool.false_ne_true, eqv_nil]
  rcases hh with ⟨hg, he⟩ | ⟨z, rest, hg, hz, hl, hq⟩
  · rw [hg]
    exact tt he
  have ne := hC.ne
  have cl : cc < M.length := (List.getElem?_eq_some_iff.mp hC.c).1
  rw [hg]
  refine ff ⟨_, _, _, hC.c, rfl, rfl, _, .str z, rfl, by rw [hg]; exact atI_zero, ?_⟩
  refine ⟨_, _, _, hC.c, rfl, rfl, _, rfl, _, _, hC.c, rfl, ?_⟩
  rw [hg, List.map_cons, cutD_tail]
  have hM : IsC K (M.set cc (courseO K w r q g o { t with gone := rest })) cc w r q g o { t with gone := rest } := by
    refine ⟨List.getElem?_set_self cl, ?_, ?_, ?_, isW ?_ hC.w.ok, hC.ok, ⟨hC.go.nd, hC.go.lt⟩, hC.us⟩
    · rw [List.getElem?_set_ne ne.cr]; exact hC.r
    · rw [List.getElem?_set_ne ne.cq]; exact hC.q
    · rw [List.getElem?_set_ne ne.cg]; exact hC.g
    · rw [List.getElem?_set_ne ne.cw]; exact hC.w.1
  exact ⟨_, _, hM.c, by decide, rfl, cc, w, r, q, g, o, { t with gone := rest }, z, rfl, hM, hz, hl, fun M' hf hC2 => .inl (hq M' ((Frm.set (by simp)).trans hf) hC2)⟩

-- @use Cr
def ct_Course_at (K : PySem.W.Frag) : Ct := fun ds M Q _ => ∃ (c w r q g : Nat) (o : CO) (t : CT), ds = [.ref c] ∧ IsC K M c w r q g o t ∧ Q (placeD (t.s.x, t.s.y)) M

abbrev N_Course_at : List Str := ["self"]
theorem sc_Course_at : FnScope N_Course_at ["self"] (defScope s_Course_at) := ⟨rfl, rfl, rfl, by decide +kernel, rfl, by decide +kernel, by decide +kernel⟩
theorem ok_Course_at (T : Txt K mg base) : Ok P w K mg base 2 (He.fAd K ("Course", some "at")) ["self"] 1 (ct_Course_at K) := by
  obtain ⟨fd, F⟩ := T.f_Course_at
  obtain ⟨fd_Runner_at, F_Runner_at, b_Runner_at, k_Runner_at⟩ := ok_Runner_at (P := P) (w := w) (base := base) T
  have nd := sc_Course_at.nd
  refine Ok.of F (F.bindsN fun _ _ _ _ _ _ us hl => match us, hl with | [_], _ => rfl) sc_Course_at rfl fun cdv A outer s c jx tk hp hr => ⟨_, (jss_one (js_ret (je_meth0 jx (je_fld 0 (je_var 0 (pv 0)) T.cl_Course T.n_Course_runner) T.cl_Runner T.m_Runner_at F_Runner_at (hr.mono (by decide)) b_Runner_at))), fun ds M Q h => ?_⟩
  clear hr hp tk jx nd F_Runner_at b_Runner_at k_Runner_at fd_Runner_at F T
  obtain ⟨cc, w, r, q, g, o, t, rfl, hC, hq⟩ := h
  exact ⟨_, _, _, hC.c, rfl, rfl, _, _, hC.r, by decide, rfl, r, w, t.s, rfl, hC.r, .inl hq⟩

-- @use Cr
def ct_Course_clock (K : PySem.W.Frag) : Ct := fun ds M Q _ => ∃ (c w r q g : Nat) (o : CO) (t : CT), ds = [.ref c] ∧ IsC K M c w r q g o t ∧ Q (.int t.zs.length) M

abbrev N_Course_clock : List Str := ["self"]
theorem sc_Course_clock : FnScope N_Course_clock ["self"] (defScope s_Course_clock) := ⟨rfl, rfl, rfl, by decide +kernel, rfl, by decide +kernel, by decide +kernel⟩
theorem ok_Course_clock (T : Txt K mg base) : Ok P w K mg base 1 (He.fAd K ("Course", some "clock")) ["self"] 1 (ct_Course_clock K) := by
  obtain ⟨fd, F⟩ := T.f_Course_clock
  have nd := sc_Course_clock.nd
  refine Ok.of F (F.bindsN fun _ _ _ _ _ _ us hl => match us, hl with | [_], _ => rfl) sc_Course_clock rfl fun cdv A outer s c jx tk hp hr => ⟨_, (jss_one (js_ret (je_callB jc_len rfl T.u_len boot_len (ja_cons (je_fld 4 (je_var 0 (pv 0)) T.cl_Course T.n_Course_rows) ja_nil)))), fun ds M Q h => ?_⟩
  clear hr hp tk jx nd F T
  obtain ⟨cc, w, r, q, g, o, t, rfl, hC, hq⟩ := h
  refine ⟨_, _, _, hC.c, rfl, rfl, _, asL_ref hC.q, ?_⟩
  rw [List.length_map]
  exact .inl hq

-- @use Cr
def ct_Course_taken (K : PySem.W.Frag) : Ct := fun ds M Q _ => ∃ (c w r q g : Nat) (o : CO) (t : CT), ds = [.ref c] ∧ IsC K M c w r q g o t ∧ (∀ p ∈ t.got, p.2 < 1000) ∧
  ∀ ys : List (List Int), ys.Perm (t.got.map fun p => [(p.2 : Int), (p.1 : Int)]) → ys.Pairwise (fun a b => TS.code 1000 a ≤ TS.code 1000 b) → Q (.lst (ys.map tupI)) M

abbrev N_Course_taken : List Str := ["self", "number"]
theorem sc_Course_taken : FnScope N_Course_taken ["self"] (defScope s_Course_taken) := ⟨rfl, rfl, rfl, by decide +kernel, rfl, by decide +kernel, by decide +kernel⟩
theorem ok_Course_taken (T : Txt K mg base) : Ok P w K mg base 1 (He.fAd K ("Course", some "taken")) ["self"] 1 (ct_Course_taken K) := by
  obtain ⟨fd, F⟩ := T.f_Course_taken
  have nd := sc_Course_taken.nd
  refine Ok.of F (F.bindsN fun _ _ _ _ _ _ us hl => match us, hl with | [_], _ => rfl) sc_Course_taken rfl fun cdv A outer s c jx tk hp hr => ⟨_, (jss_one (js_ret (je_callB (jc_sortT 2 1000) rfl T.u_sorted boot_sorted (ja_cons (je_lock (je_lc (own := [("number", 1)]) rfl nd (ji_keys (je_fld 6 (je_var 0 (pv 0)) T.cl_Course T.n_Course_got)) (blkOk_by (N := N_Course_taken) (sc := (defScope s_Course_taken)) (own := [("number", 1)]) (by decide +kernel)) (fun _ _ _ _ _ => (jgc_name (i := 1) nd rfl (by first | exact Or.inl rfl | exact Or.inr rfl))) (fun _ _ _ _ _ => jts_nil) (fun _ _ _ _ _ => (je_tup (ja_cons (je_dget (hu_of hr) (je_fld 6 (je_var 0 (pv 0)) T.cl_Course T.n_Course_got) (je_var 1 (pv 1))) (ja_cons (je_var 1 (pv 1)) ja_nil)))))) ja_nil)))), fun ds M Q h => ?_⟩
  clear hr hp tk jx nd F T
  obtain ⟨cc, w, r, q, g, o, t, rfl, hC, hb, hq⟩ := h
  have hus := hC.us
  have ne := hC.ne
  have hgl := hC.go.len
  have gl : g < M.length := (List.getElem?_eq_some_iff.mp hC.g).1
  refine ⟨g, _, hC.g, fun ho => ?_⟩
  have sc : (M.set g (.lck ho (t.got.map kvD)))[cc]? = some (courseO K w r q g o t) := by rw [List.getElem?_set_ne (Ne.symm ne.cg)]; exact hC.c
  have sg : (M.set g (.lck ho (t.got.map kvD)))[g]? = some (.lck ho (t.got.map kvD)) := List.getElem?_set_self gl
  refine ⟨_, _, _, sc, rfl, rfl, ho, _, sg, ?_⟩
  refine lc_map _ (fun x => match x with
    | .int i => .tup [(lookI (t.got.map kvD) i).getD .non, .int i]
    | _ => .non) sg (by rw [List.length_map, List.length_map]; exact Nat.le_trans (show _ ≤ 20 by omega) (by decide)) (fun x hx yes no hy => ?_) ?_
  · obtain ⟨kv, hkv, rfl⟩ := List.mem_map.mp hx
    obtain ⟨p, hp, rfl⟩ := List.mem_map.mp hkv
    have hl := lookI_at hC.go.nd hp
    have hy : yes (.tup [(lookI (t.got.map kvD) (p.1 : Int)).getD .non, .int (p.1 : Int)]) _ := hy
    rw [hl] at hy
    exact tt ⟨_, _, _, sc, rfl, rfl, _, _, .inr ⟨ho, sg⟩, hl, le_line rfl, hy⟩
  have e : ((t.got.map kvD).map fun kv => D.int kv.1).map (fun x => match x with
    | .int i => .tup [(lookI (t.got.map kvD) i).getD .non, .int i]
    | _ => .non) = (t.got.map fun p => [(p.2 : Int), (p.1 : Int)]).map tupI := by
    rw [List.map_map, List.map_map, List.map_map]
    refine List.map_congr_left fun p hp => ?_
    show D.tup [(lookI (t.got.map kvD) (p.1 : Int)).getD .non, .int (p.1 : Int)] = _
    rw [lookI_at hC.go.nd hp]
    rfl
  rw [e]
  refine ⟨sg, ?_⟩
  rw [List.set_set, set_self hC.g]
  refine ⟨_, rfl, by rw [List.length_map]; omega, fun a ha => ?_, fun ys h1 h2 => .inl (hq ys h1 h2)⟩
  obtain ⟨p, hp, rfl⟩ := List.mem_map.mp ha
  have h1 := hb p hp
  have h2 := hC.go.lt p hp
  refine ⟨rfl, fun x hx => ?_⟩
  simp only [List.mem_cons, List.not_mem_nil, or_false] at hx
  rcases hx with rfl | rfl
  · omega
  · omega

-- @use Cr
def leftM (o : CO) (t : CT) : List Nat := (List.range o.us.length).filter fun n => !isGot t.got n
def ct_Course_left_over (K : PySem.W.Frag) : Ct := fun ds M Q _ => ∃ (c w r q g : Nat) (o : CO) (t : CT), ds = [.ref c] ∧ IsC K M c w r q g o t ∧ Q (.lst ((leftM o t).map fun (n : Nat) => D.int (0 + (n : Int)))) M

abbrev N_Course_left_over : List Str := ["self", "number"]
theorem sc_Course_left_over : FnScope N_Course_left_over ["self"] (defScope s_Course_left_over) := ⟨rfl, rfl, rfl, by decide +kernel, rfl, by decide +kernel, by decide +kernel⟩
theorem ok_Course_left_over (T : Txt K mg base) : Ok P w K mg base 1 (He.fAd K ("Course", some "left_over")) ["self"] 1 (ct_Course_left_over K) := by
  obtain ⟨fd, F⟩ := T.f_Course_left_over
  have nd := sc_Course_left_over.nd
  refine Ok.of F (F.bindsN fun _ _ _ _ _ _ us hl => match us, hl with | [_], _ => rfl) sc_Course_left_over rfl fun cdv A outer s c jx tk hp hr => ⟨_, (jss_one (js_ret (je_lc (own := [("number", 1)]) rfl nd (ji_rng1 rfl T.u_range (ja_cons (je_callB jc_len rfl T.u_len boot_len (ja_cons (je_fld 2 (je_var 0 (pv 0)) T.cl_Course T.n_Course_things) ja_nil)) ja_nil)) (blkOk_by (N := N_Course_left_over) (sc := (defScope s_Course_left_over)) (own := [("number", 1)]) (by decide +kernel)) (fun _ _ _ _ _ => (jgc_name (i := 1) nd rfl (by first | exact Or.inl rfl | exact Or.inr rfl))) (fun _ _ _ _ _ => (jts_one (jt_cmp (jo_notInD (hu_of hr)) (je_var 1 (pv 1)) (je_fld 6 (je_var 0 (pv 0)) T.cl_Course T.n_Course_got)))) (fun _ _ _ _ _ => (je_var 1 (pv 1)))))), fun ds M Q h => ?_⟩
  clear hr hp tk jx nd F T
  obtain ⟨cc, w, r, q, g, o, t, rfl, hC, hq⟩ := h
  have hus := hC.us
  refine ⟨_, _, _, hC.c, rfl, rfl, _, rfl, ⟨?_, ?_⟩, ?_⟩
  · rw [List.length_map]; omega
  · rw [List.length_map]; omega
  rw [List.length_map]
  refine lc_filt _ id (fun x => match x with
    | .int i => !isGot t.got i.toNat
    | _ => false) trivial (by rw [upTo_len]; exact Nat.le_trans (show _ ≤ 20 by omega) (by decide)) (fun x hx yes no hy hno => ?_) ?_
  · obtain ⟨k, hk⟩ := List.getElem?_of_mem hx
    obtain ⟨hk1, rfl⟩ := upTo_get hk
    have e : (0 + (k : Int)).toNat = k := by omega
    have hy : (!isGot t.got (0 + (k : Int)).toNat) = true → yes (.int (0 + (k : Int))) M := hy
    have hno : (!isGot t.got (0 + (k : Int)).toNat) = false → no M := hno
    rw [e] at hy hno
    refine ⟨_, _, _, hC.c, rfl, rfl, t.got.map kvD, .inl hC.g, ?_⟩
    have e2 : (0 + (k : Int)) = (k : Int) := by omega
    have e3 : (lookI (t.got.map kvD) (0 + (k : Int))).isSome = isGot t.got k := by rw [e2, lookI_got]
    rw [if_pos rfl, e3]
    exact ⟨hy, hno⟩
  · have e : List.map id (List.filter (fun x => match x with
      | .int i => !isGot t.got i.toNat
      | _ => false) (J.upTo 0 o.us.length)) = (leftM o t).map fun (n : Nat) => D.int (0 + (n : Int)) := by
      unfold J.upTo leftM
      rw [List.map_id, List.filter_map]
      congr 1
      refine List.filter_congr fun k _ => ?_
      show (!isGot t.got (0 + (k : Int)).toNat) = _
      rw [show (0 + (k : Int)).toNat = k by omega]
    rw [show (Int.toNat (o.us.length : Int)) = o.us.length from Int.toNat_natCast _, e]
    exact .inl hq

-- @use Cr
def ct_Course_done (K : PySem.W.Frag) : Ct := fun ds M Q _ => ∃ (c w r q g : Nat) (o : CO) (t : CT), ds = [.ref c] ∧ IsC K M c w r q g o t ∧ Q (optD (doneM o t)) M

abbrev N_Course_done : List Str := ["self", "number"]
theorem sc_Course_done : FnScope N_Course_done ["self"] (defScope s_Course_done) := ⟨rfl, rfl, rfl, by decide +kernel, rfl, by decide +kernel, by decide +kernel⟩
theorem ok_Course_done (T : Txt K mg base) : Ok P w K mg base 1 (He.fAd K ("Course", some "done")) ["self"] 1 (ct_Course_done K) := by
  obtain ⟨fd, F⟩ := T.f_Course_done
  have nd := sc_Course_done.nd
  refine Ok.of F (F.bindsN fun _ _ _ _ _ _ us hl => match us, hl with | [_], _ => rfl) sc_Course_done rfl fun cdv A outer s c jx tk hp hr => ⟨_, (jss_cons (js_if (JW.pt (jw_or (jt_cmp jo_isN (je_fld 7 (je_var 0 (pv 0)) T.cl_Course T.n_Course_reached) je_non) (jw_or1 (jt_cmp jo_lt (je_callB jc_lenD rfl T.u_len boot_len (ja_cons (je_fld 6 (je_var 0 (pv 0)) T.cl_Course T.n_Course_got) ja_nil)) (je_callB jc_len rfl T.u_len boot_len (ja_cons (je_fld 2 (je_var 0 (pv 0)) T.cl_Course T.n_Course_things) ja_nil))))))
    (jss_one (js_ret je_non))
    jss_nil)
    (jss_one (js_ret (je_callB (jc_maxL rfl) rfl T.u_max boot_max (ja_cons (je_op jo_add (je_lst (ja_cons (je_fld 7 (je_var 0 (pv 0)) T.cl_Course T.n_Course_reached) ja_nil)) (je_lock (je_lc (own := [("number", 1)]) rfl nd (ji_keys (je_fld 6 (je_var 0 (pv 0)) T.cl_Course T.n_Course_got)) (blkOk_by (N := N_Course_done) (sc := (defScope s_Course_done)) (own := [("number", 1)]) (by decide +kernel)) (fun _ _ _ _ _ => (jgc_name (i := 1) nd rfl (by first | exact Or.inl rfl | exact Or.inr rfl))) (fun _ _ _ _ _ => jts_nil) (fun _ _ _ _ _ => (je_dget (hu_of hr) (je_fld 6 (je_var 0 (pv 0)) T.cl_Course T.n_Course_got) (je_var 1 (pv 1))))))) ja_nil))))), fun ds M Q h => ?_⟩
  clear hr hp tk jx nd F T
  obtain ⟨cc, w, r, q, g, o, t, rfl, hC, hq⟩ := h
  have hus := hC.us
  have ne := hC.ne
  have hgl := hC.go.len
  refine ⟨_, _, _, hC.c, rfl, rfl, ?_⟩
  unfold doneM at hq
  cases hre : t.re with
  | none =>
    rw [hre] at hq
    exact tt (tt (.inl hq))
  | some k =>
    rw [hre] at hq
    refine ff ⟨_, _, _, hC.c, rfl, rfl, _, hC.g, _, _, _, hC.c, rfl, rfl, _, rfl, fun h1 => .inl ?_, fun h1 => ?_⟩
    · have h1 := of_decide_eq_true h1
      rw [List.length_map, List.length_map] at h1
      have hq : Q (optD (if t.got.length < o.us.length then none else some (maxN (k :: t.got.map (·.2))))) M := hq
      rw [if_pos (by omega)] at hq
      exact hq
    · have h1 := of_decide_eq_false h1
      rw [List.length_map, List.length_map] at h1
      have hq : Q (optD (if t.got.length < o.us.length then none else some (maxN (k :: t.got.map (·.2))))) M := hq
      rw [if_neg (by omega)] at hq
      have gl : g < M.length := (List.getElem?_eq_some_iff.mp hC.g).1
      refine ⟨_, _, _, hC.c, rfl, by rw [hre]; rfl, le_line rfl, g, _, hC.g, fun ho => ?_⟩
      have sc : (M.set g (.lck ho (t.got.map kvD)))[cc]? = some (courseO K w r q g o t) := by rw [List.getElem?_set_ne (Ne.symm ne.cg)]; exact hC.c
      have sg : (M.set g (.lck ho (t.got.map kvD)))[g]? = some (.lck ho (t.got.map kvD)) := List.getElem?_set_self gl
      refine ⟨_, _, _, sc, rfl, rfl, ho, _, sg, ?_⟩
      refine lc_map _ (valOf (t.got.map kvD)) sg (by rw [List.length_map, List.length_map]; exact Nat.le_trans (show _ ≤ 20 by omega) (by decide)) (fun x hx yes no hy => ?_) ?_
      · obtain ⟨kv, hkv, rfl⟩ := List.mem_map.mp hx
        obtain ⟨p, hp, rfl⟩ := List.mem_map.mp hkv
        have hl := lookI_at hC.go.nd hp
        have hy : yes ((lookI (t.got.map kvD) (p.1 : Int)).getD .non) _ := hy
        rw [hl] at hy
        exact tt ⟨_, _, _, sc, rfl, rfl, _, _, .inr ⟨ho, sg⟩, hl, hy⟩
      rw [got_vals hC.go.nd]
      refine ⟨sg, ?_⟩
      rw [List.set_set, set_self hC.g]
      refine ⟨_, _, rfl, rfl, ?_, (k :: t.got.map (·.2)).map fun (n : Nat) => (n : Int), ?_, ?_, fun m hm hmx => .inl ?_⟩
      · rw [List.length_map]; exact Nat.le_trans (show 1 + _ ≤ 21 by omega) (by decide)
      · show some _ = some _
        rw [List.map_map, List.map_cons, List.map_map]
        rfl
      · rw [List.length_map, List.length_cons]; omega
      · rw [max_int hm hmx]
        exact hq

-- @use Cr
def ct_Course_tape (K : PySem.W.Frag) : Ct := fun ds M Q _ => ∃ (c w r q g : Nat) (o : CO) (t : CT), ds = [.ref c] ∧ IsC K M c w r q g o t ∧ (∀ z ∈ t.zs, goodKeys z = true) ∧ t.zs.length ≤ 5000 ∧ Q (.str (textM t.zs)) M

abbrev N_Course_tape : List Str := ["self"]
theorem sc_Course_tape : FnScope N_Course_tape ["self"] (defScope s_Course_tape) := ⟨rfl, rfl, rfl, by decide +kernel, rfl, by decide +kernel, by decide +kernel⟩
theorem ok_Course_tape (T : Txt K mg base) : Ok P w K mg base 3 (He.fAd K ("Course", some "tape")) ["self"] 1 (ct_Course_tape K) := by
  obtain ⟨fd, F⟩ := T.f_Course_tape
  obtain ⟨fd_written, F_written, b_written, k_written⟩ := ok_written (P := P) (w := w) (base := base) T
  have nd := sc_Course_tape.nd
  refine Ok.of F (F.bindsN fun _ _ _ _ _ _ us hl => match us, hl with | [_], _ => rfl) sc_Course_tape rfl fun cdv A outer s c jx tk hp hr => ⟨_, (jss_one (js_ret (je_call jx F_written (hr.mono (by decide)) rfl T.g_written k_written b_written (ja_cons (je_fld 4 (je_var 0 (pv 0)) T.cl_Course T.n_Course_rows) ja_nil)))), fun ds M Q h => ?_⟩
  clear hr hp tk jx nd F_written b_written k_written fd_written F T
  obtain ⟨cc, w, r, q, g, o, t, rfl, hC, hz, hl, hq⟩ := h
  refine ⟨_, _, _, hC.c, rfl, rfl, rfl, _, t.zs.map D.str, rfl, .inr ⟨q, rfl, hC.q⟩, fun k hk => ?_, by rw [List.length_map]; omega, .inl ⟨t.zs, rfl, hz, .inl hq⟩⟩
  obtain ⟨z, hz2, rfl⟩ := List.mem_map.mp hk
  exact ⟨fun _ => rfl, fun y e => by cases e; have := good_len (hz z hz2); omega⟩

def Shown (k : D) : Prop := ∀ M : Mem, (tyN M k).isSome = true
def preT (K : PySem.W.Frag) (M : Mem) (E : Addr → Mem → Prop) (w : Nat) (e : Wd) (a b : D) (ks : List D) (good : List J.Step → Prop) : Prop := IsW K M w e ∧ Shown a ∧ Shown b ∧ (∀ k ∈ ks, Shown k ∧ ∀ z, k = .str z → z.length ≤ 1000) ∧ ks.length ≤ 1000000 ∧
  ((∃ x y, a = .int x ∧ b = .int y ∧ (-400 ≤ x ∧ x ≤ 400) ∧ (-400 ≤ y ∧ y ≤ 400) ∧ e.free x y = true ∧ ((∃ zs : List Str, ks = zs.map D.str ∧ (∀ z ∈ zs, goodKeys z = true) ∧ good (stepsM e zs ⟨0, x, y, 0, 0, false⟩)) ∨ (ks.all isKeys = false ∧ ∀ E', E (He.ga K "BadKeys") (M ++ E')))) ∨
   (((isCount a (-400) 400 && isCount b (-400) 400) = false ∨ ∃ x y, a = .int x ∧ b = .int y ∧ e.free x y = false) ∧ ∀ E', E (He.ga K "BadPlace") (M ++ E')))
theorem preT.mono {K : PySem.W.Frag} {M : Mem} {E : Addr → Mem → Prop} {w : Nat} {e : Wd} {a b : D} {ks : List D} {good good' : List J.Step → Prop} (h : preT K M E w e a b ks good) (hg : ∀ L, 1 ≤ L.length → L.length ≤ 1000001 → L.length = ks.length + 1 → good L → good' L) : preT K M E w e a b ks good' := by
  obtain ⟨h1, h2, h3, h4, h5, h6⟩ := h
  refine ⟨h1, h2, h3, h4, h5, ?_⟩
  rcases h6 with ⟨x, y, a1, a2, a3, a4, a5, h6⟩ | h6
  · refine .inl ⟨x, y, a1, a2, a3, a4, a5, ?_⟩
    rcases h6 with ⟨zs, b1, b2, b3⟩ | h6
    · refine .inl ⟨zs, b1, b2, hg _ (by rw [stepsM_len]; omega) ?_ (by rw [b1, List.length_map, stepsM_len]) b3⟩
      rw [b1, List.length_map] at h5
      rw [stepsM_len]; omega
    · exact .inr h6
  · exact .inr h6
def ct_steps (K : PySem.W.Frag) : Ct := fun ds M Q E => ∃ (w : Nat) (e : Wd) (a b : D) (ks : List D), ds = [.ref w, a, b, .lst ks] ∧ preT K M E w e a b ks fun L => Q (.lst (L.map stepD)) M
theorem keys_strs {ks : List D} (h : ks.all isKeys = true) : ∃ zs : List Str, ks = zs.map D.str ∧ ∀ z ∈ zs, goodKeys z = true := by
  induction ks with
  | nil => exact ⟨[], rfl, fun _ q => (nomatch q)⟩
  | cons k ks ih =>
    rw [List.all_cons, Bool.and_eq_true] at h
    obtain ⟨zs, rfl, hz⟩ := ih h.2
    cases k with
    | str s => exact ⟨s :: zs, rfl, fun z q => by
        rcases List.mem_cons.mp q with rfl | q
        · exact h.1
        · exact hz z q⟩
    | _ => exact absurd (show false = true from h.1) Bool.false_ne_true
theorem strs_keys {zs : List Str} (h : ∀ z ∈ zs, goodKeys z = true) : (zs.map D.str).all isKeys = true := by
  rw [List.all_eq_true]
  intro k hk
  obtain ⟨z, hz, rfl⟩ := List.mem_map.mp hk
  exact h z hz
theorem map_strs_inj {a b : List Str} (h : a.map D.str = b.map D.str) : a = b := by
  have := (strsOf_map a).symm.trans ((congrArg strsOf h).trans (strsOf_map b))
  exact Option.some.inj this
theorem steps_lt (ps : List J.Step) (n : Nat) : (D.lst (ps.map stepD)).lt n = true := by
  show D.ltL n (ps.map stepD) = true
  induction ps with
  | nil => rfl
  | cons r t ih => show (true && D.ltL n (t.map stepD)) = true; rw [ih]; rfl
-- @use M71

abbrev N_steps : List Str := ["world", "left", "top", "rows", "runner", "keys", "found"]
theorem sc_steps : FnScope N_steps ["world", "left", "top", "rows"] (defScope s_steps) := ⟨rfl, rfl, rfl, by decide +kernel, rfl, by decide +kernel, by decide +kernel⟩
theorem ok_steps (T : Txt K mg base) : Ok P w K mg base 9 (He.fAd K ("steps", none)) ["world", "left", "top", "rows"] 4 (ct_steps K) := by
  obtain ⟨fd, F⟩ := T.f_steps
  obtain ⟨fd_Runner_is_standing, F_Runner_is_standing, b_Runner_is_standing, k_Runner_is_standing⟩ := ok_Runner_is_standing (P := P) (w := w) (base := base) T
  obtain ⟨fd_Runner_at, F_Runner_at, b_Runner_at, k_Runner_at⟩ := ok_Runner_at (P := P) (w := w) (base := base) T
  obtain ⟨fd_Runner_tick, F_Runner_tick, b_Runner_tick, k_Runner_tick⟩ := ok_Runner_tick (P := P) (w := w) (base := base) T
  obtain ⟨fd_need_keys, F_need_keys, b_need_keys, k_need_keys⟩ := ok_need_keys (P := P) (w := w) (base := base) T
  obtain ⟨fd_Runner_init, F_Runner_init, b_Runner_init, k_Runner_init⟩ := ok_Runner_init (P := P) (w := w) (base := base) T
  have nd := sc_steps.nd
  refine Ok.of F (F.bindsN fun _ _ _ _ _ _ us hl => match us, hl with | [_, _, _, _], _ => rfl) sc_steps rfl fun cdv A outer s c jx tk hp hr => ⟨_, (jss_cons (js_set (i := 4) nd rfl (by first | exact Or.inl rfl | exact Or.inr rfl) (je_make (ks := ks_Runner) jx T.mk_Runner F_Runner_init (hr.mono (by decide)) rfl T.g_Runner b_Runner_init (ja_cons (je_var 0 (pv 0)) (ja_cons (je_var 1 (pv 1)) (ja_cons (je_var 2 (pv 2)) ja_nil)))))
    (jss_cons (js_for hp rfl (ji_list (je_var 3 (pv 3))) (jg_name (i := 5) nd rfl (by first | exact Or.inl rfl | exact Or.inr rfl))
    (jss_one (js_expr (je_call jx F_need_keys (hr.mono (by decide)) rfl T.g_need_keys k_need_keys b_need_keys (ja_cons (je_var 5 (pv 5)) ja_nil)))))
    (jss_cons (js_set (i := 6) nd rfl (by first | exact Or.inl rfl | exact Or.inr rfl) (je_lstM (ja_cons (je_tup (ja_cons (je_meth0 jx (je_var 4 (pv 4)) T.cl_Runner T.m_Runner_at F_Runner_at (hr.mono (by decide)) b_Runner_at) (ja_cons (je_meth0 jx (je_var 4 (pv 4)) T.cl_Runner T.m_Runner_is_standing F_Runner_is_standing (hr.mono (by decide)) b_Runner_is_standing) ja_nil))) ja_nil)))
    (jss_cons (js_for hp rfl (ji_list (je_var 3 (pv 3))) (jg_name (i := 5) nd rfl (by first | exact Or.inl rfl | exact Or.inr rfl))
    (jss_cons (js_expr (je_meth jx (je_var 4 (pv 4)) T.cl_Runner T.m_Runner_tick F_Runner_tick (hr.mono (by decide)) b_Runner_tick (ja_cons (je_var 5 (pv 5)) ja_nil)))
    (jss_one (js_expr (je_bm PySem.F.plainAttrs_list PySem.F.slot_list_append PySem.F.type_list_append jm_app (je_var 6 (pv 6)) (ja_cons (je_tup (ja_cons (je_meth0 jx (je_var 4 (pv 4)) T.cl_Runner T.m_Runner_at F_Runner_at (hr.mono (by decide)) b_Runner_at) (ja_cons (je_meth0 jx (je_var 4 (pv 4)) T.cl_Runner T.m_Runner_is_standing F_Runner_is_standing (hr.mono (by decide)) b_Runner_is_standing) ja_nil))) ja_nil))))))
    (jss_one (js_ret (je_frz (je_var 6 (pv 6))))))))), fun ds M Q h => ?_⟩
  clear hr hp tk jx nd F_Runner_is_standing b_Runner_is_standing k_Runner_is_standing fd_Runner_is_standing F_Runner_at b_Runner_at k_Runner_at fd_Runner_at F_Runner_tick b_Runner_tick k_Runner_tick fd_Runner_tick F_need_keys b_need_keys k_need_keys fd_need_keys F_Runner_init b_Runner_init k_Runner_init fd_Runner_init F T
  obtain ⟨w, e, a, b, ks, rfl, hw, ha, hb, hk, hlen, hh⟩ := h
  rcases hh with ⟨x, y, rfl, rfl, hx, hy, hf, hh⟩ | ⟨hp, he⟩
  case inr =>
    refine ⟨rfl, ⟨by decide, by decide⟩, M.length, w, e, a, b, rfl, get_end, hw.left, ha _, hb _, .inr ?_⟩
    rcases hp with hp | ⟨x, y, rfl, rfl, hp⟩
    · exact .inl ⟨hp, he _⟩
    · exact .inr ⟨x, y, rfl, rfl, hp, he _⟩
  have hgood : ks.all isKeys = true → ∃ zs : List Str, ks = zs.map D.str ∧ (∀ z ∈ zs, goodKeys z = true) ∧ Q (.lst ((stepsM e zs ⟨0, x, y, 0, 0, false⟩).map stepD)) M := fun q => by
    rcases hh with hh | ⟨q2, _⟩
    · exact hh
    · rw [q] at q2; cases q2
  have hbad : ks.all isKeys = false → ∀ E', c.Ed (He.ga K "BadKeys") (M ++ E') := fun q => by
    rcases hh with ⟨zs, rfl, hz, _⟩ | ⟨_, q2⟩
    · rw [strs_keys hz] at q; cases q
    · exact q2
  clear hh
  have hs0 := start_ok hf
  refine ⟨rfl, ⟨by decide, by decide⟩, M.length, w, e, .int x, .int y, rfl, get_end, hw.left, rfl, rfl, .inl ⟨x, y, rfl, rfl, hx, hy, hf, rfl, ?_⟩⟩
  rw [set_end]
  dsimp only [gVar]
  refine seq_via (fun ρ M' => M' = M ++ [runnerO K w ⟨0, x, y, 0, 0, false⟩] ∧ ks.all isKeys = true ∧ ∃ d5, ρ = [some (.ref w), some (.int x), some (.int y), some (.lst ks), some (.ref M.length), d5, none]) (fun go hgo => ?_) ?_
  · refine loop_inv _ (fun i ρ M' => M' = M ++ [runnerO K w ⟨0, x, y, 0, 0, false⟩] ∧ (ks.take i).all isKeys = true ∧ ∃ d5, ρ = [some (.ref w), some (.int x), some (.int y), some (.lst ks), some (.ref M.length), d5, none]) ?_ ?_ ⟨rfl, rfl, none, rfl⟩
    · rintro i k hi ρ _ ⟨rfl, hall, d5, rfl⟩
      have hkm := List.mem_of_getElem? hi
      refine ⟨trivial, fun go2 hgo2 => ⟨rfl, k, rfl, (hk k hkm).1 _, (hk k hkm).2, fun q => hgo2 _ _ ⟨rfl, ?_, _, rfl⟩, fun q => hbad ?_ _⟩⟩
      · rw [List.take_add_one, hi, List.all_append, hall]
        show (isKeys k && true) = true
        rw [q]; rfl
      · cases q2 : ks.all isKeys with
        | false => rfl
        | true =>
          have := List.all_eq_true.mp q2 k hkm
          rw [this] at q; cases q
    · rintro ρ _ ⟨rfl, hall, d5, rfl⟩
      rw [List.take_length] at hall
      exact ⟨trivial, hgo _ _ ⟨rfl, hall, d5, rfl⟩⟩
  rintro _ _ ⟨rfl, hall, d5, rfl⟩
  obtain ⟨zs, rfl, hz, hq⟩ := hgood hall
  rw [List.length_map] at hlen
  refine ⟨_, _, get_end, by decide, rfl, M.length, w, _, rfl, get_end, ?_⟩
  refine ⟨_, _, get_end, by decide, rfl, M.length, w, e, _, rfl, get_end, hw.left, le_line rfl, le_line rfl, ?_⟩
  simp only [List.append_assoc, List.cons_append, List.nil_append, len_app, List.length_cons, List.length_nil]
  dsimp only [gVar]
  let L : List Str → Mem := fun ys => [runnerO K w (afterM e ys ⟨0, x, y, 0, 0, false⟩), .lst ((stepsM e ys ⟨0, x, y, 0, 0, false⟩).map stepD)]
  refine seq_via (fun ρ M' => M' = M ++ L zs ∧ ∃ d5, ρ = [some (.ref w), some (.int x), some (.int y), some (.lst (zs.map D.str)), some (.ref M.length), d5, some (.ref (M.length + 1))]) (fun go hgo => ?_) ?_
  · refine loop_inv (zs.map D.str) (fun i ρ M' => M' = M ++ L (zs.take i) ∧ ∃ d5, ρ = [some (.ref w), some (.int x), some (.int y), some (.lst (zs.map D.str)), some (.ref M.length), d5, some (.ref (M.length + 1))]) ?_ ?_ ⟨rfl, d5, rfl⟩
    · clear d5
      rintro i d hd ρ _ ⟨rfl, d5, rfl⟩
      rw [List.getElem?_map] at hd
      obtain ⟨k, hk2, he⟩ := Option.map_eq_some_iff.mp hd
      subst he
      have hkm := List.mem_of_getElem? hk2
      have hkl := (hk (.str k) (List.mem_map_of_mem hkm)).2 k rfl
      have hi : i < zs.length := (List.getElem?_eq_some_iff.mp hk2).1
      have ht : zs.take (i + 1) = zs.take i ++ [k] := by rw [List.take_add_one, hk2]; rfl
      have hsi := (afterM_ok (e := e) (zs := zs.take i) hs0).1
      refine ⟨trivial, fun go2 hgo2 => ?_⟩
      have hL : L (zs.take (i + 1)) = [runnerO K w (tickM e k (afterM e (zs.take i) ⟨0, x, y, 0, 0, false⟩)), .lst ((stepsM e (zs.take i) ⟨0, x, y, 0, 0, false⟩).map stepD ++ [stepD (stM e (tickM e k (afterM e (zs.take i) ⟨0, x, y, 0, 0, false⟩)))])] := by
        show [_, _] = _
        rw [ht, afterM_snoc, stepsM_snoc, List.map_append]
        rfl
      rw [hL] at hgo2
      refine ⟨_, _, get_at (k := 0) rfl, by decide, rfl, M.length, w, e, _, .str k, rfl, get_at (k := 0) rfl, hw.left, hsi, rfl, fun z e => (by cases e; exact hkl), .inl ⟨k, rfl, hz k hkm, ?_⟩⟩
      rw [show (M ++ L (zs.take i)).set M.length _ = _ from set_at (k := 0)]
      refine ⟨ty_lst (get_at (k := 1) rfl), _, _, get_at (k := 0) rfl, by decide, rfl, M.length, w, _, rfl, get_at (k := 0) rfl, _, _, get_at (k := 0) rfl, by decide, rfl, M.length, w, e, _, rfl, get_at (k := 0) rfl, hw.left, le_line rfl, _, get_at (k := 1) rfl, ?_, ?_⟩
      · rw [List.length_map, stepsM_len, List.length_take]
        exact Nat.lt_of_le_of_lt (show _ ≤ 1000001 by omega) (by decide)
      · rw [set_at]
        exact hgo2 _ _ ⟨rfl, _, rfl⟩
    · rintro ρ _ ⟨rfl, d5, rfl⟩
      rw [List.length_map, List.take_length]
      exact ⟨trivial, hgo _ _ ⟨rfl, d5, rfl⟩⟩
  clear d5
  rintro _ _ ⟨rfl, d5, rfl⟩
  refine ⟨_, get_at (k := 1) rfl, ?_⟩
  rw [set_at]
  exact .inr ⟨M, Cut.same (steps_lt _ _), hq⟩

def ct_landings (K : PySem.W.Frag) : Ct := fun ds M Q E => ∃ (w : Nat) (e : Wd) (a b : D) (ks : List D), ds = [.ref w, a, b, .lst ks] ∧ preT K M E w e a b ks fun L => Q (.lst ((landsM L).map D.int)) M
-- @use M71

abbrev N_landings : List Str := ["world", "left", "top", "rows", "found", "at"]
theorem sc_landings : FnScope N_landings ["world", "left", "top", "rows"] (defScope s_landings) := ⟨rfl, rfl, rfl, by decide +kernel, rfl, by decide +kernel, by decide +kernel⟩
theorem ok_landings (T : Txt K mg base) : Ok P w K mg base 10 (He.fAd K ("landings", none)) ["world", "left", "top", "rows"] 4 (ct_landings K) := by
  obtain ⟨fd, F⟩ := T.f_landings
  obtain ⟨fd_steps, F_steps, b_steps, k_steps⟩ := ok_steps (P := P) (w := w) (base := base) T
  have nd := sc_landings.nd
  refine Ok.of F (F.bindsN fun _ _ _ _ _ _ us hl => match us, hl with | [_, _, _, _], _ => rfl) sc_landings rfl fun cdv A outer s c jx tk hp hr => ⟨_, (jss_cons (js_set (i := 4) nd rfl (by first | exact Or.inl rfl | exact Or.inr rfl) (je_call jx F_steps (hr.mono (by decide)) rfl T.g_steps k_steps b_steps (ja_cons (je_var 0 (pv 0)) (ja_cons (je_var 1 (pv 1)) (ja_cons (je_var 2 (pv 2)) (ja_cons (je_var 3 (pv 3)) ja_nil))))))
    (jss_one (js_ret (je_lc (own := [("at", 5)]) rfl nd (ji_rng2 rfl T.u_range (ja_cons je_int (ja_cons (je_callB jc_len rfl T.u_len boot_len (ja_cons (je_var 4 (pv 4)) ja_nil)) ja_nil))) (blkOk_by (N := N_landings) (sc := (defScope s_landings)) (own := [("at", 5)]) (by decide +kernel)) (fun _ _ _ _ _ => (jgc_name (i := 5) nd rfl (by first | exact Or.inl rfl | exact Or.inr rfl))) (fun _ _ _ _ _ => (jts_one (JW.pt (jw_and (jt_val (je_ix ji_seq (je_ix ji_seq (je_var 4 (pv 4)) (je_var 5 (pv 5))) je_int)) (jw_and1 (jt_not (jt_val (je_ix ji_seq (je_ix ji_seq (je_var 4 (pv 4)) (je_op jo_sub (je_var 5 (pv 5)) je_int)) je_int)))))))) (fun _ _ _ _ _ => (je_var 5 (pv 5))))))), fun ds M Q h => ?_⟩
  clear hr hp tk jx nd F_steps b_steps k_steps fd_steps F T
  obtain ⟨w, e, a, b, ks, rfl, h⟩ := h
  refine ⟨rfl, w, e, a, b, ks, rfl, h.mono fun L hl1 hl2 _ hq => ?_⟩
  refine ⟨_, rfl, ⟨by omega, by omega, by omega, ?_⟩, ?_⟩
  · rw [List.length_map]; omega
  rw [List.length_map]
  refine lc_filt _ id (landP L) trivial (by rw [upTo_len]; exact Nat.le_trans (show _ ≤ 1000001 by omega) (by decide)) (fun x hxm yes no hy hno => ?_) ?_
  · obtain ⟨k, hk⟩ := List.getElem?_of_mem hxm
    obtain ⟨hk1, rfl⟩ := upTo_get hk
    obtain ⟨p, -, p1, -, -, p2⟩ := step_at (L := L) (i := k + 1) (by omega)
    obtain ⟨q, -, q1, -, -, q2⟩ := step_at (L := L) (i := k) (by omega)
    have hlp : landP L (.int (1 + (k : Int))) = (p.2 && !q.2) := by
      show (stBl L (1 + (k : Int)).toNat && !stBl L (1 + (k : Int) - 1).toNat) = _
      rw [show (1 + (k : Int)).toNat = k + 1 by omega, show (1 + (k : Int) - 1).toNat = k by omega, p1, q1]
    rw [hlp] at hy hno
    refine ⟨_, _, rfl, p2 _ (by omega), _, rfl, fun h1 => ⟨_, _, rfl, q2 _ (by omega), _, rfl, fun h2 => hy ?_, fun h2 => hno ?_⟩, fun h1 => ff (hno ?_)⟩
    · rw [show p.2 = true from h1, show (!q.2) = true from h2]; rfl
    · rw [show (!q.2) = false from h2, Bool.and_false]
    · rw [show p.2 = false from h1]; rfl
  rw [lands_eq]
  exact .inl hq

def ct_flights (K : PySem.W.Frag) : Ct := fun ds M Q E => ∃ (w : Nat) (e : Wd) (a b : D) (ks : List D), ds = [.ref w, a, b, .lst ks] ∧ preT K M E w e a b ks fun L => Q (.lst ((goF L 0 none L).map flD)) M
-- @use M71

abbrev N_flights : List Str := ["world", "left", "top", "rows", "row", "found", "begun", "at", "place", "stands", "last", "here", "one"]
theorem sc_flights : FnScope N_flights ["world", "left", "top", "rows"] (defScope s_flights) := ⟨rfl, rfl, rfl, by decide +kernel, rfl, by decide +kernel, by decide +kernel⟩
theorem ok_flights (T : Txt K mg base) : Ok P w K mg base 10 (He.fAd K ("flights", none)) ["world", "left", "top", "rows"] 4 (ct_flights K) := by
  obtain ⟨fd, F⟩ := T.f_flights
  obtain ⟨fd_steps, F_steps, b_steps, k_steps⟩ := ok_steps (P := P) (w := w) (base := base) T
  have nd := sc_flights.nd
  refine Ok.of F (F.bindsN fun _ _ _ _ _ _ us hl => match us, hl with | [_, _, _, _], _ => rfl) sc_flights rfl fun cdv A outer s c jx tk hp hr => ⟨_, (jss_cons (js_set (i := 4) nd rfl (by first | exact Or.inl rfl | exact Or.inr rfl) (je_call jx F_steps (hr.mono (by decide)) rfl T.g_steps k_steps b_steps (ja_cons (je_var 0 (pv 0)) (ja_cons (je_var 1 (pv 1)) (ja_cons (je_var 2 (pv 2)) (ja_cons (je_var 3 (pv 3)) ja_nil))))))
    (jss_cons (js_par (i := 5) (j := 6) rfl nd rfl rfl (by decide) rfl rfl (ja_cons (je_lstM ja_nil) (ja_cons je_non ja_nil)) (by rfl))
    (jss_cons (js_for hp rfl (ji_enum rfl T.u_enumerate (ja_cons (je_var 4 (pv 4)) ja_nil)) (jg_tup rfl (jgs_cons (jg_name (i := 7) nd rfl (by first | exact Or.inl rfl | exact Or.inr rfl)) (jgs_cons (jg_tup rfl (jgs_cons (jg_name (i := 8) nd rfl (by first | exact Or.inl rfl | exact Or.inr rfl)) (jgs_cons (jg_name (i := 9) nd rfl (by first | exact Or.inl rfl | exact Or.inr rfl)) jgs_nil))) jgs_nil)))
    (jss_cons (js_if (JW.pt (jw_and (jt_not (jt_val (je_var 9 (pv 9)))) (jw_and1 (jt_cmp jo_isN (je_var 6 (pv 6)) je_non))))
    (jss_one (js_set (i := 6) nd rfl (by first | exact Or.inl rfl | exact Or.inr rfl) (je_var 7 (pv 7))))
    jss_nil)
    (jss_one (js_if (JW.pt (jw_and (jt_cmp jo_isNotN (je_var 6 (pv 6)) je_non) (jw_and1 (JW.pt (jw_or (jt_val (je_var 9 (pv 9))) (jw_or1 (jt_cmp (jo_eq (room_units hr)) (je_var 7 (pv 7)) (je_op jo_sub (je_callB jc_len rfl T.u_len boot_len (ja_cons (je_var 4 (pv 4)) ja_nil)) je_int))))))))
    (jss_cons (js_set (i := 10) nd rfl (by first | exact Or.inl rfl | exact Or.inr rfl) (je_if (jt_val (je_var 9 (pv 9))) (je_op jo_sub (je_var 7 (pv 7)) je_int) (je_var 7 (pv 7))))
    (jss_cons (js_setLc (i := 11) (own := [("one", 12)]) rfl nd rfl rfl (sw_true rfl rfl rfl (by decide +kernel)) (ji_list (je_slice (je_var 4 (pv 4)) (jo_some (je_callB (jc_max2 rfl) rfl T.u_max boot_max (ja_cons je_int (ja_cons (je_op jo_sub (je_var 6 (pv 6)) je_int) ja_nil)))) (jo_some (je_op jo_add (je_var 10 (pv 10)) je_int)))) (blkOk_by (N := N_flights) (sc := (defScope s_flights)) (own := [("one", 12)]) (by decide +kernel)) (fun _ _ _ _ _ => (jgc_name (i := 12) nd rfl (by first | exact Or.inl rfl | exact Or.inr rfl))) (fun _ _ _ _ _ => jts_nil) (fun _ _ _ _ _ => (je_ix ji_seq (je_ix ji_seq (je_var 12 (pv 12)) je_int) je_int)))
    (jss_cons (js_expr (je_bm PySem.F.plainAttrs_list PySem.F.slot_list_append PySem.F.type_list_append jm_app (je_var 5 (pv 5)) (ja_cons (je_tup (ja_cons (je_var 6 (pv 6)) (ja_cons (je_var 10 (pv 10)) (ja_cons (je_op jo_sub (je_ix ji_seq (je_var 11 (pv 11)) je_int) (je_callB (jc_minL rfl) rfl T.u_min boot_min (ja_cons (je_var 11 (pv 11)) ja_nil))) ja_nil)))) ja_nil)))
    (jss_one (js_set (i := 6) nd rfl (by first | exact Or.inl rfl | exact Or.inr rfl) je_non)))))
    jss_nil))))
    (jss_one (js_ret (je_frz (je_var 5 (pv 5)))))))), fun ds M Q h => ?_⟩
  clear hr hp tk jx nd F_steps b_steps k_steps fd_steps F T
  obtain ⟨w, e, a, b, ks, rfl, h⟩ := h
  refine ⟨rfl, w, e, a, b, ks, rfl, h.mono fun L hl1 hl2 _ hq => ?_⟩
  refine ⟨le_line rfl, ?_⟩
  try dsimp only
  generalize hR : goF L 0 none L = R at hq
  refine loop_inv _ (fun i ρ M' => ∃ (acc : List Flight) (bg : Option Nat) (z7 z8 z9 z10 z11 z12 : Option D), M' = M ++ [.lst (acc.map flD)] ∧ acc ++ goF L i bg (L.drop i) = R ∧ acc.length ≤ i ∧ (∀ b0, bg = some b0 → b0 < i) ∧ ρ = [some (.ref w), some a, some b, some (.lst ks), some (.lst (L.map stepD)), some (.ref M.length), some (optD bg), z7, z8, z9, z10, z11, z12]) ?_ ?_ ⟨[], none, none, none, none, none, none, none, rfl, hR, Nat.le_refl 0, fun _ q => (nomatch q), rfl⟩
  · rintro i d hd ρ _ ⟨acc, bg, z7, z8, z9, z10, z11, z12, rfl, hF, hal, hb, rfl⟩
    obtain ⟨y, hy, rfl⟩ := numbered_get hd
    rw [List.getElem?_map] at hy
    obtain ⟨p, hp, he⟩ := Option.map_eq_some_iff.mp hy
    subst he
    have hi := (List.getElem?_eq_some_iff.mp hp).1
    rw [List.drop_eq_getElem_cons hi, (List.getElem?_eq_some_iff.mp hp).2] at hF
    refine ⟨trivial, fun go hgo => ⟨rfl, ?_⟩⟩
    dsimp only [gsCons, gVar, gsNil]
    refine ⟨rfl, ?_⟩
    dsimp only [gsCons, gVar, gsNil]
    rw [Nat.zero_add]
    generalize hb2 : (if p.2 = false ∧ bg = none then some i else bg) = bg2
    have hb3 : ∀ b0, bg2 = some b0 → b0 ≤ i := fun b0 q => by
      rw [← hb2] at q
      split at q
      · cases q; exact Nat.le_refl i
      · exact Nat.le_of_lt (hb b0 q)
    have hb4 : ∀ b0, bg2 = some b0 → p.2 = true → b0 < i := fun b0 q r => by
      rw [← hb2] at q
      rw [if_neg (fun z => by rw [r] at z; cases z.1)] at q
      exact hb b0 q
    refine seq_via (fun ρ M' => M' = M ++ [.lst (acc.map flD)] ∧ ρ = [some (.ref w), some a, some b, some (.lst ks), some (.lst (L.map stepD)), some (.ref M.length), some (optD bg2), some (.int (i : Int)), some (.tup [.int p.1.1, .int p.1.2]), some (.bl p.2), z10, z11, z12]) (fun go2 hgo2 => ?_) ?_
    · refine ⟨fun h1 => ⟨fun h2 => ?_, fun h2 => ?_⟩, fun h1 => ff ?_⟩
      · have h1 : (!p.2) = true := h1
        have hbn : bg = none := by
          cases bg with
          | none => rfl
          | some _ => cases h2
        rw [if_pos ⟨(Bool.not_eq_true' _).mp h1, hbn⟩] at hb2
        subst hb2
        exact hgo2 _ _ ⟨rfl, rfl⟩
      · have hbn : bg ≠ none := fun z => by
          subst z; cases h2
        rw [if_neg (fun z => hbn z.2)] at hb2
        subst hb2
        exact hgo2 _ _ ⟨rfl, rfl⟩
      · have h1 : (!p.2) = false := h1
        rw [if_neg (fun z => by rw [z.1] at h1; cases h1)] at hb2
        subst hb2
        exact hgo2 _ _ ⟨rfl, rfl⟩
    rintro _ _ ⟨rfl, rfl⟩
    unfold goF at hF
    rw [hb2] at hF
    have hlast : (decide ((i : Int) = ((L.map stepD).length : Int) - 1)) = true ↔ L.drop (i + 1) = [] := by
      rw [decide_eq_true_iff, List.length_map, List.drop_eq_nil_iff]
      omega
    cases bg2 with
    | none =>
      refine ⟨fun q => (by cases q), fun _ => ff (hgo _ _ ⟨acc, none, _, _, _, _, _, _, rfl, hF, by omega, fun _ q => (nomatch q), rfl⟩)⟩
    | some b0 =>
      dsimp only at hF
      have hbi := hb3 b0 rfl
      refine ⟨fun _ => ?_, fun q => (by cases q)⟩
      have emit : ∀ (lastN : Nat) (k : SK), lastN = (if p.2 = true then i - 1 else i) → (p.2 = true ∨ L.drop (i + 1) = []) → k.nx = go → sSeq (sAsg (sLc (iSeq (sSl (sVar 4) (sPart (sCB sMax2 (sCons (sC (.int 0)) (sCons (sOp sSub (sVar 6) (sC (.int 1))) sNil)))) (sPart (sOp sAdd (sVar 10) (sC (.int 1)))))) (gVar 12) sYes (sOp sIx (sOp sIx (sVar 12) (sC (.int 0))) (sC (.int 1))) [12]) (gVar 11)) (sSeq (sExpr (sBM "list" sApp (sVar 5) (sCons (sTup (sCons (sVar 6) (sCons (sVar 10) (sCons (sOp sSub (sOp sIx (sVar 11) (sC (.int 0))) (sCB sMinL (sCons (sVar 11) sNil))) sNil)))) sNil))) (sAsg (sC .non) (gVar 6))) k [some (.ref w), some a, some b, some (.lst ks), some (.lst (L.map stepD)), some (.ref M.length), some (optD (some b0)), some (.int (i : Int)), some (.tup [.int p.1.1, .int p.1.2]), some (.bl p.2), some (.int (lastN : Int)), z11, z12] (M ++ [.lst (acc.map flD)]) := by
        intro lastN k hln hstop hk
        have hbl : b0 ≤ lastN := by
          rw [hln]
          split
          · rename_i q
            have := hb4 b0 rfl q
            omega
          · exact hbi
        have hlL : lastN < L.length := by rw [hln]; split <;> omega
        rw [if_pos hstop, ← hln] at hF
        refine ⟨_, rfl, ?_⟩
        rw [show max 0 ((b0 : Int) - 1) = ((b0 - 1 : Nat) : Int) by omega, show (lastN : Int) + 1 = ((lastN + 1 : Nat) : Int) by omega, cut_steps (by omega) (by omega)]
        refine lc_map _ (fun x => match x with
          | .tup [.tup [.int _, .int t], _] => .int t
          | _ => .non) trivial (by rw [List.length_map, List.length_take, List.length_drop]; exact Nat.le_trans (show _ ≤ 1000001 by omega) (by decide)) (fun x hxm yes no hy => ?_) ?_
        · obtain ⟨q, hq2, rfl⟩ := List.mem_map.mp hxm
          exact tt ⟨_, rfl, _, rfl, hy⟩
        rw [List.map_map, show (List.map ((fun x => match x with
          | D.tup [.tup [.int _, .int t], _] => .int t
          | _ => .non) ∘ stepD) ((L.drop (b0 - 1)).take (lastN + 1 - (b0 - 1)))) = (topsOf L (b0 - 1) (lastN + 1 - (b0 - 1))).map D.int from (by unfold topsOf; rw [List.map_map]; rfl)]
        have ht0 : topsOf L (b0 - 1) (lastN + 1 - (b0 - 1)) = topAt L (b0 - 1) :: ((L.drop (b0 - 1 + 1)).take (lastN - (b0 - 1))).map fun p => p.1.2 := by
          obtain ⟨p0, hp0, -, hp1, -⟩ := step_at (L := L) (i := b0 - 1) (by omega)
          unfold topsOf
          rw [List.drop_eq_getElem_cons (show b0 - 1 < L.length by omega), (List.getElem?_eq_some_iff.mp hp0).2, show lastN + 1 - (b0 - 1) = (lastN - (b0 - 1)) + 1 by omega, List.take_succ_cons, List.map_cons, hp1]
        refine ⟨ty_lst get_end, _, .int (topAt L (b0 - 1)), rfl, by rw [ht0]; exact atI_zero, topsOf L (b0 - 1) (lastN + 1 - (b0 - 1)), rfl, by rw [ht0]; exact Nat.succ_pos _, fun m h1 h2 => ?_⟩
        refine ⟨le_line rfl, _, get_end, ?_, ?_⟩
        · rw [List.length_map]; exact Nat.lt_of_le_of_lt (show _ ≤ 1000001 by omega) (by decide)
        rw [set_end]
        dsimp only
        rw [hgt_min hbl hlL h1 h2]
        show k.nx _ _
        rw [hk]
        refine hgo _ _ ⟨acc ++ [(b0, lastN, hgt L b0 lastN)], none, _, _, _, _, _, _, by rw [List.map_append]; rfl, ?_, by rw [List.length_append]; show acc.length + 1 ≤ i + 1; omega, fun _ q => (nomatch q), rfl⟩
        rw [List.append_assoc]
        exact hF
      refine ⟨fun h1 => tt ⟨fun _ => ?_, fun q => ?_⟩, fun h1 => ⟨_, rfl, fun h2 => ⟨fun q => ?_, fun _ => ?_⟩, fun h2 => ?_⟩⟩
      · have h1 : p.2 = true := h1
        have hlt := hb4 b0 rfl h1
        have em := fun (k : SK) (hk : k.nx = go) => emit (i - 1) k (by rw [if_pos h1]) (.inl h1) hk
        rw [show (((i - 1 : Nat) : Int)) = (i : Int) - 1 by omega] at em
        exact em _ rfl
      · have h1 : p.2 = true := h1
        rw [show p.2 = false from q] at h1; cases h1
      · have h1 : p.2 = false := h1
        rw [show p.2 = true from q] at h1; cases h1
      · have h1 : p.2 = false := h1
        exact emit i _ (by rw [h1]; rfl) (.inr (hlast.mp h2)) rfl
      · have h1 : p.2 = false := h1
        rw [if_neg (fun z => z.elim (fun z => by rw [h1] at z; cases z) fun z => by
          have := hlast.mpr z
          rw [show decide ((i : Int) = ((L.map stepD).length : Int) - 1) = false from h2] at this; cases this)] at hF
        exact hgo _ _ ⟨acc, some b0, _, _, _, _, _, _, rfl, hF, by omega, fun b1 q => (by cases q; omega), rfl⟩
  rintro ρ _ ⟨acc, bg, z7, z8, z9, z10, z11, z12, rfl, hF, hal, hb, rfl⟩
  rw [numbered_length, List.length_map, List.drop_length] at hF
  have hF : acc ++ [] = R := hF
  rw [List.append_nil] at hF
  rw [hF]
  refine ⟨trivial, _, get_end, ?_⟩
  rw [set_end]
  exact .inr ⟨M, Cut.same (flights_lt _ _), hq⟩

def ct_reach (K : PySem.W.Frag) : Ct := fun ds M Q E => ∃ (w : Nat) (e : Wd) (a b : D) (ks : List D), ds = [.ref w, a, b, .lst ks] ∧ preT K M E w e a b ks fun L => ∀ a b c d : Int, IsMin (leftsOf L) a → IsMax (leftsOf L) b → IsMin (topsAll L) c → IsMax (topsAll L) d → Q (.tup [.int a, .int b, .int c, .int d]) M
-- @use M71

abbrev N_reach : List Str := ["world", "left", "top", "rows", "row", "place", "stands", "lefts", "tops"]
theorem sc_reach : FnScope N_reach ["world", "left", "top", "rows"] (defScope s_reach) := ⟨rfl, rfl, rfl, by decide +kernel, rfl, by decide +kernel, by decide +kernel⟩
theorem ok_reach (T : Txt K mg base) : Ok P w K mg base 10 (He.fAd K ("reach", none)) ["world", "left", "top", "rows"] 4 (ct_reach K) := by
  obtain ⟨fd, F⟩ := T.f_reach
  obtain ⟨fd_steps, F_steps, b_steps, k_steps⟩ := ok_steps (P := P) (w := w) (base := base) T
  have nd := sc_reach.nd
  refine Ok.of F (F.bindsN fun _ _ _ _ _ _ us hl => match us, hl with | [_, _, _, _], _ => rfl) sc_reach rfl fun cdv A outer s c jx tk hp hr => ⟨_, (jss_cons (js_setLc (i := 4) (own := [("place", 5), ("stands", 6)]) rfl nd rfl rfl (sw_true rfl rfl rfl (by decide +kernel)) (ji_list (je_call jx F_steps (hr.mono (by decide)) rfl T.g_steps k_steps b_steps (ja_cons (je_var 0 (pv 0)) (ja_cons (je_var 1 (pv 1)) (ja_cons (je_var 2 (pv 2)) (ja_cons (je_var 3 (pv 3)) ja_nil)))))) (blkOk_by (N := N_reach) (sc := (defScope s_reach)) (own := [("place", 5), ("stands", 6)]) (by decide +kernel)) (fun _ _ _ _ _ => (jgc_tup (n := 2) rfl (jgcs_cons (jgc_name (i := 5) nd rfl (by first | exact Or.inl rfl | exact Or.inr rfl)) (jgcs_cons (jgc_name (i := 6) nd rfl (by first | exact Or.inl rfl | exact Or.inr rfl)) jgcs_nil)))) (fun _ _ _ _ _ => jts_nil) (fun _ _ _ _ _ => (je_var 5 (pv 5))))
    (jss_cons (js_par (i := 7) (j := 8) rfl nd rfl rfl (by decide) rfl rfl (ja_cons (je_lc (own := [("place", 5)]) rfl nd (ji_list (je_var 4 (pv 4))) (blkOk_by (N := N_reach) (sc := (defScope s_reach)) (own := [("place", 5)]) (by decide +kernel)) (fun _ _ _ _ _ => (jgc_name (i := 5) nd rfl (by first | exact Or.inl rfl | exact Or.inr rfl))) (fun _ _ _ _ _ => jts_nil) (fun _ _ _ _ _ => (je_ix ji_seq (je_var 5 (pv 5)) je_int))) (ja_cons (je_lc (own := [("place", 5)]) rfl nd (ji_list (je_var 4 (pv 4))) (blkOk_by (N := N_reach) (sc := (defScope s_reach)) (own := [("place", 5)]) (by decide +kernel)) (fun _ _ _ _ _ => (jgc_name (i := 5) nd rfl (by first | exact Or.inl rfl | exact Or.inr rfl))) (fun _ _ _ _ _ => jts_nil) (fun _ _ _ _ _ => (je_ix ji_seq (je_var 5 (pv 5)) je_int))) ja_nil)) (by rfl))
    (jss_one (js_ret (je_tup (ja_cons (je_callB (jc_minL rfl) rfl T.u_min boot_min (ja_cons (je_var 7 (pv 7)) ja_nil)) (ja_cons (je_callB (jc_maxL rfl) rfl T.u_max boot_max (ja_cons (je_var 7 (pv 7)) ja_nil)) (ja_cons (je_callB (jc_minL rfl) rfl T.u_min boot_min (ja_cons (je_var 8 (pv 8)) ja_nil)) (ja_cons (je_callB (jc_maxL rfl) rfl T.u_max boot_max (ja_cons (je_var 8 (pv 8)) ja_nil)) ja_nil))))))))), fun ds M Q h => ?_⟩
  clear hr hp tk jx nd F_steps b_steps k_steps fd_steps F T
  obtain ⟨w, e, a, b, ks, rfl, h⟩ := h
  refine ⟨rfl, w, e, a, b, ks, rfl, h.mono fun L hl1 hl2 _ hq => ?_⟩
  have hll : L.length ≤ sizeLine := Nat.le_trans hl2 (by decide)
  refine lc_map _ (fun x => match x with
    | .tup [p, _] => p
    | _ => .non) trivial (by rw [List.length_map]; exact hll) (fun x hxm yes no hy => ?_) ?_
  · obtain ⟨p, hp, rfl⟩ := List.mem_map.mp hxm
    exact ⟨rfl, tt hy⟩
  rw [List.map_map, show ((fun x => match x with
    | D.tup [p, _] => p
    | _ => .non) ∘ stepD) = fun p => D.tup [.int p.1.1, .int p.1.2] from rfl]
  dsimp only [gVar]
  refine lc_map _ (fun x => match x with
    | .tup [.int l, .int _] => .int l
    | _ => .non) trivial (by rw [List.length_map]; exact hll) (fun x hxm yes no hy => ?_) ?_
  · obtain ⟨p, hp, rfl⟩ := List.mem_map.mp hxm
    exact tt ⟨_, rfl, hy⟩
  refine lc_map _ (fun x => match x with
    | .tup [.int _, .int t] => .int t
    | _ => .non) trivial (by rw [List.length_map]; exact hll) (fun x hxm yes no hy => ?_) ?_
  · obtain ⟨p, hp, rfl⟩ := List.mem_map.mp hxm
    exact tt ⟨_, rfl, hy⟩
  rw [List.map_map, List.map_map]
  have e1 : L.map ((fun x => match x with
    | D.tup [.int l, .int _] => .int l
    | _ => .non) ∘ fun p => D.tup [.int p.1.1, .int p.1.2]) = (leftsOf L).map D.int := by unfold leftsOf; rw [List.map_map]; rfl
  have e2 : L.map ((fun x => match x with
    | D.tup [.int _, .int t] => .int t
    | _ => .non) ∘ fun p => D.tup [.int p.1.1, .int p.1.2]) = (topsAll L).map D.int := by unfold topsAll; rw [List.map_map]; rfl
  rw [e1, e2]
  have l1 : 0 < (leftsOf L).length := by unfold leftsOf; rw [List.length_map]; omega
  have l2 : 0 < (topsAll L).length := by unfold topsAll; rw [List.length_map]; omega
  exact ⟨_, rfl, l1, fun a a1 a2 => ⟨_, rfl, l1, fun b b1 b2 => ⟨_, rfl, l2, fun c c1 c2 => ⟨_, rfl, l2, fun d d1 d2 => ⟨le_line rfl, .inl (hq a b c d ⟨a1, a2⟩ ⟨b1, b2⟩ ⟨c1, c2⟩ ⟨d1, d2⟩)⟩⟩⟩⟩⟩

def padK (zs : List D) (n : Nat) : List D := zs ++ List.replicate (n - zs.length) (.str "")
def ct_apart (K : PySem.W.Frag) : Ct := fun ds M Q E => ∃ (w : Nat) (e : Wd) (a b : D) (k1 k2 : List D), ds = [.ref w, a, b, .lst k1, .lst k2] ∧ k1.length ≤ 10000 ∧ k2.length ≤ 10000 ∧
  preT K M E w e a b (padK k1 (max k1.length k2.length)) fun L1 => preT K M E w e a b (padK k2 (max k1.length k2.length)) fun L2 => Q (optD (apM L1 L2 (max k1.length k2.length + 1))) M
theorem rep_flat (x : D) : ∀ k : Nat, (List.replicate k [x]).flatten = List.replicate k x
  | 0 => rfl
  | k + 1 => by rw [List.replicate_succ, List.flatten_cons, rep_flat x k, List.replicate_succ]; rfl
theorem find_pre {α : Type} {p : α → Bool} {l : List α} {i : Nat} {a : α} (h : l[i]? = some a) (h1 : ∀ j b, j < i → l[j]? = some b → p b = false) (h2 : p a = true) : l.find? p = some a := by
  induction l generalizing i with
  | nil => cases h
  | cons x l ih =>
    cases i with
    | zero =>
      cases h
      rw [List.find?_cons, h2]
    | succ i =>
      rw [List.find?_cons, h1 0 x (Nat.succ_pos i) rfl]
      exact ih (by simpa using h) fun j b hj hb => h1 (j + 1) b (by omega) (by simpa using hb)
-- @use M71

abbrev N_apart : List Str := ["world", "left", "top", "one", "other", "many", "first", "second", "at"]
theorem sc_apart : FnScope N_apart ["world", "left", "top", "one", "other"] (defScope s_apart) := ⟨rfl, rfl, rfl, by decide +kernel, rfl, by decide +kernel, by decide +kernel⟩
theorem ok_apart (T : Txt K mg base) : Ok P w K mg base 10 (He.fAd K ("apart", none)) ["world", "left", "top", "one", "other"] 5 (ct_apart K) := by
  obtain ⟨fd, F⟩ := T.f_apart
  obtain ⟨fd_steps, F_steps, b_steps, k_steps⟩ := ok_steps (P := P) (w := w) (base := base) T
  have nd := sc_apart.nd
  refine Ok.of F (F.bindsN fun _ _ _ _ _ _ us hl => match us, hl with | [_, _, _, _, _], _ => rfl) sc_apart rfl fun cdv A outer s c jx tk hp hr => ⟨_, (jss_cons (js_set (i := 5) nd rfl (by first | exact Or.inl rfl | exact Or.inr rfl) (je_callB (jc_max2 rfl) rfl T.u_max boot_max (ja_cons (je_callB jc_len rfl T.u_len boot_len (ja_cons (je_var 3 (pv 3)) ja_nil)) (ja_cons (je_callB jc_len rfl T.u_len boot_len (ja_cons (je_var 4 (pv 4)) ja_nil)) ja_nil))))
    (jss_cons (js_set (i := 6) nd rfl (by first | exact Or.inl rfl | exact Or.inr rfl) (je_call jx F_steps (hr.mono (by decide)) rfl T.g_steps k_steps b_steps (ja_cons (je_var 0 (pv 0)) (ja_cons (je_var 1 (pv 1)) (ja_cons (je_var 2 (pv 2)) (ja_cons (je_op jo_add (je_callTy jc_list rfl T.u_list boot_list (ja_cons (je_var 3 (pv 3)) ja_nil)) (je_op jo_mul (je_lst (ja_cons je_str ja_nil)) (je_op jo_sub (je_var 5 (pv 5)) (je_callB jc_len rfl T.u_len boot_len (ja_cons (je_var 3 (pv 3)) ja_nil))))) ja_nil))))))
    (jss_cons (js_set (i := 7) nd rfl (by first | exact Or.inl rfl | exact Or.inr rfl) (je_call jx F_steps (hr.mono (by decide)) rfl T.g_steps k_steps b_steps (ja_cons (je_var 0 (pv 0)) (ja_cons (je_var 1 (pv 1)) (ja_cons (je_var 2 (pv 2)) (ja_cons (je_op jo_add (je_callTy jc_list rfl T.u_list boot_list (ja_cons (je_var 4 (pv 4)) ja_nil)) (je_op jo_mul (je_lst (ja_cons je_str ja_nil)) (je_op jo_sub (je_var 5 (pv 5)) (je_callB jc_len rfl T.u_len boot_len (ja_cons (je_var 4 (pv 4)) ja_nil))))) ja_nil))))))
    (jss_cons (js_for hp rfl (ji_rng1 rfl T.u_range (ja_cons (je_op jo_add (je_var 5 (pv 5)) je_int) ja_nil)) (jg_name (i := 8) nd rfl (by first | exact Or.inl rfl | exact Or.inr rfl))
    (jss_one (js_if (jt_cmp (jo_ne (room_units hr)) (je_ix ji_seq (je_ix ji_seq (je_var 6 (pv 6)) (je_var 8 (pv 8))) je_int) (je_ix ji_seq (je_ix ji_seq (je_var 7 (pv 7)) (je_var 8 (pv 8))) je_int))
    (jss_one (js_ret (je_var 8 (pv 8))))
    jss_nil)))
    (jss_one (js_ret je_non)))))), fun ds M Q h => ?_⟩
  clear hr hp tk jx nd F_steps b_steps k_steps fd_steps F T
  obtain ⟨w, e, a, b, k1, k2, rfl, hk1, hk2, h⟩ := h
  have pad : ∀ k : List D, k.length ≤ 10000 → k.length ≤ max k1.length k2.length → k ++ (List.replicate (max (k1.length : Int) (k2.length : Int) - (k.length : Int)).toNat [D.str ""]).flatten = padK k (max k1.length k2.length) := fun k h1 h2 => by
    unfold padK
    rw [rep_flat, show (max (k1.length : Int) (k2.length : Int) - (k.length : Int)).toNat = max k1.length k2.length - k.length by omega]
  have padl : ∀ k : List D, k.length ≤ max k1.length k2.length → (padK k (max k1.length k2.length)).length = max k1.length k2.length := fun k h1 => by
    unfold padK
    rw [List.length_append, List.length_replicate]; omega
  have small : ∀ n : Nat, n ≤ 20000 → n ≤ sizeLine := fun n hn => Nat.le_trans hn (by decide)
  refine ⟨_, rfl, _, rfl, ?_⟩
  dsimp only [gVar]
  refine ⟨_, .inl rfl, le_line rfl, _, rfl, _, rfl, by omega, by omega, ?_, _, _, rfl, rfl, ?_, ?_⟩
  · show 1 * _ ≤ _
    exact small _ (by omega)
  · rw [rep_flat, List.length_replicate]; exact small _ (by omega)
  rw [pad k1 hk1 (Nat.le_max_left _ _)]
  refine ⟨rfl, w, e, a, b, _, rfl, h.mono fun L1 hl1 hl2 hl3 h => ?_⟩
  rw [padl k1 (Nat.le_max_left _ _)] at hl3
  refine ⟨_, .inl rfl, le_line rfl, _, rfl, _, rfl, by omega, by omega, ?_, _, _, rfl, rfl, ?_, ?_⟩
  · show 1 * _ ≤ _
    exact small _ (by omega)
  · rw [rep_flat, List.length_replicate]; exact small _ (by omega)
  rw [pad k2 hk2 (Nat.le_max_right _ _)]
  refine ⟨rfl, w, e, a, b, _, rfl, h.mono fun L2 hm1 hm2 hm3 hq => ?_⟩
  rw [padl k2 (Nat.le_max_right _ _)] at hm3
  refine ⟨⟨by omega, by omega⟩, ?_⟩
  rw [show (max (k1.length : Int) (k2.length : Int) + 1).toNat = max k1.length k2.length + 1 by omega]
  generalize hN : max k1.length k2.length = N at hl3 hm3 hq
  refine loop_inv _ (fun i ρ M' => M' = M ∧ (∀ j, j < i → placeAt L1 j = placeAt L2 j) ∧ ∃ z8, ρ = [some (.ref w), some a, some b, some (.lst k1), some (.lst k2), some (.int (max (k1.length : Int) (k2.length : Int))), some (.lst (L1.map stepD)), some (.lst (L2.map stepD)), z8]) ?_ ?_ ⟨rfl, fun j q => absurd q (Nat.not_lt_zero j), none, rfl⟩
  · rintro i d hd ρ _ ⟨rfl, hsame, z8, rfl⟩
    obtain ⟨hi, rfl⟩ := upTo_get hd
    obtain ⟨p, -, -, -, p1, p2⟩ := step_at (L := L1) (i := i) (by omega)
    obtain ⟨q, -, -, -, q1, q2⟩ := step_at (L := L2) (i := i) (by omega)
    refine ⟨trivial, fun go hgo => ⟨_, _, rfl, p2 _ (by omega), _, rfl, _, _, rfl, q2 _ (by omega), _, rfl, _, _, rfl, rfl, dep_pair, ?_⟩⟩
    rw [ne_pair]
    refine ⟨fun h1 => ?_, fun h1 => ?_⟩
    · refine .inl ?_
      have hne : ¬ placeAt L1 i = placeAt L2 i := fun z => by
        rw [p1, q1] at z
        rw [z, decide_eq_true rfl, decide_eq_true rfl] at h1; cases h1
      have : apM L1 L2 (N + 1) = some i := by
        refine find_pre (i := i) (by rw [List.getElem?_range (by omega)]) (fun j b hj hb => ?_) (by rw [decide_eq_false hne]; rfl)
        rw [List.getElem?_range (by omega)] at hb
        cases hb
        rw [decide_eq_true (hsame j hj)]; rfl
      rw [this] at hq
      rw [show D.int (0 + (i : Int)) = optD (some i) by show _ = D.int (i : Int); rw [Int.zero_add]]
      exact hq
    · refine hgo _ _ ⟨rfl, fun j hj => ?_, _, rfl⟩
      by_cases q3 : j = i
      · subst q3
        rw [p1, q1]
        have h2 : (decide (p.1.1 = q.1.1) && decide (p.1.2 = q.1.2)) = true := by
          cases h4 : (decide (p.1.1 = q.1.1) && decide (p.1.2 = q.1.2)) with
          | true => rfl
          | false => rw [h4] at h1; cases h1
        rw [Bool.and_eq_true, decide_eq_true_iff, decide_eq_true_iff] at h2
        exact Prod.ext h2.1 h2.2
      · exact hsame j (by omega)
  rintro ρ _ ⟨rfl, hsame, z8, rfl⟩
  rw [upTo_len] at hsame
  refine ⟨trivial, .inl ?_⟩
  have : apM L1 L2 (N + 1) = none := by
    unfold apM
    rw [List.find?_eq_none]
    intro j hj
    rw [decide_eq_true (hsame j (List.mem_range.mp hj))]
    exact Bool.false_ne_true
  rw [this] at hq
  exact hq

def ct__law_cell : Ct := fun ds M Q _ => ∃ ns k, ds = [.scr ns, .int k] ∧ 0 ≤ k ∧ k < 2 ^ 60 ∧ ns.length ≤ 63 ∧ ∀ i, Q (.int i) M

abbrev N__law_cell : List Str := ["_law_script", "_law_k"]
theorem sc__law_cell : FnScope N__law_cell ["_law_script", "_law_k"] (defScope s__law_cell) := ⟨rfl, rfl, rfl, by decide +kernel, rfl, by decide +kernel, by decide +kernel⟩
theorem ok__law_cell (T : Txt K mg base) : Ok P w K mg base 1 (He.fAd K ("_law_cell", none)) ["_law_script", "_law_k"] 2 ct__law_cell := by
  obtain ⟨fd, F⟩ := T.f__law_cell
  have nd := sc__law_cell.nd
  refine Ok.of F (F.bindsN fun _ _ _ _ _ _ us hl => match us, hl with | [_, _], _ => rfl) sc__law_cell rfl fun cdv A outer s c jx tk hp hr => ⟨_, (jss_cons (js_if (jt_cmp (jo_eq (room_units hr)) (je_var 0 (pv 0)) (je_lst ja_nil))
    (jss_one (js_ret (je_op jo_mul (je_var 1 (pv 1)) je_int)))
    jss_nil)
    (jss_one (js_ret (je_op jo_add (je_ix ji_seq (je_var 0 (pv 0)) (je_op jo_mod (je_var 1 (pv 1)) (je_callB jc_len rfl T.u_len boot_len (ja_cons (je_var 0 (pv 0)) ja_nil)))) (je_op jo_mul (je_op jo_div (je_var 1 (pv 1)) (je_callB jc_len rfl T.u_len boot_len (ja_cons (je_var 0 (pv 0)) ja_nil))) je_int))))), fun ds M Q h => ?_⟩
  clear hr hp tk jx nd F T
  obtain ⟨ns, k, rfl, k0, k1, hn, hq⟩ := h
  refine ⟨le_line rfl, _, _, rfl, rfl, by show min _ 1 ≤ 60; omega, fun h1 => ?_, fun h1 => ?_⟩
  · exact ⟨.inl (.inr ⟨by decide, by decide⟩), .inl (hq _)⟩
  · have hne : ns ≠ [] := fun z => by rw [z] at h1; cases h1
    have hl : 0 < ns.length := List.length_pos_iff.mpr hne
    have hL : ((ns.map D.int).length : Int) = (ns.length : Int) := by rw [List.length_map]
    have m0 : 0 ≤ k % (ns.length : Int) := Int.emod_nonneg _ (by omega)
    have m1 : k % (ns.length : Int) < (ns.length : Int) := Int.emod_lt_of_pos _ (by omega)
    refine ⟨_, rfl, ?_⟩
    rw [hL]
    obtain ⟨j, hj⟩ := Int.eq_ofNat_of_zero_le m0
    have hj2 : j < ns.length := by omega
    refine ⟨by omega, _, .int ns[j], rfl, ?_, _, rfl, ?_⟩
    · rw [hj]
      exact atI_nat (by rw [List.getElem?_map, List.getElem?_eq_getElem hj2]; rfl)
    · rw [hL]
      exact ⟨⟨by omega, log9000 (by omega)⟩, .inl (.inr ⟨by decide, by decide⟩), .inl (hq _)⟩

def ct__law_drawn : Ct := fun ds M Q _ => ∃ c k, ds = [.int c, .int k] ∧ ∀ i, 0 ≤ i → Q (.int i) M

abbrev N__law_drawn : List Str := ["_law_cell_here", "_law_k", "_law_more"]
theorem sc__law_drawn : FnScope N__law_drawn ["_law_cell_here", "_law_k"] (defScope s__law_drawn) := ⟨rfl, rfl, rfl, by decide +kernel, rfl, by decide +kernel, by decide +kernel⟩
theorem ok__law_drawn (T : Txt K mg base) : Ok P w K mg base 1 (He.fAd K ("_law_drawn", none)) ["_law_cell_here", "_law_k"] 2 ct__law_drawn := by
  obtain ⟨fd, F⟩ := T.f__law_drawn
  have nd := sc__law_drawn.nd
  refine Ok.of F (F.bindsN fun _ _ _ _ _ _ us hl => match us, hl with | [_, _], _ => rfl) sc__law_drawn rfl fun cdv A outer s c jx tk hp hr => ⟨_, (jss_cons (js_set (i := 2) nd rfl (by first | exact Or.inl rfl | exact Or.inr rfl) (je_op jo_mod (je_op jo_add (je_op jo_mul (je_var 0 (pv 0)) je_int) (je_op jo_mul (je_op jo_add (je_var 1 (pv 1)) je_int) je_int)) je_int))
    (jss_cons (js_set (i := 2) nd rfl (by first | exact Or.inl rfl | exact Or.inr rfl) (je_op jo_mod (je_op jo_mul (je_var 2 (pv 2)) (je_var 2 (pv 2))) je_int))
    (jss_cons (js_set (i := 2) nd rfl (by first | exact Or.inl rfl | exact Or.inr rfl) (je_op jo_mul (je_op jo_mul (je_op jo_add (je_op jo_mod (je_var 2 (pv 2)) je_int) je_int) (je_op jo_add (je_op jo_div (je_var 2 (pv 2)) je_int) je_int)) (je_var 2 (pv 2))))
    (jss_one (js_ret (je_op jo_mod (je_var 2 (pv 2)) je_int)))))), fun ds M Q h => ?_⟩
  clear hr hp tk jx nd F T
  obtain ⟨c0, k, rfl, hq⟩ := h
  have b1 : ∀ x : Int, 0 ≤ x % 340282366920938463463374607431768211507 ∧ (x % 340282366920938463463374607431768211507).natAbs < 2 ^ 129 := fun x => by
    have h0 := Int.emod_nonneg x (b := 340282366920938463463374607431768211507) (by decide)
    have h1 := Int.emod_lt_of_pos x (b := 340282366920938463463374607431768211507) (by decide)
    exact ⟨h0, by omega⟩
  refine ⟨.inl (.inr ⟨by decide, by decide⟩), .inl (.inr ⟨by decide, by decide⟩), by decide, ?_⟩
  generalize hx : (c0 * 6364136223846793005 + (k + 1) * 1442695040888963407) % 340282366920938463463374607431768211507 = x
  have bx := hx ▸ b1 (c0 * 6364136223846793005 + (k + 1) * 1442695040888963407)
  refine ⟨.inr (wide_mul bx.2 bx.2 (by decide) (by decide) (by decide)), by decide, ?_⟩
  have y0 := Int.emod_nonneg (x * x) (b := 340282366920938463463374607431768211297) (by decide)
  have y1 := Int.emod_lt_of_pos (x * x) (b := 340282366920938463463374607431768211297) (by decide)
  generalize hy : x * x % 340282366920938463463374607431768211297 = y at y0 y1
  have z0 := Int.emod_nonneg y (b := 18446744073709551557) (by decide)
  have z1 := Int.emod_lt_of_pos y (b := 18446744073709551557) (by decide)
  have w0 : 0 ≤ y / 18446744073709551557 := Int.ediv_nonneg y0 (by decide)
  have w1 : y / 18446744073709551557 < 2 ^ 70 := Int.ediv_lt_of_lt_mul (by decide) (by omega)
  refine ⟨by decide, ⟨by decide, by decide⟩, .inl (.inl ⟨by omega, by omega⟩), ?_⟩
  have a1 : (y % 18446744073709551557 + 1).natAbs < 2 ^ 65 := by omega
  have a2 : (y / 18446744073709551557 + 1).natAbs < 2 ^ 71 := by omega
  refine ⟨.inr (wide_mul (wide_lt a1 a2) (b := 129) (by omega) (by decide) (by decide) (by decide)), by decide, .inl (hq _ (b1 _).1)⟩

/-- the word of a refusal, by its class -/
def ct__law_word (K : PySem.W.Frag) : Addr → Mem → SQ → Prop := fun C M Q => ∃ x : Str, x ∈ (["BadKeys", "BadPlace", "BadCourse", "Nothing"] : List Str) ∧ C = He.ga K x ∧ Q (.tup [.str (Str.ofString "refused"), .str x]) M
theorem ec__law_word {C : Addr} {M : Mem} {Q : SQ} (T : Txt K mg base) (h : ct__law_word K C M Q) : ExcC K C := by
  obtain ⟨x, hx, rfl, _⟩ := h
  simp only [List.mem_cons, List.not_mem_nil, or_false] at hx
  rcases hx with rfl | rfl | rfl | rfl
  · exact T.ec_BadKeys
  · exact T.ec_BadPlace
  · exact T.ec_BadCourse
  · exact T.ec_Nothing

abbrev N__law_word : List Str := ["_law_e", "_law_flags", "_law_flag", "_law_words"]
theorem sc__law_word : FnScope N__law_word ["_law_e"] (defScope s__law_word) := ⟨rfl, rfl, rfl, by decide +kernel, rfl, by decide +kernel, by decide +kernel⟩
theorem ok__law_word (T : Txt K mg base) : OkW P w K mg base 1 (He.fAd K ("_law_word", none)) "_law_e" (ct__law_word K) := by
  obtain ⟨fd, F⟩ := T.f__law_word
  have nd := sc__law_word.nd
  refine ⟨fd, defJE F sc__law_word (fun cdv A outer s H E p C c jx hot hpin held hr M Q h => ?_), F.bindsN (fun _ _ _ _ _ _ us hl => match us, hl with | [_], _ => rfl), F.kp⟩
  obtain ⟨EC, h⟩ : ExcC K C ∧ ct__law_word K C M Q := ⟨ec__law_word T h, h⟩
  refine ⟨_, (jss_cons (js_set (i := 1) nd rfl (by first | exact Or.inl rfl | exact Or.inr rfl) (je_lst (ja_cons (je_isP hpin EC held.1.zc held.2 rfl T.u_isinstance (je_var 0 (pv 0)) (pe_glob (v := .ref _) rfl T.g_BadKeys rfl) (fun _ z => z)) (ja_cons (je_isP hpin EC held.1.zc held.2 rfl T.u_isinstance (je_var 0 (pv 0)) (pe_glob (v := .ref _) rfl T.g_BadLift rfl) (fun _ z => z)) (ja_cons (je_isP hpin EC held.1.zc held.2 rfl T.u_isinstance (je_var 0 (pv 0)) (pe_glob (v := .ref _) rfl T.g_BadMap rfl) (fun _ z => z)) (ja_cons (je_isP hpin EC held.1.zc held.2 rfl T.u_isinstance (je_var 0 (pv 0)) (pe_glob (v := .ref _) rfl T.g_BadPlace rfl) (fun _ z => z)) ja_nil))))))
    (jss_cons (js_set (i := 1) nd rfl (by first | exact Or.inl rfl | exact Or.inr rfl) (je_op jo_add (je_var 1 (pv 1)) (je_lst (ja_cons (je_isP hpin EC held.1.zc held.2 rfl T.u_isinstance (je_var 0 (pv 0)) (pe_glob (v := .ref _) rfl T.g_BadText rfl) (fun _ z => z)) (ja_cons (je_isP hpin EC held.1.zc held.2 rfl T.u_isinstance (je_var 0 (pv 0)) (pe_glob (v := .ref _) rfl T.g_BadTime rfl) (fun _ z => z)) (ja_cons (je_isP hpin EC held.1.zc held.2 rfl T.u_isinstance (je_var 0 (pv 0)) (pe_glob (v := .ref _) rfl T.g_BadCourse rfl) (fun _ z => z)) (ja_cons (je_isP hpin EC held.1.zc held.2 rfl T.u_isinstance (je_var 0 (pv 0)) (pe_glob (v := .ref _) rfl T.g_Nothing rfl) (fun _ z => z)) ja_nil)))))))
    (jss_cons (js_if (JW.pt (jw_or (jt_cmp (jo_ne (roomH_units hr)) (je_callB (jc_sumH hot) rfl T.u_sum boot_sum (ja_cons (je_lcH (own := [("_law_flag", 2)]) hot nd (je_var 1 (pv 1)) (blkOk_by (N := N__law_word) (sc := (defScope s__law_word)) (own := [("_law_flag", 2)]) (by decide +kernel)) (fun _ _ _ _ _ _ => (jgc_name (i := 2) nd rfl (by first | exact Or.inl rfl | exact Or.inr rfl))) (fun _ _ _ _ _ _ => (je_callTy jc_int rfl T.u_int boot_int (ja_cons (je_var 2 (pv 2)) ja_nil)))) ja_nil)) je_int) (jw_or1 (jt_not (jt_val (je_isP hpin EC held.1.zc held.2 rfl T.u_isinstance (je_var 0 (pv 0)) (pe_bltn (v := .ty "ValueError") rfl T.u_ValueError rfl rfl) (fun _ z => z)))))))
    (jss_one (js_ret (je_tup (ja_cons je_str (ja_cons je_str ja_nil)))))
    jss_nil)
    (jss_cons (js_set (i := 3) nd rfl (by first | exact Or.inl rfl | exact Or.inr rfl) (je_lst (ja_cons je_str (ja_cons je_str (ja_cons je_str (ja_cons je_str (ja_cons je_str (ja_cons je_str (ja_cons je_str (ja_cons je_str ja_nil))))))))))
    (jss_one (js_ret (je_tup (ja_cons je_str (ja_cons (je_ix ji_seq (je_var 3 (pv 3)) (je_bm PySem.F.plainAttrs_list PySem.F.slot_list_index PySem.F.type_list_index jm_indexB (je_var 1 (pv 1)) (ja_cons je_bl ja_nil))) ja_nil))))))))), ?_⟩
  obtain ⟨x, hx, rfl, hq⟩ := h
  simp only [List.mem_cons, List.not_mem_nil, or_false] at hx
  rcases hx with rfl | rfl | rfl | rfl
  · refine ⟨rfl, _, T.ki_BadKeys_BadKeys, rfl, _, T.ki_BadKeys_BadLift, rfl, _, T.ki_BadKeys_BadMap, rfl, _, T.ki_BadKeys_BadPlace, ?_⟩
    refine ⟨le_line rfl, ?_⟩
    refine ⟨rfl, _, T.ki_BadKeys_BadText, rfl, _, T.ki_BadKeys_BadTime, rfl, _, T.ki_BadKeys_BadCourse, rfl, _, T.ki_BadKeys_Nothing, le_line rfl, ?_⟩
    refine ⟨_, _, rfl, rfl, le_line rfl, ?_⟩
    try dsimp only
    iterate 8 refine ⟨trivial, ⟨fun _ => ⟨lt_line (by decide), ?_⟩, fun z => nomatch z⟩⟩
    refine ⟨trivial, ⟨[1, 0, 0, 0, 0, 0, 0, 0], rfl, ?_⟩⟩
    refine ff ?_
    refine ⟨rfl, _, T.ki_BadKeys_ValueError, ?_⟩
    refine ff ?_
    refine ⟨le_line rfl, ?_⟩
    try dsimp only
    refine ⟨rfl, [true, false, false, false, false, false, false, false], 0, rfl, rfl, fun m hm => absurd hm (by omega), ?_⟩
    refine ⟨_, _, rfl, rfl, ?_⟩
    exact ⟨le_line rfl, .inl hq⟩
  · refine ⟨rfl, _, T.ki_BadPlace_BadKeys, rfl, _, T.ki_BadPlace_BadLift, rfl, _, T.ki_BadPlace_BadMap, rfl, _, T.ki_BadPlace_BadPlace, ?_⟩
    refine ⟨le_line rfl, ?_⟩
    refine ⟨rfl, _, T.ki_BadPlace_BadText, rfl, _, T.ki_BadPlace_BadTime, rfl, _, T.ki_BadPlace_BadCourse, rfl, _, T.ki_BadPlace_Nothing, le_line rfl, ?_⟩
    refine ⟨_, _, rfl, rfl, le_line rfl, ?_⟩
    try dsimp only
    iterate 8 refine ⟨trivial, ⟨fun _ => ⟨lt_line (by decide), ?_⟩, fun z => nomatch z⟩⟩
    refine ⟨trivial, ⟨[0, 0, 0, 1, 0, 0, 0, 0], rfl, ?_⟩⟩
    refine ff ?_
    refine ⟨rfl, _, T.ki_BadPlace_ValueError, ?_⟩
    refine ff ?_
    refine ⟨le_line rfl, ?_⟩
    try dsimp only
    refine ⟨rfl, [false, false, false, true, false, false, false, false], 3, rfl, rfl, fun m hm => (by match m, hm with | 0, _ => rfl | 1, _ => rfl | 2, _ => rfl), ?_⟩
    refine ⟨_, _, rfl, rfl, ?_⟩
    exact ⟨le_line rfl, .inl hq⟩
  · refine ⟨rfl, _, T.ki_BadCourse_BadKeys, rfl, _, T.ki_BadCourse_BadLift, rfl, _, T.ki_BadCourse_BadMap, rfl, _, T.ki_BadCourse_BadPlace, ?_⟩
    refine ⟨le_line rfl, ?_⟩
    refine ⟨rfl, _, T.ki_BadCourse_BadText, rfl, _, T.ki_BadCourse_BadTime, rfl, _, T.ki_BadCourse_BadCourse, rfl, _, T.ki_BadCourse_Nothing, le_line rfl, ?_⟩
    refine ⟨_, _, rfl, rfl, le_line rfl, ?_⟩
    try dsimp only
    iterate 8 refine ⟨trivial, ⟨fun _ => ⟨lt_line (by decide), ?_⟩, fun z => nomatch z⟩⟩
    refine ⟨trivial, ⟨[0, 0, 0, 0, 0, 0, 1, 0], rfl, ?_⟩⟩
    refine ff ?_
    refine ⟨rfl, _, T.ki_BadCourse_ValueError, ?_⟩
    refine ff ?_
    refine ⟨le_line rfl, ?_⟩
    try dsimp only
    refine ⟨rfl, [false, false, false, false, false, false, true, false], 6, rfl, rfl, fun m hm => (by match m, hm with | 0, _ => rfl | 1, _ => rfl | 2, _ => rfl | 3, _ => rfl | 4, _ => rfl | 5, _ => rfl), ?_⟩
    refine ⟨_, _, rfl, rfl, ?_⟩
    exact ⟨le_line rfl, .inl hq⟩
  · refine ⟨rfl, _, T.ki_Nothing_BadKeys, rfl, _, T.ki_Nothing_BadLift, rfl, _, T.ki_Nothing_BadMap, rfl, _, T.ki_Nothing_BadPlace, ?_⟩
    refine ⟨le_line rfl, ?_⟩
    refine ⟨rfl, _, T.ki_Nothing_BadText, rfl, _, T.ki_Nothing_BadTime, rfl, _, T.ki_Nothing_BadCourse, rfl, _, T.ki_Nothing_Nothing, le_line rfl, ?_⟩
    refine ⟨_, _, rfl, rfl, le_line rfl, ?_⟩
    try dsimp only
    iterate 8 refine ⟨trivial, ⟨fun _ => ⟨lt_line (by decide), ?_⟩, fun z => nomatch z⟩⟩
    refine ⟨trivial, ⟨[0, 0, 0, 0, 0, 0, 0, 1], rfl, ?_⟩⟩
    refine ff ?_
    refine ⟨rfl, _, T.ki_Nothing_ValueError, ?_⟩
    refine ff ?_
    refine ⟨le_line rfl, ?_⟩
    try dsimp only
    refine ⟨rfl, [false, false, false, false, false, false, false, true], 7, rfl, rfl, fun m hm => (by match m, hm with | 0, _ => rfl | 1, _ => rfl | 2, _ => rfl | 3, _ => rfl | 4, _ => rfl | 5, _ => rfl | 6, _ => rfl), ?_⟩
    refine ⟨_, _, rfl, rfl, ?_⟩
    exact ⟨le_line rfl, .inl hq⟩

abbrev tabT (K : PySem.W.Frag) : MO := .tab (He.tabOf K (He.codeOf K ("_law_trails_bad", none))) (Str.ofString "_law_trails_bad.<locals>.<lambda>")
def tRows : List Str := [Str.ofString "....", Str.ofString "....", Str.ofString "####"]
theorem grid_t : Grid tRows 4 3 := ⟨rfl, by decide, by decide, by decide, by decide, by decide +kernel, by decide +kernel⟩
def tE : Wd := ⟨tRows, 4, 3, []⟩
theorem tE_ok : tE.ok := ⟨grid_t, fun z hz => (nomatch hz), by decide⟩
theorem get_midF {B E F : Mem} {x : MO} : (B ++ [x] ++ E ++ F)[B.length]? = some x := get_left get_midE
theorem set_midF {B E F : Mem} {x y : MO} : (B ++ [x] ++ E ++ F).set B.length y = B ++ [y] ++ (E ++ F) := by rw [List.append_assoc, set_midE]
theorem app4 (M E F : Mem) (x : MO) : M ++ E ++ [x] ++ F = M ++ (E ++ [x] ++ F) := by simp only [List.append_assoc]
theorem frm_split {M E M' : Mem} {S : List Nat} (h : Frm (M ++ E) M' S) (n : ∀ i ∈ S, M.length ≤ i) : ∃ E', M' = M ++ E' := by
  have hl := h.1
  rw [List.length_append] at hl
  refine ⟨M'.drop M.length, List.ext_getElem? fun i => ?_⟩
  by_cases hi : i < M.length
  · rw [List.getElem?_append_left hi, h.2 i (by rw [List.length_append]; omega) (fun z => by have := n i z; omega), List.getElem?_append_left hi]
  · rw [List.getElem?_append_right (by omega), List.getElem?_drop]
    congr 1
    omega
def ct__law_trails_bad (K : PySem.W.Frag) : Ct := fun ds M Q _ => ∃ w : Nat, ds = [.ref w] ∧ M[0]? = some (tabT K) ∧ IsW K M w tE ∧ Q (.bl true) M

abbrev N__law_trails_bad : List Str := ["_law_world", "_law_left", "_law_top", "_law_found", "_law_bad"]
theorem sc__law_trails_bad : FnScope N__law_trails_bad ["_law_world"] (defScope s__law_trails_bad) := ⟨rfl, rfl, rfl, by decide +kernel, rfl, by decide +kernel, by decide +kernel⟩
theorem ok__law_trails_bad (T : Txt K mg base) : Ok P w K mg base 14 (He.fAd K ("_law_trails_bad", none)) ["_law_world"] 1 (ct__law_trails_bad K) := by
  obtain ⟨fd, F⟩ := T.f__law_trails_bad
  obtain ⟨fdT, FT⟩ := T.f__law_told
  have bT := FT.bindsN (ps := ["_law_deed"]) (fun _ _ _ _ _ _ us hl => match us, hl with | [_], _ => rfl)
  have W := ok__law_word (P := P) (w := w) (base := base) T
  obtain ⟨fd_Course_tick, F_Course_tick, b_Course_tick, k_Course_tick⟩ := ok_Course_tick (P := P) (w := w) (base := base) T
  obtain ⟨fd_Course_init, F_Course_init, b_Course_init, k_Course_init⟩ := ok_Course_init (P := P) (w := w) (base := base) T
  obtain ⟨fd_apart, F_apart, b_apart, k_apart⟩ := ok_apart (P := P) (w := w) (base := base) T
  obtain ⟨fd_reach, F_reach, b_reach, k_reach⟩ := ok_reach (P := P) (w := w) (base := base) T
  obtain ⟨fd_flights, F_flights, b_flights, k_flights⟩ := ok_flights (P := P) (w := w) (base := base) T
  obtain ⟨fd_landings, F_landings, b_landings, k_landings⟩ := ok_landings (P := P) (w := w) (base := base) T
  obtain ⟨fd_steps, F_steps, b_steps, k_steps⟩ := ok_steps (P := P) (w := w) (base := base) T
  have nd := sc__law_trails_bad.nd
  refine ⟨fd, ?_, F.bindsN fun _ _ _ _ _ _ us hl => match us, hl with | [_], _ => rfl, F.kp⟩
  refine defJT F sc__law_trails_bad rfl fun A outer s c jx tk hp hr => ⟨_, (jss_cons (js_for hp rfl (ji_list (je_lst (ja_cons (je_tup (ja_cons (je_neg je_int) (ja_cons je_int ja_nil))) (ja_cons (je_tup (ja_cons je_int (ja_cons je_int ja_nil))) (ja_cons (je_tup (ja_cons je_non (ja_cons je_int ja_nil))) (ja_cons (je_tup (ja_cons je_int (ja_cons je_bl ja_nil))) (ja_cons (je_tup (ja_cons je_str (ja_cons je_int ja_nil))) (ja_cons (je_tup (ja_cons je_int (ja_cons je_int ja_nil))) (ja_cons (je_tup (ja_cons je_int (ja_cons (je_neg je_int) ja_nil))) ja_nil))))))))) (jg_tup rfl (jgs_cons (jg_name (i := 1) nd rfl (by first | exact Or.inl rfl | exact Or.inr rfl)) (jgs_cons (jg_name (i := 2) nd rfl (by first | exact Or.inl rfl | exact Or.inr rfl)) jgs_nil)))
    (jss_cons (js_set (i := 3) nd rfl (by first | exact Or.inl rfl | exact Or.inr rfl) (je_lstM (ja_cons (je_toldQ (K := K) (q := Str.ofString "_law_trails_bad.<locals>.<lambda>") (k := 11) (j := 0) rfl rfl rfl T.g__law_told FT bT sc__law_told rfl rfl (by decide) rfl rfl rfl rfl T.g_RunError T.g__law_word W (by decide) T.tb__law_trails_bad rfl (hr.mono (by decide)) (LamX.lamS_by rfl) rfl (fun _ _ _ _ _ => rfl)
      (fun _ _ _ _ _ _ _ hr jx => (je_call jx F_steps (hr.mono (by decide)) rfl T.g_steps k_steps b_steps (ja_cons (je_var 0 (pv 0)) (ja_cons (je_var 1 (pv 1)) (ja_cons (je_var 2 (pv 2)) (ja_cons (je_lst (ja_cons je_non ja_nil)) ja_nil)))))) (fun c1 c2 z => by first | rfl | (simp only [z]))) ja_nil)))
    (jss_cons (js_expr (je_bm PySem.F.plainAttrs_list PySem.F.slot_list_append PySem.F.type_list_append jm_app (je_var 3 (pv 3)) (ja_cons (je_toldQ (K := K) (q := Str.ofString "_law_trails_bad.<locals>.<lambda>") (k := 11) (j := 0) rfl rfl rfl T.g__law_told FT bT sc__law_told rfl rfl (by decide) rfl rfl rfl rfl T.g_RunError T.g__law_word W (by decide) T.tb__law_trails_bad rfl (hr.mono (by decide)) (LamX.lamS_by rfl) rfl (fun _ _ _ _ _ => rfl)
      (fun _ _ _ _ _ _ _ hr jx => (je_call jx F_landings (hr.mono (by decide)) rfl T.g_landings k_landings b_landings (ja_cons (je_var 0 (pv 0)) (ja_cons (je_var 1 (pv 1)) (ja_cons (je_var 2 (pv 2)) (ja_cons (je_lst (ja_cons je_non ja_nil)) ja_nil)))))) (fun c1 c2 z => by first | rfl | (simp only [z]))) ja_nil)))
    (jss_cons (js_expr (je_bm PySem.F.plainAttrs_list PySem.F.slot_list_append PySem.F.type_list_append jm_app (je_var 3 (pv 3)) (ja_cons (je_toldQ (K := K) (q := Str.ofString "_law_trails_bad.<locals>.<lambda>") (k := 11) (j := 0) rfl rfl rfl T.g__law_told FT bT sc__law_told rfl rfl (by decide) rfl rfl rfl rfl T.g_RunError T.g__law_word W (by decide) T.tb__law_trails_bad rfl (hr.mono (by decide)) (LamX.lamS_by rfl) rfl (fun _ _ _ _ _ => rfl)
      (fun _ _ _ _ _ _ _ hr jx => (je_call jx F_flights (hr.mono (by decide)) rfl T.g_flights k_flights b_flights (ja_cons (je_var 0 (pv 0)) (ja_cons (je_var 1 (pv 1)) (ja_cons (je_var 2 (pv 2)) (ja_cons (je_lst (ja_cons je_non ja_nil)) ja_nil)))))) (fun c1 c2 z => by first | rfl | (simp only [z]))) ja_nil)))
    (jss_cons (js_expr (je_bm PySem.F.plainAttrs_list PySem.F.slot_list_append PySem.F.type_list_append jm_app (je_var 3 (pv 3)) (ja_cons (je_toldQ (K := K) (q := Str.ofString "_law_trails_bad.<locals>.<lambda>") (k := 11) (j := 0) rfl rfl rfl T.g__law_told FT bT sc__law_told rfl rfl (by decide) rfl rfl rfl rfl T.g_RunError T.g__law_word W (by decide) T.tb__law_trails_bad rfl (hr.mono (by decide)) (LamX.lamS_by rfl) rfl (fun _ _ _ _ _ => rfl)
      (fun _ _ _ _ _ _ _ hr jx => (je_call jx F_reach (hr.mono (by decide)) rfl T.g_reach k_reach b_reach (ja_cons (je_var 0 (pv 0)) (ja_cons (je_var 1 (pv 1)) (ja_cons (je_var 2 (pv 2)) (ja_cons (je_lst (ja_cons je_non ja_nil)) ja_nil)))))) (fun c1 c2 z => by first | rfl | (simp only [z]))) ja_nil)))
    (jss_cons (js_expr (je_bm PySem.F.plainAttrs_list PySem.F.slot_list_append PySem.F.type_list_append jm_app (je_var 3 (pv 3)) (ja_cons (je_toldQ (K := K) (q := Str.ofString "_law_trails_bad.<locals>.<lambda>") (k := 11) (j := 0) rfl rfl rfl T.g__law_told FT bT sc__law_told rfl rfl (by decide) rfl rfl rfl rfl T.g_RunError T.g__law_word W (by decide) T.tb__law_trails_bad rfl (hr.mono (by decide)) (LamX.lamS_by rfl) rfl (fun _ _ _ _ _ => rfl)
      (fun _ _ _ _ _ _ _ hr jx => (je_call jx F_apart (hr.mono (by decide)) rfl T.g_apart k_apart b_apart (ja_cons (je_var 0 (pv 0)) (ja_cons (je_var 1 (pv 1)) (ja_cons (je_var 2 (pv 2)) (ja_cons (je_lst (ja_cons je_non ja_nil)) (ja_cons (je_lst (ja_cons je_non ja_nil)) ja_nil))))))) (fun c1 c2 z => by first | rfl | (simp only [z]))) ja_nil)))
    (jss_cons (js_expr (je_bm PySem.F.plainAttrs_list PySem.F.slot_list_append PySem.F.type_list_append jm_app (je_var 3 (pv 3)) (ja_cons (je_toldQ (K := K) (q := Str.ofString "_law_trails_bad.<locals>.<lambda>") (k := 11) (j := 0) rfl rfl rfl T.g__law_told FT bT sc__law_told rfl rfl (by decide) rfl rfl rfl rfl T.g_RunError T.g__law_word W (by decide) T.tb__law_trails_bad rfl (hr.mono (by decide)) (LamX.lamS_by rfl) rfl (fun _ _ _ _ _ => rfl)
      (fun _ _ _ _ _ _ _ hr jx => (je_make (ks := ks_Course) jx T.mk_Course F_Course_init (hr.mono (by decide)) rfl T.g_Course b_Course_init (ja_cons (je_var 0 (pv 0)) (ja_cons (je_var 1 (pv 1)) (ja_cons (je_var 2 (pv 2)) (ja_cons je_non (ja_cons je_non ja_nil))))))) (fun c1 c2 z => by first | rfl | (simp only [z]))) ja_nil)))
    (jss_one (js_if (jt_cmp (jo_ne (room_units hr)) (je_var 3 (pv 3)) (je_op jo_mul (je_lst (ja_cons (je_tup (ja_cons je_str (ja_cons je_str ja_nil))) ja_nil)) je_int))
    (jss_one (js_ret je_bl))
    jss_nil)))))))))
    (jss_cons (js_for hp rfl (ji_list (je_lst (ja_cons je_non (ja_cons je_str (ja_cons je_str (ja_cons je_str (ja_cons je_int (ja_cons (je_lst (ja_cons je_str ja_nil)) (ja_cons je_str ja_nil))))))))) (jg_name (i := 4) nd rfl (by first | exact Or.inl rfl | exact Or.inr rfl))
    (jss_cons (js_set (i := 3) nd rfl (by first | exact Or.inl rfl | exact Or.inr rfl) (je_lstM (ja_cons (je_toldQ (K := K) (q := Str.ofString "_law_trails_bad.<locals>.<lambda>") (k := 11) (j := 0) rfl rfl rfl T.g__law_told FT bT sc__law_told rfl rfl (by decide) rfl rfl rfl rfl T.g_RunError T.g__law_word W (by decide) T.tb__law_trails_bad rfl (hr.mono (by decide)) (LamX.lamS_by rfl) rfl (fun _ _ _ _ _ => rfl)
      (fun _ _ _ _ _ _ _ hr jx => (je_call jx F_steps (hr.mono (by decide)) rfl T.g_steps k_steps b_steps (ja_cons (je_var 0 (pv 0)) (ja_cons je_int (ja_cons je_int (ja_cons (je_lst (ja_cons je_str (ja_cons (je_var 4 (pv 4)) ja_nil))) ja_nil)))))) (fun c1 c2 z => by first | rfl | (simp only [z]))) ja_nil)))
    (jss_cons (js_expr (je_bm PySem.F.plainAttrs_list PySem.F.slot_list_append PySem.F.type_list_append jm_app (je_var 3 (pv 3)) (ja_cons (je_toldQ (K := K) (q := Str.ofString "_law_trails_bad.<locals>.<lambda>") (k := 11) (j := 0) rfl rfl rfl T.g__law_told FT bT sc__law_told rfl rfl (by decide) rfl rfl rfl rfl T.g_RunError T.g__law_word W (by decide) T.tb__law_trails_bad rfl (hr.mono (by decide)) (LamX.lamS_by rfl) rfl (fun _ _ _ _ _ => rfl)
      (fun _ _ _ _ _ _ _ hr jx => (je_call jx F_landings (hr.mono (by decide)) rfl T.g_landings k_landings b_landings (ja_cons (je_var 0 (pv 0)) (ja_cons je_int (ja_cons je_int (ja_cons (je_lst (ja_cons (je_var 4 (pv 4)) ja_nil)) ja_nil)))))) (fun c1 c2 z => by first | rfl | (simp only [z]))) ja_nil)))
    (jss_cons (js_expr (je_bm PySem.F.plainAttrs_list PySem.F.slot_list_append PySem.F.type_list_append jm_app (je_var 3 (pv 3)) (ja_cons (je_toldQ (K := K) (q := Str.ofString "_law_trails_bad.<locals>.<lambda>") (k := 11) (j := 0) rfl rfl rfl T.g__law_told FT bT sc__law_told rfl rfl (by decide) rfl rfl rfl rfl T.g_RunError T.g__law_word W (by decide) T.tb__law_trails_bad rfl (hr.mono (by decide)) (LamX.lamS_by rfl) rfl (fun _ _ _ _ _ => rfl)
      (fun _ _ _ _ _ _ _ hr jx => (je_call jx F_flights (hr.mono (by decide)) rfl T.g_flights k_flights b_flights (ja_cons (je_var 0 (pv 0)) (ja_cons je_int (ja_cons je_int (ja_cons (je_lst (ja_cons (je_var 4 (pv 4)) ja_nil)) ja_nil)))))) (fun c1 c2 z => by first | rfl | (simp only [z]))) ja_nil)))
    (jss_cons (js_expr (je_bm PySem.F.plainAttrs_list PySem.F.slot_list_append PySem.F.type_list_append jm_app (je_var 3 (pv 3)) (ja_cons (je_toldQ (K := K) (q := Str.ofString "_law_trails_bad.<locals>.<lambda>") (k := 11) (j := 0) rfl rfl rfl T.g__law_told FT bT sc__law_told rfl rfl (by decide) rfl rfl rfl rfl T.g_RunError T.g__law_word W (by decide) T.tb__law_trails_bad rfl (hr.mono (by decide)) (LamX.lamS_by rfl) rfl (fun _ _ _ _ _ => rfl)
      (fun _ _ _ _ _ _ _ hr jx => (je_call jx F_reach (hr.mono (by decide)) rfl T.g_reach k_reach b_reach (ja_cons (je_var 0 (pv 0)) (ja_cons je_int (ja_cons je_int (ja_cons (je_lst (ja_cons (je_var 4 (pv 4)) ja_nil)) ja_nil)))))) (fun c1 c2 z => by first | rfl | (simp only [z]))) ja_nil)))
    (jss_cons (js_expr (je_bm PySem.F.plainAttrs_list PySem.F.slot_list_append PySem.F.type_list_append jm_app (je_var 3 (pv 3)) (ja_cons (je_toldQ (K := K) (q := Str.ofString "_law_trails_bad.<locals>.<lambda>") (k := 11) (j := 0) rfl rfl rfl T.g__law_told FT bT sc__law_told rfl rfl (by decide) rfl rfl rfl rfl T.g_RunError T.g__law_word W (by decide) T.tb__law_trails_bad rfl (hr.mono (by decide)) (LamX.lamS_by rfl) rfl (fun _ _ _ _ _ => rfl)
      (fun _ _ _ _ _ _ _ hr jx => (je_call jx F_apart (hr.mono (by decide)) rfl T.g_apart k_apart b_apart (ja_cons (je_var 0 (pv 0)) (ja_cons je_int (ja_cons je_int (ja_cons (je_lst (ja_cons (je_var 4 (pv 4)) ja_nil)) (ja_cons (je_lst ja_nil) ja_nil))))))) (fun c1 c2 z => by first | rfl | (simp only [z]))) ja_nil)))
    (jss_cons (js_expr (je_bm PySem.F.plainAttrs_list PySem.F.slot_list_append PySem.F.type_list_append jm_app (je_var 3 (pv 3)) (ja_cons (je_toldQ (K := K) (q := Str.ofString "_law_trails_bad.<locals>.<lambda>") (k := 11) (j := 0) rfl rfl rfl T.g__law_told FT bT sc__law_told rfl rfl (by decide) rfl rfl rfl rfl T.g_RunError T.g__law_word W (by decide) T.tb__law_trails_bad rfl (hr.mono (by decide)) (LamX.lamS_by rfl) rfl (fun _ _ _ _ _ => rfl)
      (fun _ _ _ _ _ _ _ hr jx => (je_call jx F_apart (hr.mono (by decide)) rfl T.g_apart k_apart b_apart (ja_cons (je_var 0 (pv 0)) (ja_cons je_int (ja_cons je_int (ja_cons (je_lst ja_nil) (ja_cons (je_lst (ja_cons (je_var 4 (pv 4)) ja_nil)) ja_nil))))))) (fun c1 c2 z => by first | rfl | (simp only [z]))) ja_nil)))
    (jss_cons (js_expr (je_bm PySem.F.plainAttrs_list PySem.F.slot_list_append PySem.F.type_list_append jm_app (je_var 3 (pv 3)) (ja_cons (je_toldQ (K := K) (q := Str.ofString "_law_trails_bad.<locals>.<lambda>") (k := 11) (j := 0) rfl rfl rfl T.g__law_told FT bT sc__law_told rfl rfl (by decide) rfl rfl rfl rfl T.g_RunError T.g__law_word W (by decide) T.tb__law_trails_bad rfl (hr.mono (by decide)) (LamX.lamS_by rfl) rfl (fun _ _ _ _ _ => rfl)
      (fun _ _ _ _ _ _ _ hr jx => (je_meth jx (je_make (ks := ks_Course) jx T.mk_Course F_Course_init (hr.mono (by decide)) rfl T.g_Course b_Course_init (ja_cons (je_var 0 (pv 0)) (ja_cons je_int (ja_cons je_int (ja_cons (je_lst ja_nil) (ja_cons (je_tup (ja_cons je_int (ja_cons je_int ja_nil))) ja_nil)))))) T.cl_Course T.m_Course_tick F_Course_tick (hr.mono (by decide)) b_Course_tick (ja_cons (je_var 4 (pv 4)) ja_nil))) (fun c1 c2 z => by first | rfl | (simp only [z]))) ja_nil)))
    (jss_one (js_if (jt_cmp (jo_ne (room_units hr)) (je_var 3 (pv 3)) (je_op jo_mul (je_lst (ja_cons (je_tup (ja_cons je_str (ja_cons je_str ja_nil))) ja_nil)) je_int))
    (jss_one (js_ret je_bl))
    jss_nil))))))))))
    (jss_one (js_ret je_bl)))), fun ds M Q h => ?_⟩
  clear hr hp tk jx nd FT bT W fdT F_Course_tick b_Course_tick k_Course_tick fd_Course_tick F_Course_init b_Course_init k_Course_init fd_Course_init F_apart b_apart k_apart fd_apart F_reach b_reach k_reach fd_reach F_flights b_flights k_flights fd_flights F_landings b_landings k_landings fd_landings F_steps b_steps k_steps fd_steps F
  obtain ⟨w, rfl, h0, hw, hq⟩ := h
  refine ⟨le_line rfl, le_line rfl, le_line rfl, le_line rfl, le_line rfl, le_line rfl, le_line rfl, le_line rfl, ?_⟩
  refine loop_inv _ (fun i ρ M' => ∃ (E : Mem) (x1 x2 x3 x4 : Option D), M' = M ++ E ∧ ρ = [some (.ref w), x1, x2, x3, x4]) ?_ ?_ ⟨[], none, none, none, none, (List.append_nil M).symm, rfl⟩
  · rintro i d hd ρ _ ⟨E, x1, x2, x3, x4, rfl, rfl⟩
    have hm := List.mem_of_getElem? hd
    simp only [List.mem_cons, List.not_mem_nil, or_false] at hm
    have key : ∃ a b, d = .tup [a, b] ∧ Shown a ∧ Shown b ∧ ((isCount a (-400) 400 && isCount b (-400) 400) = false ∨ ∃ x y, a = .int x ∧ b = .int y ∧ tE.free x y = false) := by
      rcases hm with e | e | e | e | e | e | e
      · exact ⟨_, _, e, fun _ => rfl, fun _ => rfl, .inr ⟨_, _, rfl, rfl, by decide +kernel⟩⟩
      · exact ⟨_, _, e, fun _ => rfl, fun _ => rfl, .inr ⟨_, _, rfl, rfl, by decide +kernel⟩⟩
      all_goals exact ⟨_, _, e, fun _ => rfl, fun _ => rfl, .inl (by decide)⟩
    obtain ⟨a, b, rfl, ha, hb, hab⟩ := key
    clear hm hd
    refine ⟨trivial, fun go hgo => ⟨rfl, ?_⟩⟩
    dsimp only [gsCons, gVar, gsNil]
    have kN : ∀ k ∈ [D.non], Shown k ∧ ∀ z, k = .str z → z.length ≤ 1000 := fun k hk => by
      rw [List.mem_singleton.mp hk]; exact ⟨fun _ => rfl, fun z e => by cases e⟩
    refine ⟨get_left h0, le_line rfl, rfl, w, tE, a, b, [.non], rfl, hw.left, ha, hb, kN, by decide, .inr ⟨hab, fun E1 => ⟨T.e_BadPlace_RunError, Str.ofString "BadPlace", by simp, rfl, le_line rfl, ?_⟩⟩⟩
    try dsimp only
    rw [List.append_assoc]
    generalize E ++ E1 = E
    refine ⟨ty_lst get_end, get_left (get_left h0), le_line rfl, rfl, w, tE, a, b, [.non], rfl, hw.left.left, ha, hb, kN, by decide, .inr ⟨hab, fun E2 => ⟨T.e_BadPlace_RunError, Str.ofString "BadPlace", by simp, rfl, _, get_midE, lt_line (by decide), ?_⟩⟩⟩
    rw [set_midE]
    generalize E ++ E1 = E
    refine ⟨ty_lst get_midE, get_left (get_left (get_left h0)), le_line rfl, rfl, w, tE, a, b, [.non], rfl, hw.left.left.left, ha, hb, kN, by decide, .inr ⟨hab, fun E3 => ⟨T.e_BadPlace_RunError, Str.ofString "BadPlace", by simp, rfl, _, get_midF, lt_line (by decide), ?_⟩⟩⟩
    rw [set_midF]
    generalize E2 ++ E3 = E2
    refine ⟨ty_lst get_midE, get_left (get_left (get_left h0)), le_line rfl, rfl, w, tE, a, b, [.non], rfl, hw.left.left.left, ha, hb, kN, by decide, .inr ⟨hab, fun E3 => ⟨T.e_BadPlace_RunError, Str.ofString "BadPlace", by simp, rfl, _, get_midF, lt_line (by decide), ?_⟩⟩⟩
    rw [set_midF]
    generalize E2 ++ E3 = E2
    refine ⟨ty_lst get_midE, get_left (get_left (get_left h0)), le_line rfl, le_line rfl, rfl, w, tE, a, b, [.non], [.non], rfl, by decide, by decide, hw.left.left.left, ha, hb, kN, by decide, .inr ⟨hab, fun E3 => ⟨T.e_BadPlace_RunError, Str.ofString "BadPlace", by simp, rfl, _, get_midF, lt_line (by decide), ?_⟩⟩⟩
    rw [set_midF]
    generalize E2 ++ E3 = E2
    refine ⟨ty_lst get_midE, get_left (get_left (get_left h0)), rfl, ⟨by decide, by decide⟩, _, w, tE, a, b, .non, .non, rfl, get_end, hw.left.left.left.left, ha, hb, .inl ⟨hab, fun E3 => ⟨T.e_BadPlace_RunError, Str.ofString "BadPlace", by simp, rfl, _, get_left get_midF, lt_line (by decide), ?_⟩⟩⟩
    rw [List.append_assoc _ _ E3, set_midF]
    refine ⟨le_line rfl, le_line rfl, _, rfl, by decide, by decide, le_line rfl, _, _, (pyM_ref get_midE).trans rfl, rfl, by decide, ?_⟩
    rw [ne_same rfl]
    refine ff ?_
    try dsimp only [sSkip]
    exact hgo _ _ ⟨_, _, _, _, _, app4 _ _ _ _, rfl⟩
  rintro ρ _ ⟨E, x1, x2, x3, x4, rfl, rfl⟩
  refine ⟨trivial, le_line rfl, le_line rfl, ?_⟩
  have f0 : tE.free 8 0 = true := by decide +kernel
  refine loop_inv _ (fun i ρ M' => ∃ (E : Mem) (x1 x2 x3 x4 : Option D), M' = M ++ E ∧ ρ = [some (.ref w), x1, x2, x3, x4]) ?_ ?_ ⟨E, x1, x2, x3, x4, rfl, rfl⟩
  · clear E x1 x2 x3 x4
    rintro i d hd ρ _ ⟨E, x1, x2, x3, x4, rfl, rfl⟩
    have hm := List.mem_of_getElem? hd
    simp only [List.mem_cons, List.not_mem_nil, or_false] at hm
    have key : Shown d ∧ (∀ z, d = .str z → z.length ≤ 1000) ∧ isKeys d = false := by
      rcases hm with e | e | e | e | e | e | e
      all_goals
        subst e
        exact ⟨fun _ => rfl, fun z e => by cases e <;> decide, by decide +kernel⟩
    obtain ⟨k1, k2, k3⟩ := key
    clear hm hd
    refine ⟨trivial, fun go hgo => ?_⟩
    have kr : Shown (.str "r") ∧ ∀ z, D.str "r" = .str z → z.length ≤ 1000 := ⟨fun _ => rfl, fun z e => by cases e; decide⟩
    have k0 : Shown (.str "") ∧ ∀ z, D.str "" = .str z → z.length ≤ 1000 := ⟨fun _ => rfl, fun z e => by cases e; decide⟩
    have kN : ∀ k ∈ [d], Shown k ∧ ∀ z, k = .str z → z.length ≤ 1000 := fun k hk => by
      rw [List.mem_singleton.mp hk]; exact ⟨k1, k2⟩
    have kR : ∀ k ∈ [.str "r", d], Shown k ∧ ∀ z, k = .str z → z.length ≤ 1000 := fun k hk => by
      rcases List.mem_cons.mp hk with rfl | hk
      · exact kr
      · exact kN k hk
    have kE : ∀ k ∈ [D.str ""], Shown k ∧ ∀ z, k = .str z → z.length ≤ 1000 := fun k hk => by
      rw [List.mem_singleton.mp hk]; exact k0
    have b1 : [d].all isKeys = false := by
      show (isKeys d && true) = false
      rw [k3]; rfl
    have b2 : [.str "r", d].all isKeys = false := by
      show (_ && (isKeys d && true)) = false
      rw [k3]; rfl
    have sI : ∀ i : Int, Shown (.int i) := fun i _ => rfl
    have l1 : [d].length ≤ 1000000 := by show 1 ≤ 1000000; decide
    have l2 : [.str "r", d].length ≤ 1000000 := by show 2 ≤ 1000000; decide
    have l3 : [d].length ≤ 10000 := by show 1 ≤ 10000; decide
    refine ⟨get_left h0, le_line rfl, rfl, w, tE, .int 8, .int 0, _, rfl, hw.left, sI 8, sI 0, kR, l2, .inl ⟨8, 0, rfl, rfl, by decide, by decide, f0, .inr ⟨b2, fun E1 => ⟨T.e_BadKeys_RunError, Str.ofString "BadKeys", by simp, rfl, le_line rfl, ?_⟩⟩⟩⟩
    try dsimp only
    rw [List.append_assoc]
    generalize E ++ E1 = E
    refine ⟨ty_lst get_end, get_left (get_left h0), le_line rfl, rfl, w, tE, .int 8, .int 0, [d], rfl, hw.left.left, sI 8, sI 0, kN, l1, .inl ⟨8, 0, rfl, rfl, by decide, by decide, f0, .inr ⟨b1, fun E3 => ⟨T.e_BadKeys_RunError, Str.ofString "BadKeys", by simp, rfl, _, get_midE, lt_line (by decide), ?_⟩⟩⟩⟩
    rw [set_midE]
    generalize E3 = E2
    refine ⟨ty_lst get_midE, get_left (get_left (get_left h0)), le_line rfl, rfl, w, tE, .int 8, .int 0, [d], rfl, hw.left.left.left, sI 8, sI 0, kN, l1, .inl ⟨8, 0, rfl, rfl, by decide, by decide, f0, .inr ⟨b1, fun E3 => ⟨T.e_BadKeys_RunError, Str.ofString "BadKeys", by simp, rfl, _, get_midF, lt_line (by decide), ?_⟩⟩⟩⟩
    rw [set_midF]
    generalize E2 ++ E3 = E2
    refine ⟨ty_lst get_midE, get_left (get_left (get_left h0)), le_line rfl, rfl, w, tE, .int 8, .int 0, [d], rfl, hw.left.left.left, sI 8, sI 0, kN, l1, .inl ⟨8, 0, rfl, rfl, by decide, by decide, f0, .inr ⟨b1, fun E3 => ⟨T.e_BadKeys_RunError, Str.ofString "BadKeys", by simp, rfl, _, get_midF, lt_line (by decide), ?_⟩⟩⟩⟩
    rw [set_midF]
    generalize E2 ++ E3 = E2
    refine ⟨ty_lst get_midE, get_left (get_left (get_left h0)), le_line rfl, le_line rfl, rfl, w, tE, .int 8, .int 0, [d], [], rfl, l3, by decide, hw.left.left.left, sI 8, sI 0, kN, l1, .inl ⟨8, 0, rfl, rfl, by decide, by decide, f0, .inr ⟨b1, fun E3 => ⟨T.e_BadKeys_RunError, Str.ofString "BadKeys", by simp, rfl, _, get_midF, lt_line (by decide), ?_⟩⟩⟩⟩
    rw [set_midF]
    generalize E2 ++ E3 = E2
    refine ⟨ty_lst get_midE, get_left (get_left (get_left h0)), le_line rfl, le_line rfl, rfl, w, tE, .int 8, .int 0, [], [d], rfl, by decide, l3, hw.left.left.left, sI 8, sI 0, kE, by show 1 ≤ 1000000; decide, .inl ⟨8, 0, rfl, rfl, by decide, by decide, f0, .inl ⟨[""], rfl, fun z hz => by rw [List.mem_singleton.mp hz]; decide +kernel, hw.left.left.left, sI 8, sI 0, kN, l1, .inl ⟨8, 0, rfl, rfl, by decide, by decide, f0, .inr ⟨b1, fun E3 => ⟨T.e_BadKeys_RunError, Str.ofString "BadKeys", by simp, rfl, _, get_midF, lt_line (by decide), ?_⟩⟩⟩⟩⟩⟩
    rw [set_midF]
    generalize E2 ++ E3 = E2
    refine ⟨ty_lst get_midE, get_left (get_left (get_left h0)), le_line rfl, le_line rfl, rfl, ⟨by decide, by decide⟩, _, w, tE, .int 8, .int 0, .lst [], .tup [.int 0, .int 0], rfl, get_end, hw.left.left.left.left, sI 8, sI 0, .inr ⟨8, 0, rfl, rfl, by decide, by decide, f0, .inl ⟨[], rfl, fun _ z => (nomatch z), by decide⟩, fun M => ⟨rfl, fun ys e x hx => ?_⟩, .inl ⟨[], (0, 0), ⟨rfl, rfl, by decide, List.nodup_nil, fun _ z => (nomatch z), by decide, by decide⟩, fun M' r q g hf hC => ?_⟩⟩⟩
    · cases e
      simp only [List.mem_cons, List.not_mem_nil, or_false] at hx
      rcases hx with rfl | rfl <;> rfl
    obtain ⟨E', rfl⟩ := frm_split (M := M ++ E ++ _ ++ E2) hf fun i hi => by rw [List.mem_singleton.mp hi]; exact Nat.le_refl _
    refine ⟨rfl, _, _, hC.c, by decide, rfl, _, _, _, _, _, _, _, d, rfl, hC, k1 _, k2, .inr ⟨k3, T.e_BadKeys_RunError, Str.ofString "BadKeys", by simp, rfl, _, get_midF, lt_line (by decide), ?_⟩⟩
    rw [set_midF]
    refine ⟨le_line rfl, le_line rfl, _, rfl, by decide, by decide, le_line rfl, _, _, (pyM_ref get_midE).trans rfl, rfl, by decide, ?_⟩
    rw [ne_same rfl]
    refine ff ?_
    try dsimp only [sSkip]
    exact hgo _ _ ⟨_, _, _, _, _, app4 _ _ _ _, rfl⟩
  · rintro ρ _ ⟨E, x1, x2, x3, x4, rfl, rfl⟩
    exact ⟨trivial, .inr ⟨M, Cut.same rfl, hq⟩⟩

abbrev tabL (K : PySem.W.Frag) : MO := .tab (He.tabOf K (He.codeOf K ("law", none))) (Str.ofString "law.<locals>.<lambda>")
def Kt (K : PySem.W.Frag) (M : Mem) : Prop := M[0]? = some (tabT K) ∧ M[1]? = some (tabL K)
theorem Kt.app {K : PySem.W.Frag} {M : Mem} (h : Kt K M) (E : Mem) : Kt K (M ++ E) := ⟨get_left h.1, get_left h.2⟩
theorem Kt.split {K : PySem.W.Frag} {M : Mem} (h : Kt K M) : ∃ E, M = [tabT K, tabL K] ++ E := by
  match M, h with
  | [], h => cases h.1
  | [_], h => cases h.2
  | a :: b :: E, h =>
    refine ⟨E, ?_⟩
    rw [show a = tabT K from Option.some.inj h.1, show b = tabL K from Option.some.inj h.2]
    rfl
theorem tab_keep {K : PySem.W.Frag} {M M' : Mem} {c w r q g i : Nat} {o : CO} {t : CT} {a : Addr} {b : Str} (h : IsC K M c w r q g o t) (hi : M[i]? = some (.tab a b)) (f : Frm M M' [c, r, q, g]) : M'[i]? = some (.tab a b) := by
  refine f.at hi fun z => ?_
  simp only [List.mem_cons, List.not_mem_nil, or_false] at z
  rcases z with rfl | rfl | rfl | rfl
  · exact nomatch h.c.symm.trans hi
  · exact nomatch h.r.symm.trans hi
  · exact nomatch h.q.symm.trans hi
  · exact nomatch h.g.symm.trans hi
theorem Kt.fr {K : PySem.W.Frag} {M M' : Mem} {c w r q g : Nat} {o : CO} {t : CT} (k : Kt K M) (h : IsC K M c w r q g o t) (f : Frm M M' [c, r, q, g]) : Kt K M' := ⟨tab_keep h k.1 f, tab_keep h k.2 f⟩
def plA : D → Bool
  | .tup xs => xs.all fun x => match x with
    | .str _ => true
    | .int _ => true
    | .bl _ => true
    | .non => true
    | _ => false
  | .non => true
  | .int _ => true
  | .lst _ => true
  | _ => false
theorem plA_ok {d : D} (h : plA d = true) : PlainA d := fun M => by
  cases d with
  | tup xs =>
    refine ⟨rfl, fun ys e x hx => ?_⟩
    cases e
    have := List.all_eq_true.mp h x hx
    cases x <;> first | rfl | cases this
  | non => exact ⟨rfl, fun ys e => by cases e⟩
  | lst xs => exact ⟨rfl, fun ys e => by cases e⟩
  | int i => exact ⟨rfl, fun ys e => by cases e⟩
  | _ => cases h
def plL : D → Bool
  | .lst xs => decide (xs.length ≤ 63) && xs.all plA
  | .non => true
  | .tup _ => true
  | _ => false
theorem plL_ok {d : D} (h : plL d = true) : PlainL d := by
  cases d with
  | lst xs =>
    have h : (decide (xs.length ≤ 63) && xs.all plA) = true := h
    rw [Bool.and_eq_true] at h
    exact .inl ⟨xs, rfl, fun x hx => plA_ok (List.all_eq_true.mp h.2 x hx), of_decide_eq_true h.1⟩
  | non => exact .inr ⟨_, fun _ => rfl, rfl, fun _ e => by cases e⟩
  | tup xs => exact .inr ⟨_, fun _ => rfl, rfl, fun _ e => by cases e⟩
  | _ => cases h
def bads1 (d : D) : List D := [.non, .tup [], .tup [d], .lst [d, d], .lst [.non], .lst [.tup [.int 1]], .lst [.tup [.int 1, .int 2, .int 3]], .lst [.lst [.int 1, .int 2]], .lst [.tup [.int 401, .int 0]], .lst [.tup [.int 0, .int (-401)]]]
def bads2 : List D := [.lst [.tup [.bl true, .int 0]], .lst [.tup [.str "1", .int 0]], .lst ((upTo 0 21).map fun x => .tup [x, .int 0])]
theorem bads_ok {u : Int × Int} {d : D} (h : d ∈ bads1 (placeD u) ++ bads2) : PlainL d ∧ ∀ us v, ¬ CourseOk d (placeD u) us v := by
  have ng : ∀ {d : D}, goodB d = false → ∀ us v, ¬ CourseOk d (placeD u) us v := fun h us v q => by
    rw [(goodB_of q).1] at h; cases h
  rcases List.mem_append.mp h with h | h
  · unfold bads1 at h
    simp only [List.mem_cons, List.not_mem_nil, or_false] at h
    rcases h with rfl | rfl | rfl | rfl | rfl | rfl | rfl | rfl | rfl | rfl
    · exact ⟨plL_ok rfl, ng rfl⟩
    · exact ⟨plL_ok rfl, ng rfl⟩
    · exact ⟨plL_ok rfl, ng rfl⟩
    · refine ⟨plL_ok rfl, fun us v q => ?_⟩
      have e : us = [u, u] := placeD_inj (D.lst.inj q.1).symm
      have hn := q.2.2.2.1
      rw [e] at hn
      exact (List.nodup_cons.mp hn).1 (List.mem_singleton.mpr rfl)
    all_goals exact ⟨plL_ok (by decide +kernel), ng (by decide +kernel)⟩
  · unfold bads2 at h
    simp only [List.mem_cons, List.not_mem_nil, or_false] at h
    rcases h with rfl | rfl | rfl
    all_goals exact ⟨plL_ok (by decide +kernel), ng (by decide +kernel)⟩
def us20 : List (Int × Int) := (List.range 20).map fun (k : Nat) => (-400 + (0 + (k : Int)), 400)
def o20 : CO := ⟨tE, 8, 0, us20, (400, -400)⟩
theorem us20_ok : us20.length ≤ 20 ∧ us20.Nodup ∧ (∀ u ∈ us20, unitB u) ∧ unitB (400, -400) := ⟨by decide +kernel, by decide +kernel, by unfold unitB; decide +kernel, by decide, by decide⟩
theorem begin20 : beginM o20 = rawC o20 := by
  have h1 : foundM o20 (rawC o20) = [] := by decide +kernel
  have h2 : covB (rawC o20).s o20.g = false := by decide +kernel
  unfold beginM lookM
  rw [h1, h2]
  rfl
theorem left20 : leftM o20 (rawC o20) = List.range 20 := by decide +kernel
def t1c : CT := goM o20 "r" { rawC o20 with gone := [] }
def t2c : CT := backM o20 1 t1c
def t3c : CT := goM o20 "lr" { t2c with gone := [] }
theorem t1c_zs : t1c.zs = [Str.ofString "r"] := rfl
theorem t1c_gone : t1c.gone = [] := rfl
theorem t2c_zs : t2c.zs = [] := by
  unfold t2c backM
  rw [runC_zs, t1c_zs]
  rfl
theorem t3c_zs : t3c.zs = [Str.ofString "lr"] := by
  show t2c.zs ++ _ = _
  rw [t2c_zs]; rfl
theorem t3c_gone : t3c.gone = [] := rfl
theorem found3 : foundM o20 (tickC o20 "lr" { t2c with gone := [] }) = [] := by decide +kernel
def ct_law (K : PySem.W.Frag) : Ct := fun ds M Q _ => ∃ ns : List Int, ds = [.scr ns] ∧ ns.length ≤ 63 ∧ M = [tabT K, tabL K] ∧ Q (.bl true) M

abbrev N_law : List Str := ["_law_script", "_law_k", "_law_more", "_law_world", "_law_unit", "_law_bads", "_law_bad", "_law_at", "_law_course"]
theorem sc_law : FnScope N_law ["_law_script"] (defScope s_law) := ⟨rfl, rfl, rfl, by decide +kernel, rfl, by decide +kernel, by decide +kernel⟩
theorem ok_law (T : Txt K mg base) {fd : FuncData} (F : FunD K "law" "law" (defArgs s_law) (defBody s_law) (defScope s_law) [] [] (He.fAd K ("law", none)) fd) : FnOk P w K mg base (L2N.CX P w) 18 (He.fAd K ("law", none)) fd ["_law_script"] (spD K 1 (ct_law K)) := by
  obtain ⟨fdT, FT⟩ := T.f__law_told
  have bT := FT.bindsN (ps := ["_law_deed"]) (fun _ _ _ _ _ _ us hl => match us, hl with | [_], _ => rfl)
  have W := ok__law_word (P := P) (w := w) (base := base) T
  obtain ⟨fd_Course_clock, F_Course_clock, b_Course_clock, k_Course_clock⟩ := ok_Course_clock (P := P) (w := w) (base := base) T
  obtain ⟨fd_Course_again, F_Course_again, b_Course_again, k_Course_again⟩ := ok_Course_again (P := P) (w := w) (base := base) T
  obtain ⟨fd__law_trails_bad, F__law_trails_bad, b__law_trails_bad, k__law_trails_bad⟩ := ok__law_trails_bad (P := P) (w := w) (base := base) T
  obtain ⟨fd_Course_tick, F_Course_tick, b_Course_tick, k_Course_tick⟩ := ok_Course_tick (P := P) (w := w) (base := base) T
  obtain ⟨fd_Course_back, F_Course_back, b_Course_back, k_Course_back⟩ := ok_Course_back (P := P) (w := w) (base := base) T
  obtain ⟨fd_Course_tape, F_Course_tape, b_Course_tape, k_Course_tape⟩ := ok_Course_tape (P := P) (w := w) (base := base) T
  obtain ⟨fd_Course_done, F_Course_done, b_Course_done, k_Course_done⟩ := ok_Course_done (P := P) (w := w) (base := base) T
  obtain ⟨fd_Course_left_over, F_Course_left_over, b_Course_left_over, k_Course_left_over⟩ := ok_Course_left_over (P := P) (w := w) (base := base) T
  obtain ⟨fd_Course_init, F_Course_init, b_Course_init, k_Course_init⟩ := ok_Course_init (P := P) (w := w) (base := base) T
  obtain ⟨fd_World_init, F_World_init, b_World_init, k_World_init⟩ := ok_World_init (P := P) (w := w) (base := base) T
  obtain ⟨fd__law_drawn, F__law_drawn, b__law_drawn, k__law_drawn⟩ := ok__law_drawn (P := P) (w := w) (base := base) T
  obtain ⟨fd__law_cell, F__law_cell, b__law_cell, k__law_cell⟩ := ok__law_cell (P := P) (w := w) (base := base) T
  have nd := sc_law.nd
  refine defJT F sc_law rfl fun A outer s c jx tk hp hr => ⟨_, (jss_cons (js_for hp rfl (ji_rng1 rfl T.u_range (ja_cons (je_callB (jc_max2 rfl) rfl T.u_max boot_max (ja_cons je_int (ja_cons (je_callB (jc_min2 rfl) rfl T.u_min boot_min (ja_cons je_int (ja_cons (je_callB jc_len rfl T.u_len boot_len (ja_cons (je_var 0 (pv 0)) ja_nil)) ja_nil))) ja_nil))) ja_nil)) (jg_name (i := 1) nd rfl (by first | exact Or.inl rfl | exact Or.inr rfl))
    (jss_cons (js_set (i := 2) nd rfl (by first | exact Or.inl rfl | exact Or.inr rfl) (je_call jx F__law_drawn (hr.mono (by decide)) rfl T.g__law_drawn k__law_drawn b__law_drawn (ja_cons (je_call jx F__law_cell (hr.mono (by decide)) rfl T.g__law_cell k__law_cell b__law_cell (ja_cons (je_var 0 (pv 0)) (ja_cons (je_var 1 (pv 1)) ja_nil))) (ja_cons (je_var 1 (pv 1)) ja_nil))))
    (jss_cons (js_set (i := 3) nd rfl (by first | exact Or.inl rfl | exact Or.inr rfl) (je_make (ks := ks_World) jx T.mk_World F_World_init (hr.mono (by decide)) rfl T.g_World b_World_init (ja_cons (je_lst (ja_cons je_str (ja_cons je_str (ja_cons je_str ja_nil)))) (ja_cons (je_lst ja_nil) ja_nil))))
    (jss_cons (js_set (i := 4) nd rfl (by first | exact Or.inl rfl | exact Or.inr rfl) (je_tup (ja_cons (je_op jo_mod (je_var 2 (pv 2)) je_int) (ja_cons (je_op jo_mod (je_op jo_div (je_var 2 (pv 2)) je_int) je_int) ja_nil))))
    (jss_cons (js_set (i := 5) nd rfl (by first | exact Or.inl rfl | exact Or.inr rfl) (je_lst (ja_cons je_non (ja_cons (je_tup ja_nil) (ja_cons (je_tup (ja_cons (je_var 4 (pv 4)) ja_nil)) (ja_cons (je_lst (ja_cons (je_var 4 (pv 4)) (ja_cons (je_var 4 (pv 4)) ja_nil))) (ja_cons (je_lst (ja_cons je_non ja_nil)) (ja_cons (je_lst (ja_cons (je_tup (ja_cons je_int ja_nil)) ja_nil)) (ja_cons (je_lst (ja_cons (je_tup (ja_cons je_int (ja_cons je_int (ja_cons je_int ja_nil)))) ja_nil)) (ja_cons (je_lst (ja_cons (je_lst (ja_cons je_int (ja_cons je_int ja_nil))) ja_nil)) (ja_cons (je_lst (ja_cons (je_tup (ja_cons je_int (ja_cons je_int ja_nil))) ja_nil)) (ja_cons (je_lst (ja_cons (je_tup (ja_cons je_int (ja_cons (je_neg je_int) ja_nil))) ja_nil)) ja_nil))))))))))))
    (jss_cons (js_for hp rfl (ji_list (je_op jo_add (je_var 5 (pv 5)) (je_lst (ja_cons (je_lst (ja_cons (je_tup (ja_cons je_bl (ja_cons je_int ja_nil))) ja_nil)) (ja_cons (je_lst (ja_cons (je_tup (ja_cons je_str (ja_cons je_int ja_nil))) ja_nil)) (ja_cons (je_lc (own := [("_law_at", 7)]) rfl nd (ji_rng1 rfl T.u_range (ja_cons je_int ja_nil)) (blkOk_by (N := N_law) (sc := (defScope s_law)) (own := [("_law_at", 7)]) (by decide +kernel)) (fun _ _ _ _ _ => (jgc_name (i := 7) nd rfl (by first | exact Or.inl rfl | exact Or.inr rfl))) (fun _ _ _ _ _ => jts_nil) (fun _ _ _ _ _ => (je_tup (ja_cons (je_var 7 (pv 7)) (ja_cons je_int ja_nil))))) ja_nil)))))) (jg_name (i := 6) nd rfl (by first | exact Or.inl rfl | exact Or.inr rfl))
    (jss_one (js_if (jt_cmp (jo_ne (room_units hr)) (je_toldQ (K := K) (q := Str.ofString "law.<locals>.<lambda>") (k := 15) (j := 1) rfl rfl rfl T.g__law_told FT bT sc__law_told rfl rfl (by decide) rfl rfl rfl rfl T.g_RunError T.g__law_word W (by decide) T.tb_law rfl (hr.mono (by decide)) (LamX.lamS_by rfl) rfl (fun _ _ _ _ _ => rfl)
      (fun _ _ _ _ _ _ _ hr jx => (je_make (ks := ks_Course) jx T.mk_Course F_Course_init (hr.mono (by decide)) rfl T.g_Course b_Course_init (ja_cons (je_var 3 (pv 3)) (ja_cons je_int (ja_cons je_int (ja_cons (je_var 6 (pv 6)) (ja_cons (je_var 4 (pv 4)) ja_nil))))))) (fun c1 c2 z => by first | rfl | (simp only [z]))) (je_tup (ja_cons je_str (ja_cons je_str ja_nil))))
    (jss_one (js_ret je_bl))
    jss_nil)))
    (jss_cons (js_for hp rfl (ji_list (je_lst (ja_cons je_non (ja_cons (je_tup ja_nil) (ja_cons (je_tup (ja_cons je_int ja_nil)) (ja_cons (je_lst (ja_cons je_int (ja_cons je_int ja_nil))) (ja_cons (je_tup (ja_cons je_int (ja_cons je_int ja_nil))) (ja_cons (je_tup (ja_cons je_int (ja_cons je_non ja_nil))) (ja_cons (je_tup (ja_cons je_bl (ja_cons je_int ja_nil))) ja_nil))))))))) (jg_name (i := 6) nd rfl (by first | exact Or.inl rfl | exact Or.inr rfl))
    (jss_one (js_if (jt_cmp (jo_ne (room_units hr)) (je_toldQ (K := K) (q := Str.ofString "law.<locals>.<lambda>") (k := 15) (j := 1) rfl rfl rfl T.g__law_told FT bT sc__law_told rfl rfl (by decide) rfl rfl rfl rfl T.g_RunError T.g__law_word W (by decide) T.tb_law rfl (hr.mono (by decide)) (LamX.lamS_by rfl) rfl (fun _ _ _ _ _ => rfl)
      (fun _ _ _ _ _ _ _ hr jx => (je_make (ks := ks_Course) jx T.mk_Course F_Course_init (hr.mono (by decide)) rfl T.g_Course b_Course_init (ja_cons (je_var 3 (pv 3)) (ja_cons je_int (ja_cons je_int (ja_cons (je_lst ja_nil) (ja_cons (je_var 6 (pv 6)) ja_nil))))))) (fun c1 c2 z => by first | rfl | (simp only [z]))) (je_tup (ja_cons je_str (ja_cons je_str ja_nil))))
    (jss_one (js_ret je_bl))
    jss_nil)))
    (jss_cons (js_set (i := 8) nd rfl (by first | exact Or.inl rfl | exact Or.inr rfl) (je_make (ks := ks_Course) jx T.mk_Course F_Course_init (hr.mono (by decide)) rfl T.g_Course b_Course_init (ja_cons (je_var 3 (pv 3)) (ja_cons je_int (ja_cons je_int (ja_cons (je_lc (own := [("_law_at", 7)]) rfl nd (ji_rng1 rfl T.u_range (ja_cons je_int ja_nil)) (blkOk_by (N := N_law) (sc := (defScope s_law)) (own := [("_law_at", 7)]) (by decide +kernel)) (fun _ _ _ _ _ => (jgc_name (i := 7) nd rfl (by first | exact Or.inl rfl | exact Or.inr rfl))) (fun _ _ _ _ _ => jts_nil) (fun _ _ _ _ _ => (je_tup (ja_cons (je_op jo_add (je_neg je_int) (je_var 7 (pv 7))) (ja_cons je_int ja_nil))))) (ja_cons (je_tup (ja_cons je_int (ja_cons (je_neg je_int) ja_nil))) ja_nil)))))))
    (jss_cons (js_if (JW.pt (jw_or (jt_cmp (jo_ne (room_units hr)) (je_meth0 jx (je_var 8 (pv 8)) T.cl_Course T.m_Course_left_over F_Course_left_over (hr.mono (by decide)) b_Course_left_over) (je_lrg1 rfl rfl T.u_list rfl T.u_range je_int)) (jw_or (jt_cmp jo_isNotN (je_meth0 jx (je_var 8 (pv 8)) T.cl_Course T.m_Course_done F_Course_done (hr.mono (by decide)) b_Course_done) je_non) (jw_or1 (jt_cmp (jo_ne (room_units hr)) (je_meth0 jx (je_var 8 (pv 8)) T.cl_Course T.m_Course_tape F_Course_tape (hr.mono (by decide)) b_Course_tape) je_str)))))
    (jss_one (js_ret je_bl))
    jss_nil)
    (jss_cons (js_for hp rfl (ji_list (je_lst (ja_cons je_int (ja_cons je_int (ja_cons je_non (ja_cons je_bl (ja_cons je_str ja_nil))))))) (jg_name (i := 6) nd rfl (by first | exact Or.inl rfl | exact Or.inr rfl))
    (jss_one (js_if (jt_cmp (jo_ne (room_units hr)) (je_toldQ (K := K) (q := Str.ofString "law.<locals>.<lambda>") (k := 15) (j := 1) rfl rfl rfl T.g__law_told FT bT sc__law_told rfl rfl (by decide) rfl rfl rfl rfl T.g_RunError T.g__law_word W (by decide) T.tb_law rfl (hr.mono (by decide)) (LamX.lamS_by rfl) rfl (fun _ _ _ _ _ => rfl)
      (fun _ _ _ _ _ _ _ hr jx => (je_meth jx (je_var 8 (pv 8)) T.cl_Course T.m_Course_back F_Course_back (hr.mono (by decide)) b_Course_back (ja_cons (je_var 6 (pv 6)) ja_nil))) (fun c1 c2 z => by first | rfl | (simp only [z]))) (je_tup (ja_cons je_str (ja_cons je_str ja_nil))))
    (jss_one (js_ret je_bl))
    jss_nil)))
    (jss_cons (js_expr (je_meth jx (je_var 8 (pv 8)) T.cl_Course T.m_Course_tick F_Course_tick (hr.mono (by decide)) b_Course_tick (ja_cons je_str ja_nil)))
    (jss_cons (js_for hp rfl (ji_list (je_lst (ja_cons je_int (ja_cons (je_neg je_int) (ja_cons je_int (ja_cons je_non (ja_cons je_bl (ja_cons je_str ja_nil)))))))) (jg_name (i := 6) nd rfl (by first | exact Or.inl rfl | exact Or.inr rfl))
    (jss_one (js_if (JW.pt (jw_or (jt_cmp (jo_ne (room_units hr)) (je_toldQ (K := K) (q := Str.ofString "law.<locals>.<lambda>") (k := 15) (j := 1) rfl rfl rfl T.g__law_told FT bT sc__law_told rfl rfl (by decide) rfl rfl rfl rfl T.g_RunError T.g__law_word W (by decide) T.tb_law rfl (hr.mono (by decide)) (LamX.lamS_by rfl) rfl (fun _ _ _ _ _ => rfl)
      (fun _ _ _ _ _ _ _ hr jx => (je_meth jx (je_var 8 (pv 8)) T.cl_Course T.m_Course_back F_Course_back (hr.mono (by decide)) b_Course_back (ja_cons (je_var 6 (pv 6)) ja_nil))) (fun c1 c2 z => by first | rfl | (simp only [z]))) (je_tup (ja_cons je_str (ja_cons je_str ja_nil)))) (jw_or1 (jt_cmp (jo_ne (room_units hr)) (je_meth0 jx (je_var 8 (pv 8)) T.cl_Course T.m_Course_clock F_Course_clock (hr.mono (by decide)) b_Course_clock) je_int))))
    (jss_one (js_ret je_bl))
    jss_nil)))
    (jss_cons (js_expr (je_meth jx (je_var 8 (pv 8)) T.cl_Course T.m_Course_back F_Course_back (hr.mono (by decide)) b_Course_back (ja_cons je_int ja_nil)))
    (jss_cons (js_if (JW.pt (jw_or (jt_cmp (jo_eq (room_units hr)) (je_toldQ (K := K) (q := Str.ofString "law.<locals>.<lambda>") (k := 15) (j := 1) rfl rfl rfl T.g__law_told FT bT sc__law_told rfl rfl (by decide) rfl rfl rfl rfl T.g_RunError T.g__law_word W (by decide) T.tb_law rfl (hr.mono (by decide)) (LamX.lamS_by rfl) rfl (fun _ _ _ _ _ => rfl)
      (fun _ _ _ _ _ _ _ hr jx => (je_meth jx (je_var 8 (pv 8)) T.cl_Course T.m_Course_tick F_Course_tick (hr.mono (by decide)) b_Course_tick (ja_cons je_str ja_nil))) (fun c1 c2 z => by first | rfl | (simp only [z]))) (je_tup (ja_cons je_str (ja_cons je_str ja_nil)))) (jw_or1 (jt_not (jt_val (je_call jx F__law_trails_bad (hr.mono (by decide)) rfl T.g__law_trails_bad k__law_trails_bad b__law_trails_bad (ja_cons (je_var 3 (pv 3)) ja_nil)))))))
    (jss_one (js_ret je_bl))
    jss_nil)
    (jss_one (js_if (JW.pt (jw_or (jt_cmp (jo_ne (room_units hr)) (je_toldQ (K := K) (q := Str.ofString "law.<locals>.<lambda>") (k := 15) (j := 1) rfl rfl rfl T.g__law_told FT bT sc__law_told rfl rfl (by decide) rfl rfl rfl rfl T.g_RunError T.g__law_word W (by decide) T.tb_law rfl (hr.mono (by decide)) (LamX.lamS_by rfl) rfl (fun _ _ _ _ _ => rfl)
      (fun _ _ _ _ _ _ _ hr jx => (je_meth0 jx (je_var 8 (pv 8)) T.cl_Course T.m_Course_again F_Course_again (hr.mono (by decide)) b_Course_again)) (fun c1 c2 z => by first | rfl | (simp only [z]))) (je_tup (ja_cons je_str (ja_cons je_str ja_nil)))) (jw_or1 (jt_cmp (jo_ne (room_units hr)) (je_meth0 jx (je_var 8 (pv 8)) T.cl_Course T.m_Course_clock F_Course_clock (hr.mono (by decide)) b_Course_clock) je_int))))
    (jss_one (js_ret je_bl))
    jss_nil))))))))))))))))
    (jss_one (js_ret je_bl))), fun ds M Q h => ?_⟩
  clear hr hp tk jx nd FT bT W fdT F_Course_clock b_Course_clock k_Course_clock fd_Course_clock F_Course_again b_Course_again k_Course_again fd_Course_again F__law_trails_bad b__law_trails_bad k__law_trails_bad fd__law_trails_bad F_Course_tick b_Course_tick k_Course_tick fd_Course_tick F_Course_back b_Course_back k_Course_back fd_Course_back F_Course_tape b_Course_tape k_Course_tape fd_Course_tape F_Course_done b_Course_done k_Course_done fd_Course_done F_Course_left_over b_Course_left_over k_Course_left_over fd_Course_left_over F_Course_init b_Course_init k_Course_init fd_Course_init F_World_init b_World_init k_World_init fd_World_init F__law_drawn b__law_drawn k__law_drawn fd__law_drawn F__law_cell b__law_cell k__law_cell fd__law_cell F
  obtain ⟨ns, rfl, hn, rfl, hq⟩ := h
  refine ⟨_, rfl, ⟨by omega, by omega⟩, ?_⟩
  refine loop_inv _ (fun i ρ M' => Kt K M' ∧ ∃ x1 x2 x3 x4 x5 x6 x7 x8, ρ = [some (.scr ns), x1, x2, x3, x4, x5, x6, x7, x8]) ?_ ?_ ⟨⟨rfl, rfl⟩, _, _, _, _, _, _, _, _, rfl⟩
  rotate_left
  · rintro ρ M' ⟨hk, x1, x2, x3, x4, x5, x6, x7, x8, rfl⟩
    obtain ⟨E, rfl⟩ := hk.split
    exact ⟨trivial, .inr ⟨_, Cut.same rfl, hq⟩⟩
  rintro i d hd ρ M0 ⟨hk, x1, x2, x3, x4, x5, x6, x7, x8, rfl⟩
  obtain ⟨hi, rfl⟩ := upTo_get hd
  refine ⟨trivial, fun go hgo => ?_⟩
  refine ⟨rfl, ns, _, rfl, by omega, by omega, hn, fun cell => ⟨rfl, cell, _, rfl, fun more m0 => g_var (i := 2) ?_⟩⟩
  try dsimp only
  refine ⟨le_line rfl, le_line rfl, rfl, ⟨by decide, by decide⟩, _, rowsD tRows, [], rfl, get_end, rows_like grid_t, fun x hx => (nomatch hx), .inr ⟨tRows, 4, 3, rfl, grid_t, .inr ⟨[], rfl, tE_ok.2.1, rfl, ?_⟩⟩⟩
  rw [set_end]
  refine g_var (i := 3) ?_
  try dsimp only
  refine ⟨by decide, by decide, by decide, le_line rfl, g_var (i := 4) ?_⟩
  try dsimp only
  have ha0 := Int.emod_nonneg more (b := 400) (by decide)
  have ha1 := Int.emod_lt_of_pos more (b := 400) (by decide)
  have hb0 := Int.emod_nonneg (more / 512) (b := 400) (by decide)
  have hb1 := Int.emod_lt_of_pos (more / 512) (b := 400) (by decide)
  generalize more % 400 = u1 at ha0 ha1
  generalize more / 512 % 400 = u2 at hb0 hb1
  have hk1 := hk.app [worldO K tRows []]
  have hw1 : IsW K (M0 ++ [worldO K tRows []]) M0.length tE := isW get_end tE_ok
  generalize M0 ++ [worldO K tRows []] = M1 at hk1 hw1
  generalize M0.length = wi at hw1
  clear hk M0
  repeat refine ⟨le_line rfl, ?_⟩
  refine ⟨⟨by decide, by decide⟩, ?_⟩
  refine lc_map _ (fun x => .tup [x, .int 0]) trivial (by decide) (fun x hx yes no hy => tt ⟨le_line rfl, hy⟩) ?_
  repeat refine ⟨le_line rfl, ?_⟩
  have f0 : tE.free 8 0 = true := by decide +kernel
  have sI : ∀ i : Int, Shown (.int i) := fun i _ => rfl
  refine ⟨_, _, rfl, rfl, show 13 ≤ sizeLine by decide, ?_⟩
  refine loop_inv (bads1 (placeD (u1, u2)) ++ bads2) (fun _ ρ M' => ∃ (E : Mem) (x5 x6 x7 x8 : Option D), M' = M1 ++ E ∧ ρ = [some (.scr ns), some (.int (0 + (i : Int))), some (.int more), some (.ref wi), some (placeD (u1, u2)), x5, x6, x7, x8]) ?_ ?_ ⟨[], _, _, _, _, (List.append_nil M1).symm, rfl⟩
  · clear x1 x2 x3 x4 x5 x6 x7 x8
    rintro j d hd ρ _ ⟨E, x5, x6, x7, x8, rfl, rfl⟩
    obtain ⟨p1, p2⟩ := bads_ok (List.mem_of_getElem? hd)
    clear hd
    refine ⟨trivial, fun go2 hgo2 => ?_⟩
    refine ⟨get_left hk1.2, rfl, ⟨by decide, by decide⟩, _, wi, tE, .int 8, .int 0, d, placeD (u1, u2), rfl, get_end, hw1.left.left, sI 8, sI 0, .inr ⟨8, 0, rfl, rfl, by decide, by decide, f0, p1, plA_ok rfl, .inr ⟨p2, fun M' hf => ⟨T.e_BadCourse_RunError, Str.ofString "BadCourse", by simp, rfl, le_line rfl, _, _, rfl, rfl, by decide, ?_⟩⟩⟩⟩
    rw [ne_same rfl]
    refine ff ?_
    obtain ⟨E', rfl⟩ := frm_split (M := M1) (by rw [← List.append_assoc]; exact hf) fun i hi => by rw [List.mem_singleton.mp hi, List.length_append]; omega
    exact hgo2 _ _ ⟨E', _, _, _, _, rfl, rfl⟩
  clear x1 x2 x3 x4 x5 x6 x7 x8
  rintro ρ _ ⟨E, x5, x6, x7, x8, rfl, rfl⟩
  refine ⟨trivial, ?_⟩
  repeat refine ⟨le_line rfl, ?_⟩
  refine loop_inv _ (fun _ ρ M' => ∃ (E : Mem) (x5 x6 x7 x8 : Option D), M' = M1 ++ E ∧ ρ = [some (.scr ns), some (.int (0 + (i : Int))), some (.int more), some (.ref wi), some (placeD (u1, u2)), x5, x6, x7, x8]) ?_ ?_ ⟨E, _, _, _, _, rfl, rfl⟩
  · clear x5 x6 x7 x8 E
    rintro j d hd ρ _ ⟨E, x5, x6, x7, x8, rfl, rfl⟩
    have hm := List.mem_of_getElem? hd
    simp only [List.mem_cons, List.not_mem_nil, or_false] at hm
    have key : plA d = true ∧ isUnit d = false := by
      rcases hm with e | e | e | e | e | e | e
      all_goals
        subst e
        exact ⟨by decide +kernel, by decide +kernel⟩
    clear hd hm
    refine ⟨trivial, fun go2 hgo2 => ?_⟩
    refine ⟨get_left hk1.2, le_line rfl, rfl, ⟨by decide, by decide⟩, _, wi, tE, .int 8, .int 0, .lst [], d, rfl, get_end, hw1.left.left, sI 8, sI 0, .inr ⟨8, 0, rfl, rfl, by decide, by decide, f0, plL_ok rfl, plA_ok key.1, .inr ⟨fun us v q => (by rw [(goodB_of q).2] at key; cases key.2), fun M' hf => ⟨T.e_BadCourse_RunError, Str.ofString "BadCourse", by simp, rfl, le_line rfl, _, _, rfl, rfl, by decide, ?_⟩⟩⟩⟩
    rw [ne_same rfl]
    refine ff ?_
    obtain ⟨E', rfl⟩ := frm_split (M := M1) (by rw [← List.append_assoc]; exact hf) fun i hi => by rw [List.mem_singleton.mp hi, List.length_append]; omega
    exact hgo2 _ _ ⟨E', _, _, _, _, rfl, rfl⟩
  clear x5 x6 x7 x8 E
  rintro ρ _ ⟨E, x5, x6, x7, x8, rfl, rfl⟩
  refine ⟨trivial, ⟨by decide, by decide⟩, ?_⟩
  refine lc_map _ (fun x => match x with
    | .int i => .tup [.int (-400 + i), .int 400]
    | _ => .non) trivial (by decide) (fun x hx yes no hy => ?_) ?_
  · obtain ⟨k, hk⟩ := List.getElem?_of_mem hx
    obtain ⟨-, rfl⟩ := upTo_get hk
    exact tt ⟨le_line rfl, hy⟩
  rw [show List.map _ (J.upTo 0 (Int.toNat 20)) = us20.map placeD from rfl]
  refine ⟨le_line rfl, rfl, ⟨by decide, by decide⟩, _, wi, tE, .int 8, .int 0, .lst (us20.map placeD), placeD (400, -400), rfl, get_end, hw1.left.left, sI 8, sI 0, .inr ⟨8, 0, rfl, rfl, by decide, by decide, f0, plL_ok (by decide +kernel), plA_ok rfl, .inl ⟨us20, (400, -400), ⟨rfl, rfl, us20_ok.1, us20_ok.2.1, us20_ok.2.2.1, us20_ok.2.2.2⟩, fun M2 r q g hf hC => ⟨rfl, ?_⟩⟩⟩⟩
  obtain ⟨E', rfl⟩ := frm_split (M := M1) (by rw [← List.append_assoc]; exact hf) fun i hi => by rw [List.mem_singleton.mp hi, List.length_append]; omega
  have hk2 := hk1.app E'
  have hC : IsC K (M1 ++ E') _ wi r q g o20 (rawC o20) := begin20 ▸ hC
  clear hf
  generalize M1 ++ E' = M2 at hk2 hC
  generalize (M1 ++ E).length = cc at hC
  refine g_var (i := 8) ?_
  try dsimp only
  refine ⟨_, _, hC.c, by decide, rfl, cc, wi, r, q, g, o20, rawC o20, rfl, hC, ?_⟩
  rw [left20]
  rw [show ((List.range 20).map fun (n : Nat) => D.int (0 + (n : Int))) = J.upTo 0 (Int.toNat 20) from rfl]
  refine ⟨⟨by decide, by decide⟩, _, _, rfl, rfl, by decide +kernel, ?_⟩
  rw [ne_same rfl]
  refine ff ⟨_, _, hC.c, by decide, rfl, cc, wi, r, q, g, o20, rawC o20, rfl, hC, ff ⟨_, _, hC.c, by decide, rfl, cc, wi, r, q, g, o20, rawC o20, rfl, hC, fun _ z => (nomatch z), by decide, ?_⟩⟩
  rw [show textM (rawC o20).zs = Str.ofString "" from rfl]
  refine ff ?_
  try dsimp only [sSkip]
  refine ⟨le_line rfl, ?_⟩
  refine loop_inv _ (fun _ ρ M' => ∃ x5 x6 x7 : Option D, M' = M2 ∧ ρ = [some (.scr ns), some (.int (0 + (i : Int))), some (.int more), some (.ref wi), some (placeD (u1, u2)), x5, x6, x7, some (.ref cc)]) ?_ ?_ ⟨x5, x6, x7, rfl, rfl⟩
  · clear x5 x6 x7
    rintro j d hd ρ _ ⟨x5, x6, x7, rfl, rfl⟩
    have hm := List.mem_of_getElem? hd
    simp only [List.mem_cons, List.not_mem_nil, or_false] at hm
    have key : (∀ M, (tyN M d).isSome = true) ∧ isCount d 1 (([] : List Str).length : Int) = false := by
      rcases hm with e | e | e | e | e
      all_goals
        subst e
        exact ⟨fun _ => rfl, by decide +kernel⟩
    clear hd hm
    refine ⟨trivial, fun go2 hgo2 => ?_⟩
    refine ⟨hk2.2, _, _, hC.c, by decide, rfl, cc, wi, r, q, g, o20, rawC o20, d, rfl, hC, key.1 _, .inl ⟨key.2, T.e_Nothing_RunError, Str.ofString "Nothing", by simp, rfl, le_line rfl, _, _, rfl, rfl, by decide, ?_⟩⟩
    rw [ne_same rfl]
    exact ff (hgo2 _ _ ⟨_, _, _, rfl, rfl⟩)
  clear x5 x6 x7
  rintro ρ _ ⟨x5, x6, x7, rfl, rfl⟩
  refine ⟨trivial, ?_⟩
  refine ⟨_, _, hC.c, by decide, rfl, cc, wi, r, q, g, o20, rawC o20, .str "r", rfl, hC, rfl, fun z e => (by cases e; decide), .inl ⟨"r", rfl, by decide +kernel, by decide, fun M3 hf3 hC3 => ?_⟩⟩
  have hk3 := hk2.fr hC hf3
  clear hf3
  have hC3 : IsC K M3 cc wi r q g o20 t1c := hC3
  refine ⟨le_line rfl, ?_⟩
  refine loop_inv _ (fun _ ρ M' => ∃ x5 x6 x7 : Option D, M' = M3 ∧ ρ = [some (.scr ns), some (.int (0 + (i : Int))), some (.int more), some (.ref wi), some (placeD (u1, u2)), x5, x6, x7, some (.ref cc)]) ?_ ?_ ⟨x5, x6, x7, rfl, rfl⟩
  · clear x5 x6 x7
    rintro j d hd ρ _ ⟨x5, x6, x7, rfl, rfl⟩
    have hm := List.mem_of_getElem? hd
    simp only [List.mem_cons, List.not_mem_nil, or_false] at hm
    have key : (∀ M, (tyN M d).isSome = true) ∧ isCount d 1 (t1c.zs.length : Int) = false := by
      rw [t1c_zs]
      rcases hm with e | e | e | e | e | e
      all_goals
        subst e
        exact ⟨fun _ => rfl, by decide +kernel⟩
    clear hd hm
    refine ⟨trivial, fun go2 hgo2 => ?_⟩
    refine ⟨hk3.2, _, _, hC3.c, by decide, rfl, cc, wi, r, q, g, o20, t1c, d, rfl, hC3, key.1 _, .inl ⟨key.2, T.e_Nothing_RunError, Str.ofString "Nothing", by simp, rfl, le_line rfl, _, _, rfl, rfl, by decide, ?_⟩⟩
    rw [ne_same rfl]
    refine ff ⟨_, _, hC3.c, by decide, rfl, cc, wi, r, q, g, o20, t1c, rfl, hC3, ?_⟩
    rw [t1c_zs]
    exact ff (hgo2 _ _ ⟨_, _, _, rfl, rfl⟩)
  clear x5 x6 x7
  rintro ρ _ ⟨x5, x6, x7, rfl, rfl⟩
  refine ⟨trivial, ?_⟩
  refine ⟨_, _, hC3.c, by decide, rfl, cc, wi, r, q, g, o20, t1c, .int 1, rfl, hC3, rfl, .inr ⟨1, rfl, by decide, by rw [t1c_zs]; decide, by rw [t1c_zs]; decide, by rw [t1c_gone]; decide, fun z hz => (by rw [t1c_zs] at hz; rw [List.mem_singleton.mp hz]; decide +kernel), by decide, by decide, f0, fun M4 r4 q4 g4 hf4 hC4 => ?_⟩⟩
  have hk4 := hk3.fr hC3 (hf4.more fun i hi => .inl (by rw [List.mem_singleton.mp hi]; simp))
  have hC4 : IsC K M4 cc wi r4 q4 g4 o20 t2c := hC4
  clear hf4 hC hC3 hk2 hk3
  refine ⟨hk4.2, _, _, hC4.c, by decide, rfl, cc, wi, r4, q4, g4, o20, t2c, .str "lr", rfl, hC4, rfl, fun z e => (by cases e; decide), .inl ⟨"lr", rfl, by decide +kernel, by rw [t2c_zs]; decide, fun M5 hf5 hC5 => ?_⟩⟩
  have hk5 := hk4.fr hC4 hf5
  have hC5 : IsC K M5 cc wi r4 q4 g4 o20 t3c := hC5
  rw [found3]
  try dsimp only [List.map_nil]
  refine ⟨le_line rfl, ?_⟩
  refine ⟨_, _, rfl, rfl, by decide, ?_⟩
  refine ff ⟨rfl, wi, rfl, hk5.1, hC5.w, ff ?_⟩
  try dsimp only [sSkip]
  refine ⟨hk5.2, _, _, hC5.c, by decide, rfl, cc, wi, r4, q4, g4, o20, t3c, rfl, hC5, .inl ⟨t3c_gone, T.e_Nothing_RunError, Str.ofString "Nothing", by simp, rfl, le_line rfl, _, _, rfl, rfl, by decide, ?_⟩⟩
  rw [ne_same rfl]
  refine ff ⟨_, _, hC5.c, by decide, rfl, cc, wi, r4, q4, g4, o20, t3c, rfl, hC5, ?_⟩
  rw [t3c_zs]
  exact ff (hgo _ _ ⟨hk5, _, _, _, _, _, _, _, _, rfl⟩)

end

abbrev Rw : PySem.W.OpenRow := PySem.W.OpenLaw.row PySem.Challenge.rw_floorrun_k81_courses_refused
abbrev hk : PySem.W.Hook := He.hookX 5 fa fn [] tf exB
def ob (s : PySem.W.SharedT) : He.AlX := He.obsX 5 fa fn [] tf exB (HandSHeadRun.getT s)
theorem ob_eq (s : PySem.W.SharedT) : ob s = hk.obs s.abs := He.obsX_eq (HandSHeadRun.getT_eq s)
theorem run (w : World) : HandSHeadRun.RunEq Rw (PySem.W.view Rw.prog [57]) hk ob 6000 loose w := by
  intro os
  kernel_rfl
theorem law_ends {P : Program} {w : World} {K : PySem.W.Frag} {h : Heap} {mg : Str → Option Value} {f : Addr} (X : K.In h) (G : h.Ns mainGlobals mg) (hfa : mg ("law" : Str) = some (.ref f)) (c : He.SaysD fa fn K) (m : exB K = true) :
    ∃ fd : FuncData, (∀ (s : Shared) (v : Value), BindsTo s fd ⟨[v], []⟩ [("_law_script", v)]) ∧ ∀ base : Heap, (∀ p ∈ tf.map (He.cT K), LamX.TabB base mg p.1 p.2) → FnOk P w K mg base (L2N.CX P w) 18 f fd ["_law_script"] (spD K 1 (ct_law K)) := by
  have e := hfa.symm.trans (He.glo_ok X G (c.fact 23 (f := .glo "law") rfl))
  cases e
  obtain ⟨fd, F⟩ := c.def_ 56 (d := d_law) rfl
  exact ⟨fd, fun s v => FunD.bindsA (ps := ["_law_script"]) F (fun _ _ _ _ _ _ us hl => match us, hl with | [_], _ => rfl) s [v] rfl, fun base tb => ok_law (P := P) (w := w) (base := base) (txt X G c m tb) F⟩
end Fl
open PySem PySem.W PySem.Calls PyProof.Rows
theorem PySem.Challenge.cw_floorrun_k81_courses_refused_holds : PySem.Challenge.rw_floorrun_k81_courses_refused.Holds := by
  w_on; o_law
  refine HandSHeadRun.head_any (r := OpenLaw.row PySem.Challenge.rw_floorrun_k81_courses_refused) (q := view (OpenLaw.row PySem.Challenge.rw_floorrun_k81_courses_refused).prog [57]) (H := Fl.hk) (ob := Fl.ob) (M := 6000) (loose := Fl.loose) (d := HandSHeadRun.topDef (OpenLaw.row PySem.Challenge.rw_floorrun_k81_courses_refused).prog 57) (kwd := []) Fl.ob_eq
    (by kernel_rfl) (fun s => by kernel_rfl) Fl.run (by kernel_rfl) (by kernel_rfl) (by kernel_rfl) (by rfl) (by first | assumption | decide +kernel) (by decide +kernel) ⟨rfl, rfl, rfl, rfl, rfl, by decide +kernel⟩ ?hw ?hc
  case hw => w_witness2
  case hc =>
    refine LamX.walk_ofTsE (l := PySem.Challenge.rw_floorrun_k81_courses_refused) (n := 63) (k := 18) (x := "_law_script") (CX := fun w => L2N.CX (PySem.Challenge.rw_floorrun_k81_courses_refused).prog w) rfl (by decide) (by kernel_rfl) ⟨rfl, by decide, by decide⟩ ?F (fun w H s e s' z => by
      obtain ⟨_, _, _, _, _, _, _, _, _, _, _, _, q⟩ := z
      exact q)
    intro w mg fa h Y G hmg0
    obtain ⟨K, KX, c⟩ := Y
    have hmg : mg ("law" : PySem.Str) = some (.ref fa) := by
      have e : (HandSHeadRun.topDef (OpenLaw.row PySem.Challenge.rw_floorrun_k81_courses_refused).prog 57).name = ("law" : PySem.Str) := by kernel_rfl
      rw [← e]
      exact hmg0
    obtain ⟨fd, hb, hF⟩ := Fl.law_ends (P := (PySem.Challenge.rw_floorrun_k81_courses_refused).prog) (w := w) KX G hmg c.t.d c.more
    refine ⟨K, KX, fd, Fl.tf.map (He.cT K), J.spD K 1 (Fl.ct_law K), fun q hq => ?_, fun q hq => ?_, fun q hq => ?_, hb, fun H a ns hl hbits hH hS => ?_, fun base _ _ tb => hF base tb⟩
    · obtain ⟨p, hp, rfl⟩ := List.mem_map.mp hq
      exact c.empty p hp
    · obtain ⟨p, hp, rfl⟩ := List.mem_map.mp hq
      exact c.out p hp
    · obtain ⟨p, hp, rfl⟩ := List.mem_map.mp hq
      exact PySem.W.codeHd_of_K KX (c.hd p hp)
    · exact J.sp_startT2 (Fl.tabs_ne c.more) (hH (He.cT K ("_law_trails_bad", none)) (List.mem_of_getElem? (l := Fl.tf.map (He.cT K)) (i := 0) rfl)) (hH (He.cT K ("law", none)) (List.mem_of_getElem? (l := Fl.tf.map (He.cT K)) (i := 1) rfl)) hS ⟨ns, rfl, hl, rfl, rfl⟩
