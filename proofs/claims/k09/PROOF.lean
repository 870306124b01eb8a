import PyProof.Rows.All
import Wide.All
import OpenK.AllK
import Wide.FinOn
import HandS.ForMost
import HandS.ForExc
import HandS.TryMany
import HandS.Lambda
import HandS.IsInst
import HandS.Deep
import HandS.TupAny
import HandS.TupMul
import HandS.Zip
import HandS.Conv
import HandS.Style
import HandS.TupLe
import HandS.Walk
import HandS.EndTab
import HandS.EndBits
import HandS.Small
import KE.GoesEnum
import HandS.EndOwn
import PySem.Challenge.RW_hopskept_k09_whole_packets_and_cubes_of
set_option Elab.async false
set_option linter.all false
set_option maxRecDepth 100000
set_option maxHeartbeats 4000000
/-! PL: pure denotations over the hand layer. -/
namespace PL
open PySem PySem.Spec PyProof.Rows L2
open PySem.W (Frag)
abbrev D := PyData
/-- the part G of the tracked heap H -/
def Sub (G H : Hp) : Prop := ∀ b o, G b = some o → H b = some o
theorem Sub.refl (G : Hp) : Sub G G := fun _ _ h => h
theorem Sub.trans {A B C : Hp} (a : Sub A B) (b : Sub B C) : Sub A C := fun x o h => b x o (a x o h)
theorem Sub.isNone {G H : Hp} (s : Sub G H) {b : Addr} (h : H b = none) : G b = none := by
  cases e : G b with
  | none => rfl
  | some o => rw [s b o e] at h; cases h
theorem Sub.upd {G H : Hp} (s : Sub G H) {p : Addr} {o : HO} (h : H p = none) : Sub G (upd H p o) := fun b u e => by
  have hb : b ≠ p := fun z => by rw [z] at e; rw [s _ _ e] at h; cases h
  rw [upd_ne hb]; exact s b u e
theorem Sub.rd {G H : Hp} (s : Sub G H) {a : Addr} {u : HO} (h : Rd G a u) : Rd H a u := by
  rcases h with h | ⟨o, h⟩
  · exact .inl (s _ _ h)
  · exact .inr ⟨o, s _ _ h⟩
theorem Sub.sql {K : Frag} {G H : Hp} (s : Sub G H) {a : Addr} {xs : List V} (h : SqL K G a xs) : SqL K H a xs := by
  rcases h with h | h
  · exact .inl (s.rd h)
  · exact .inr h
theorem Sub.sqt {K : Frag} {G H : Hp} (s : Sub G H) {a : Addr} {xs : List V} (h : SqT K G a xs) : SqT K H a xs := by
  rcases h with h | h
  · exact .inl (s.rd h)
  · exact .inr h
/-- a list to be read -/
def LqL (K : Frag) (G : Hp) (a : Addr) (xs : List V) : Prop := G a = some (.lst xs)
theorem LqL.sq {K : Frag} {G : Hp} {a : Addr} {xs : List V} (h : LqL K G a xs) : SqL K G a xs := SqL.of h
theorem Sub.lql {K : Frag} {G H : Hp} (s : Sub G H) {a : Addr} {xs : List V} (h : LqL K G a xs) : LqL K H a xs := s _ _ h
/-- a key as data -/
def keyD : L2.Key → D
  | .inl i => .int i
  | .inr x => .str x
mutual
/-- the value v stands for the data d, by the part G of the heap -/
inductive Rp (K : Frag) (G : Hp) : V → D → Prop
  | non : Rp K G .non .none
  | bl (b : Bool) : Rp K G (.bl b) (.bool b)
  | int (i : Int) : Rp K G (.int i) (.int i)
  | str (x : Str) : Rp K G (.str x) (.str x)
  | lst {a : Addr} {xs : List V} {ds : List D} : LqL K G a xs → xs.length ≤ sizeLine → Rps K G xs ds → Rp K G (.ref a) (.list ds)
  | tup {a : Addr} {xs : List V} {ds : List D} : SqT K G a xs → xs.length ≤ sizeLine → Rps K G xs ds → Rp K G (.ref a) (.tuple ds)
  | dic {a : Addr} {kvs : List (L2.Key × V)} {ds : List D} : G a = some (.dK kvs) → Rps K G (kvs.map (·.2)) ds → Rp K G (.ref a) (.dict ((kvs.map fun p => keyD p.1).zip ds))
inductive Rps (K : Frag) (G : Hp) : List V → List D → Prop
  | nil : Rps K G [] []
  | cons {v : V} {vs : List V} {d : D} {ds : List D} : Rp K G v d → Rps K G vs ds → Rps K G (v :: vs) (d :: ds)
end
section
variable {K : Frag} {G G' H : Hp}
mutual
theorem Rp.mono (s : Sub G G') : ∀ {v : V} {d : D}, Rp K G v d → Rp K G' v d
  | _, _, .non => .non
  | _, _, .bl b => .bl b
  | _, _, .int i => .int i
  | _, _, .str x => .str x
  | _, _, .lst h z r => .lst (s.lql h) z (Rps.mono s r)
  | _, _, .tup h z r => .tup (s.sqt h) z (Rps.mono s r)
  | _, _, .dic h r => .dic (s _ _ h) (Rps.mono s r)
theorem Rps.mono (s : Sub G G') : ∀ {vs : List V} {ds : List D}, Rps K G vs ds → Rps K G' vs ds
  | _, _, .nil => .nil
  | _, _, .cons a r => .cons (Rp.mono s a) (Rps.mono s r)
end
theorem Rps.length : ∀ {vs : List V} {ds : List D}, Rps K G vs ds → vs.length = ds.length
  | _, _, .nil => rfl
  | _, _, .cons _ r => congrArg (· + 1) (Rps.length r)
theorem Rps.append : ∀ {vs ws : List V} {ds es : List D}, Rps K G vs ds → Rps K G ws es → Rps K G (vs ++ ws) (ds ++ es)
  | _, _, _, _, .nil, s => s
  | _, _, _, _, .cons a r, s => .cons a (Rps.append r s)
theorem Rps.get : ∀ {vs : List V} {ds : List D} {i : Nat} {d : D}, Rps K G vs ds → ds[i]? = some d → ∃ v, vs[i]? = some v ∧ Rp K G v d
  | _, _, _, _, .nil, e => by simp at e
  | _, _, 0, _, .cons a _, e => by simp at e; subst e; exact ⟨_, rfl, a⟩
  | _, _, i + 1, _, .cons _ r, e => by
    obtain ⟨v, h1, h2⟩ := Rps.get (i := i) r (by simpa using e)
    exact ⟨v, by simpa using h1, h2⟩
theorem Rps.getV : ∀ {vs : List V} {ds : List D} {i : Nat} {v : V}, Rps K G vs ds → vs[i]? = some v → ∃ d, ds[i]? = some d ∧ Rp K G v d
  | _, _, _, _, .nil, e => by simp at e
  | _, _, 0, _, .cons a _, e => by simp at e; subst e; exact ⟨_, rfl, a⟩
  | _, _, i + 1, _, .cons _ r, e => by
    obtain ⟨v, h1, h2⟩ := Rps.getV (i := i) r (by simpa using e)
    exact ⟨v, by simpa using h1, h2⟩
theorem Rps.drop : ∀ {vs : List V} {ds : List D} (n : Nat), Rps K G vs ds → Rps K G (vs.drop n) (ds.drop n)
  | _, _, 0, r => r
  | _, _, _ + 1, .nil => .nil
  | _, _, n + 1, .cons _ r => Rps.drop n r
theorem Rps.take : ∀ {vs : List V} {ds : List D} (n : Nat), Rps K G vs ds → Rps K G (vs.take n) (ds.take n)
  | _, _, 0, _ => .nil
  | _, _, _ + 1, .nil => .nil
  | _, _, n + 1, .cons a r => .cons a (Rps.take n r)
theorem Rps.set {v : V} {d : D} (a : Rp K G v d) : ∀ {vs : List V} {ds : List D} (i : Nat), Rps K G vs ds → Rps K G (vs.set i v) (ds.set i d)
  | _, _, _, .nil => .nil
  | _, _, 0, .cons _ r => .cons a r
  | _, _, i + 1, .cons b r => .cons b (Rps.set a i r)
theorem Rps.ints : ∀ {vs : List V} {ns : List Int}, Rps K G vs (ns.map PyData.int) → vs = ns.map V.int
  | _, [], h => by cases h; rfl
  | _, n :: ns, h => by
    cases h with
    | cons a r => cases a; rw [List.map_cons, Rps.ints r]
theorem Rps.bools : ∀ {vs : List V} {ns : List Bool}, Rps K G vs (ns.map PyData.bool) → vs = ns.map V.bl
  | _, [], h => by cases h; rfl
  | _, n :: ns, h => by
    cases h with
    | cons a r => cases a; rw [List.map_cons, Rps.bools r]
theorem Rps.of_ints : ∀ (ns : List Int), Rps K G (ns.map V.int) (ns.map PyData.int)
  | [] => .nil
  | n :: ns => .cons (.int n) (Rps.of_ints ns)
theorem Rps.strs : ∀ {vs : List V} {ns : List Str}, Rps K G vs (ns.map PyData.str) → vs = ns.map V.str
  | _, [], h => by cases h; rfl
  | _, n :: ns, h => by
    cases h with
    | cons a r => cases a; rw [List.map_cons, Rps.strs r]
mutual
/-- data without dicts -/
def noD : D → Bool
  | .dict _ => false
  | .list xs => noDs xs
  | .tuple xs => noDs xs
  | _ => true
def noDs : List D → Bool
  | [] => true
  | d :: ds => noD d && noDs ds
end
mutual
theorem Rp.dp : ∀ {v : V} {d : D}, Rp K G v d → noD d = true → Dp K G v d
  | _, _, .non, _ => .non
  | _, _, .bl b, _ => .bl b
  | _, _, .int i, _ => .int i
  | _, _, .str x, _ => .str x
  | _, _, .lst h _ r, n => .lst h.sq (Rps.dp r n)
  | _, _, .tup h _ r, n => .tup h (Rps.dp r n)
  | _, _, .dic _ _, n => by cases n
theorem Rps.dp : ∀ {vs : List V} {ds : List D}, Rps K G vs ds → noDs ds = true → DpAll K G vs ds
  | _, _, .nil, _ => .nil
  | _, _, .cons a r, n => by
    have n' := Bool.and_eq_true_iff.mp n
    exact .cons (Rp.dp a n'.1) (Rps.dp r n'.2)
end
mutual
theorem dp_mono (s : Sub G H) : ∀ {v : V} {d : D}, Dp K G v d → Dp K H v d
  | _, _, .non => .non
  | _, _, .bl b => .bl b
  | _, _, .int i => .int i
  | _, _, .str x => .str x
  | _, _, .lst h r => .lst (s.sql h) (dps_mono s r)
  | _, _, .tup h r => .tup (s.sqt h) (dps_mono s r)
theorem dps_mono (s : Sub G H) : ∀ {vs : List V} {ds : List D}, DpAll K G vs ds → DpAll K H vs ds
  | _, _, .nil => .nil
  | _, _, .cons a r => .cons (dp_mono s a) (dps_mono s r)
end
end
/-- the object o stands for d -/
inductive HoR (K : Frag) (G : Hp) : HO → D → Prop
  | lst {xs : List V} {ds : List D} : xs.length ≤ sizeLine → Rps K G xs ds → HoR K G (.lst xs) (.list ds)
  | dic {kvs : List (L2.Key × V)} {ds : List D} : Rps K G (kvs.map (·.2)) ds → HoR K G (.dK kvs) (.dict ((kvs.map fun p => keyD p.1).zip ds))
theorem HoR.mono {K : Frag} {G G' : Hp} (s : Sub G G') {o : HO} {d : D} (h : HoR K G o d) : HoR K G' o d := by
  cases h with
  | lst z r => exact .lst z (r.mono s)
  | dic r => exact .dic (r.mono s)
theorem HoR.rp {K : Frag} {G G' : Hp} (s : Sub G G') {a : Addr} {o : HO} {d : D} (h : HoR K G o d) (e : G' a = some o) : Rp K G' (.ref a) d := by
  cases h with
  | lst z r => exact .lst e z (r.mono s)
  | dic r => exact .dic e (r.mono s)
theorem HoR.notbl {K : Frag} {G : Hp} {o : HO} {d : D} (h : HoR K G o d) : ∀ ps, o ≠ .tbl ps := fun ps z => by subst z; cases h
theorem HoR.mut {K : Frag} {G : Hp} {o : HO} {d : D} (h : HoR K G o d) : Mut (some o) := by cases h <;> trivial
/-! ### what stands in the slots -/
inductive Slot where
  | un | val (d : D) | own (d : D) | io (d : D)
abbrev DEnv := List Slot
/-- the slot's object is ours alone, to be written -/
def Slot.mine : Slot → Option D
  | .own d => some d
  | .io d => some d
  | _ => none
def SlotR (K : Frag) (G H : Hp) (x : Option (Option V)) : Slot → Prop
  | .un => True
  | .val d => ∃ v, x = some (some v) ∧ Rp K G v d
  | .own d => ∃ a o, x = some (some (.ref a)) ∧ H a = some o ∧ G a = none ∧ HoR K G o d
  | .io d => ∃ a o, x = some (some (.ref a)) ∧ H a = some o ∧ G a = none ∧ HoR K G o d
/-- the address of a slot that is ours -/
def OwnAt (σ : L2.St) (ρ : DEnv) (a : Addr) : Prop := ∃ (i : Nat) (s : Slot) (d : D), ρ[i]? = some s ∧ s.mine = some d ∧ σ[i]? = some (some (.ref a))
abbrev Tb := List (Addr × Str)
structure SR (K : Frag) (T : Tb) (G H : Hp) (σ : L2.St) (ρ : DEnv) : Prop where
  sub : Sub G H
  len : σ.length = ρ.length
  sl : ∀ (i : Nat) (s : Slot), ρ[i]? = some s → SlotR K G H σ[i]? s
  ne : ∀ (i j : Nat) (s t : Slot) (d e : D) (a : Addr), ρ[i]? = some s → ρ[j]? = some t → s.mine = some d → t.mine = some e → σ[i]? = some (some (.ref a)) → σ[j]? = some (some (.ref a)) → i = j
  tab : LamX.Tabs T H ∧ ∀ b ps, G b ≠ some (.tbl ps)
/-- what lies behind: G' H' σ' ρ' comes of G H σ ρ -/
structure After (K : Frag) (T : Tb) (G H : Hp) (σ : L2.St) (ρ : DEnv) (G' H' : Hp) (σ' : L2.St) (ρ' : DEnv) : Prop where
  gs : Sub G G'
  sr : SR K T G' H' σ' ρ'
  fr : ∀ b o, H b = some o → (∀ ps, o ≠ .tbl ps) → ¬ OwnAt σ ρ b → H' b = some o ∧ ¬ OwnAt σ' ρ' b
  gn : ∀ b o, H b = some o → (∀ ps, o ≠ .tbl ps) → G b = none → ¬ OwnAt σ ρ b → G' b = none
  io : ∀ (i : Nat) (d : D), ρ[i]? = some (.io d) → σ'[i]? = σ[i]? ∧ ∃ d', ρ'[i]? = some (.io d')
  tr : ∀ b o, H b = some o → (∀ ps, o ≠ .tbl ps) → ∃ o', H' b = some o' ∧ ∀ ps, o' ≠ .tbl ps
/-- nothing that is written stands at a -/
def Fre (H : Hp) (a : Addr) : Prop := ∀ o, H a = some o → ∃ ps, o = .tbl ps
theorem Fre.of {H : Hp} {a : Addr} (h : H a = none) : Fre H a := fun o e => by rw [h] at e; cases e
section
variable {K : Frag} {T : Tb} {G H G' H' G2 H2 : Hp} {σ σ' σ2 : L2.St} {ρ ρ' ρ2 : DEnv}
theorem After.refl (s : SR K T G H σ ρ) : After K T G H σ ρ G H σ ρ := ⟨Sub.refl G, s, fun _ _ h _ n => ⟨h, n⟩, fun _ _ _ _ h _ => h, fun _ d h => ⟨rfl, d, h⟩, fun _ o h n => ⟨o, h, n⟩⟩
theorem After.trans (a : After K T G H σ ρ G' H' σ' ρ') (b : After K T G' H' σ' ρ' G2 H2 σ2 ρ2) : After K T G H σ ρ G2 H2 σ2 ρ2 where
  gs := a.gs.trans b.gs
  sr := b.sr
  fr := fun x o h nt no => by
    obtain ⟨h1, n1⟩ := a.fr x o h nt no
    exact b.fr x o h1 nt n1
  gn := fun x o h nt g no => by
    obtain ⟨h1, n1⟩ := a.fr x o h nt no
    exact b.gn x o h1 nt (a.gn x o h nt g no) n1
  io := fun i d h => by
    obtain ⟨e1, d1, h1⟩ := a.io i d h
    obtain ⟨e2, d2, h2⟩ := b.io i d1 h1
    exact ⟨e2.trans e1, d2, h2⟩
  tr := fun x o h n => by
    obtain ⟨o1, h1, n1⟩ := a.tr x o h n
    exact b.tr x o1 h1 n1
/-- pure growth: new objects alone -/
structure Grow (G H G' H' : Hp) : Prop where
  gs : Sub G G'
  hs : Sub H H'
  sub : Sub G' H'
  gn : ∀ b o, H b = some o → G b = none → G' b = none
  nt : ∀ b ps, G' b = some (.tbl ps) → G b = some (.tbl ps)
theorem Grow.refl (s : Sub G H) : Grow G H G H := ⟨Sub.refl _, Sub.refl _, s, fun _ _ _ h => h, fun _ _ h => h⟩
theorem Grow.trans (a : Grow G H G' H') (b : Grow G' H' G2 H2) : Grow G H G2 H2 :=
  ⟨a.gs.trans b.gs, a.hs.trans b.hs, b.sub, fun x o h g => b.gn x o (a.hs x o h) (a.gn x o h g), fun x ps h => a.nt x ps (b.nt x ps h)⟩
/-- a new object, told of in G too -/
theorem Grow.new (s : Sub G H) {p : Addr} {o : HO} (h : H p = none) (nt : ∀ ps, o ≠ .tbl ps := by intro _ z; cases z) : Grow G H (upd G p o) (upd H p o) where
  nt := fun b ps e => by
    by_cases hb : b = p
    · subst hb; rw [upd_same] at e; exact absurd (Option.some.inj e) (nt ps)
    · rw [upd_ne hb] at e; exact e
  gs := (Sub.refl G).upd (s.isNone h)
  hs := (Sub.refl H).upd h
  sub := fun b u e => by
    by_cases hb : b = p
    · subst hb; rw [upd_same] at e ⊢; exact e
    · rw [upd_ne hb] at e ⊢; exact s b u e
  gn := fun b u e g => by
    have hb : b ≠ p := fun z => by rw [z, h] at e; cases e
    rw [upd_ne hb]; exact g
/-- a new object that G does not tell of -/
theorem Grow.hid (s : Sub G H) {p : Addr} {o : HO} (h : H p = none) : Grow G H G (upd H p o) where
  nt := fun _ _ h => h
  gs := Sub.refl G
  hs := (Sub.refl H).upd h
  sub := s.upd h
  gn := fun _ _ _ g => g
theorem SlotR.grow (g : Grow G H G' H') {x : Option (Option V)} {s : Slot} (h : SlotR K G H x s) : SlotR K G' H' x s := by
  cases s with
  | un => trivial
  | val d =>
    obtain ⟨v, e, r⟩ := h
    exact ⟨v, e, r.mono g.gs⟩
  | own d =>
    obtain ⟨a, o, e, h1, h2, r⟩ := h
    exact ⟨a, o, e, g.hs _ _ h1, g.gn _ _ h1 h2, r.mono g.gs⟩
  | io d =>
    obtain ⟨a, o, e, h1, h2, r⟩ := h
    exact ⟨a, o, e, g.hs _ _ h1, g.gn _ _ h1 h2, r.mono g.gs⟩
theorem SR.grow (s : SR K T G H σ ρ) (g : Grow G H G' H') : SR K T G' H' σ ρ :=
  ⟨g.sub, s.len, fun i x h => (s.sl i x h).grow g, s.ne, s.tab.1.ext g.hs, fun b ps e => s.tab.2 b ps (g.nt b ps e)⟩
theorem SR.after (s : SR K T G H σ ρ) (g : Grow G H G' H') : After K T G H σ ρ G' H' σ ρ :=
  ⟨g.gs, s.grow g, fun b o h _ n => ⟨g.hs b o h, n⟩, fun b o h _ e _ => g.gn b o h e, fun _ d h => ⟨rfl, d, h⟩, fun b o h n => ⟨o, g.hs b o h, n⟩⟩
/-- an expression makes no slot ours that was not -/
def Le (ρ ρ' : DEnv) : Prop := ∀ (i : Nat) (s' : Slot) (d' : D), ρ'[i]? = some s' → s'.mine = some d' → ∃ s d, ρ[i]? = some s ∧ s.mine = some d
/-- what lies behind an expression -/
structure AftE (K : Frag) (T : Tb) (G H : Hp) (σ : L2.St) (ρ : DEnv) (G' H' : Hp) (ρ' : DEnv) : Prop where
  a : After K T G H σ ρ G' H' σ ρ'
  le : Le ρ ρ'
theorem AftE.refl (s : SR K T G H σ ρ) : AftE K T G H σ ρ G H ρ := ⟨After.refl s, fun _ s d h m => ⟨s, d, h, m⟩⟩
theorem AftE.trans (x : AftE K T G H σ ρ G' H' ρ') (y : AftE K T G' H' σ ρ' G2 H2 ρ2) : AftE K T G H σ ρ G2 H2 ρ2 := ⟨x.a.trans y.a, fun i s d h m => by
  obtain ⟨t, e, h1, m1⟩ := y.le i s d h m
  exact x.le i t e h1 m1⟩
theorem AftE.sr (x : AftE K T G H σ ρ G' H' ρ') : SR K T G' H' σ ρ' := x.a.sr
theorem AftE.gs (x : AftE K T G H σ ρ G' H' ρ') : Sub G G' := x.a.gs
theorem own_at (s : SR K T G H σ ρ) {a : Addr} (h : OwnAt σ ρ a) : ∃ o d, H a = some o ∧ G a = none ∧ HoR K G o d := by
  obtain ⟨i, t, d, hi, ht, e⟩ := h
  have q := s.sl i t hi
  cases t with
  | own d' =>
    obtain ⟨b, o, e1, h1, h2, r⟩ := q
    rw [e] at e1; cases e1
    exact ⟨o, _, h1, h2, r⟩
  | io d' =>
    obtain ⟨b, o, e1, h1, h2, r⟩ := q
    rw [e] at e1; cases e1
    exact ⟨o, _, h1, h2, r⟩
  | _ => cases ht
theorem Fre.notOwn (s : SR K T G H σ ρ) {a : Addr} (h : Fre H a) : ¬ OwnAt σ ρ a := fun z => by
  obtain ⟨o, d, h1, _, r⟩ := own_at s z
  obtain ⟨ps, e⟩ := h o h1
  exact r.notbl ps e
theorem AftE.notOwn (x : AftE K T G H σ ρ G' H' ρ') {a : Addr} (n : ¬ OwnAt σ ρ a) : ¬ OwnAt σ ρ' a := fun ⟨i, t, d, hi, ht, e⟩ => by
  obtain ⟨u, e', h1, m⟩ := x.le i t d hi ht
  exact n ⟨i, u, e', h1, m, e⟩
theorem After.fre (x : After K T G H σ ρ G' H' σ' ρ') {a : Addr} (h : H' a = none) : Fre H a := fun o e => by
  cases o with
  | tbl ps => exact ⟨ps, rfl⟩
  | _ =>
    obtain ⟨o', h', _⟩ := x.tr a _ e (fun ps z => by cases z)
    rw [h] at h'; cases h'
theorem SR.afterE (s : SR K T G H σ ρ) (g : Grow G H G' H') : AftE K T G H σ ρ G' H' ρ := ⟨s.after g, fun _ s d h m => ⟨s, d, h, m⟩⟩
end
end PL
namespace PL
open PySem PySem.Spec PyProof.Rows L2
open PySem.W (Frag)
/-! ### outcomes -/
inductive Res (α : Type) where
  | ok (a : α) (ρ : DEnv) | err (c : Str) (ρ : DEnv) | bad
abbrev M (α : Type) := DEnv → Res α
def mret {α : Type} (a : α) : M α := fun ρ => .ok a ρ
def mbind {α β : Type} (m : M α) (f : α → M β) : M β := fun ρ => match m ρ with
  | .ok a ρ' => f a ρ'
  | .err c ρ' => .err c ρ'
  | .bad => .bad
def mlift {α : Type} (o : Option α) : M α := fun ρ => match o with
  | some a => .ok a ρ
  | none => .bad
/-- what the walk knows all along -/
structure Kx where
  K : Frag
  T : Tb
  mg : Str → Option Value
abbrev kx (X : Cx) (T : Tb) : Kx := ⟨X.K, T, X.mg⟩
abbrev Kx.Aft (k : Kx) := After k.K k.T
abbrev Kx.AftE (k : Kx) := _root_.PL.AftE k.K k.T
/-- all ends of r are served -/
def RW {α : Type} (k : Kx) (W : WX) (G H : Hp) (σ : L2.St) (ρ : DEnv) (r : Res α) (Q : α → DEnv → Hp → Hp → Prop) : Prop :=
  match r with
  | .ok a ρ' => ∀ G' H', k.AftE G H σ ρ G' H' ρ' → Q a ρ' G' H'
  | .err c ρ' => ∀ G' H' C, k.AftE G H σ ρ G' H' ρ' → k.mg c = some (.ref C) → W (.ref C) none σ H'
  | .bad => False
theorem RW.mono {α : Type} {k : Kx} {W : WX} {G H : Hp} {σ : L2.St} {ρ : DEnv} {r : Res α} {Q Q' : α → DEnv → Hp → Hp → Prop} (h : RW k W G H σ ρ r Q) (f : ∀ a ρ' G' H', k.AftE G H σ ρ G' H' ρ' → Q a ρ' G' H' → Q' a ρ' G' H') : RW k W G H σ ρ r Q' := by
  cases r with
  | ok a ρ' => exact fun G' H' a' => f _ _ _ _ a' (h G' H' a')
  | err c ρ' => exact h
  | bad => exact h
theorem RW.trans {α : Type} {k : Kx} {W : WX} {G H G1 H1 : Hp} {σ : L2.St} {ρ ρ1 : DEnv} {r : Res α} {Q : α → DEnv → Hp → Hp → Prop} (a : k.AftE G H σ ρ G1 H1 ρ1) (h : RW k W G H σ ρ r Q) : RW k W G1 H1 σ ρ1 r Q := by
  cases r with
  | ok x ρ' => exact fun G' H' b => h G' H' (a.trans b)
  | err c ρ' => exact fun G' H' C b e => h G' H' C (a.trans b) e
  | bad => exact h
theorem RW.bind {α β : Type} {k : Kx} {W : WX} {G H : Hp} {σ : L2.St} {ρ : DEnv} {m : M α} {f : α → M β} {Q : β → DEnv → Hp → Hp → Prop} (h : RW k W G H σ ρ (mbind m f ρ) Q) :
    RW k W G H σ ρ (m ρ) fun a ρ' G' H' => RW k W G' H' σ ρ' (f a ρ') Q := by
  unfold mbind at h
  cases e : m ρ with
  | ok a ρ' =>
    rw [e] at h
    exact fun G' H' a' => RW.trans a' h
  | err c ρ' => rw [e] at h; exact h
  | bad => rw [e] at h; exact h
theorem RW.ok {α : Type} {k : Kx} {W : WX} {G H : Hp} {σ : L2.St} {ρ : DEnv} {a : α} {Q : α → DEnv → Hp → Hp → Prop} (s : SR k.K k.T G H σ ρ) (h : RW k W G H σ ρ (.ok a ρ) Q) : Q a ρ G H := h G H (AftE.refl s)
theorem RW.lift {α β : Type} {k : Kx} {W : WX} {G H : Hp} {σ : L2.St} {ρ : DEnv} {o : Option α} {f : α → M β} {Q : β → DEnv → Hp → Hp → Prop} (h : RW k W G H σ ρ (mbind (mlift o) f ρ) Q) : ∃ a, o = some a ∧ RW k W G H σ ρ (f a ρ) Q := by
  cases o with
  | none => exact h.elim
  | some a => exact ⟨a, rfl, h⟩
theorem RW.lift1 {α : Type} {k : Kx} {W : WX} {G H : Hp} {σ : L2.St} {ρ : DEnv} {o : Option α} {Q : α → DEnv → Hp → Hp → Prop} (h : RW k W G H σ ρ (mlift o ρ) Q) : ∃ a, o = some a ∧ RW k W G H σ ρ (.ok a ρ) Q := by
  cases o with
  | none => exact h.elim
  | some a => exact ⟨a, rfl, h⟩
/-- .. where the value is a new object, no one's yet -/
def RWN (k : Kx) (W : WX) (G H : Hp) (σ : L2.St) (ρ : DEnv) (r : Res D) (Q : VK) : Prop :=
  match r with
  | .ok d ρ' => ∀ G' H' a o, k.AftE G H σ ρ G' H' ρ' → Fre H a → H' a = some o → G' a = none → HoR k.K G' o d → Q (.ref a) H'
  | .err c ρ' => ∀ G' H' C, k.AftE G H σ ρ G' H' ρ' → k.mg c = some (.ref C) → W (.ref C) none σ H'
  | .bad => False
/-! ### judgements -/
section
variable (X : Cx) (T : Tb) (W : WX)
/-- e's value is what m tells -/
def PD (e : Expr) (m : M D) : Prop := ∃ t, PE X e t ∧ ∀ G H σ ρ Q, SR X.K T G H σ ρ → RW (kx X T) W G H σ ρ (m ρ) (fun d _ G' H' => ∀ v, Rp X.K G' v d → Q v H') → t σ H Q
/-- e's value is a new object of the content m tells -/
def PN (e : Expr) (m : M D) : Prop := ∃ t, PE X e t ∧ ∀ G H σ ρ Q, SR X.K T G H σ ρ → RWN (kx X T) W G H σ ρ (m ρ) Q → t σ H Q
/-- a test -/
def PB (e : Expr) (m : M Bool) : Prop := ∃ t, PT X e t ∧ ∀ G H σ ρ Q, SR X.K T G H σ ρ → RW (kx X T) W G H σ ρ (m ρ) (fun b _ _ H' => Q b H') → t σ H Q
/-- a test whatever its whole is -/
def PBw (e : Expr) (m : M Bool) : Prop := ∃ t, PW X e t ∧ ∀ G H σ ρ Q, SR X.K T G H σ ρ → RW (kx X T) W G H σ ρ (m ρ) (fun b _ _ H' => Q b H') → t σ H Q
/-- arguments -/
def PAs (es : List Expr) (m : M (List D)) : Prop := ∃ t, PA X es t ∧ ∀ G H σ ρ Q, SR X.K T G H σ ρ → RW (kx X T) W G H σ ρ (m ρ) (fun ds _ G' H' => ∀ vs, Rps X.K G' vs ds → Q vs H') → t σ H Q
end
section
variable {X : Cx} {T : Tb} {W : WX}
theorem RW.at {α : Type} {k : Kx} {W : WX} {G H : Hp} {σ : L2.St} {ρ : DEnv} {r : Res α} {Q Q' : α → DEnv → Hp → Hp → Prop} (h : RW k W G H σ ρ r Q)
    (f : ∀ a ρ' G' H', k.AftE G H σ ρ G' H' ρ' → (∀ G2 H2, k.AftE G' H' σ ρ' G2 H2 ρ' → Q a ρ' G2 H2) → Q' a ρ' G' H') : RW k W G H σ ρ r Q' := by
  cases r with
  | ok a ρ' => exact fun G' H' a' => f _ _ _ _ a' fun G2 H2 b => h G2 H2 (a'.trans b)
  | err c ρ' => exact h
  | bad => exact h
/-- with a pure growth -/
theorem RW.grown {α : Type} {k : Kx} {W : WX} {G H : Hp} {σ : L2.St} {ρ : DEnv} {r : Res α} {Q Q' : α → DEnv → Hp → Hp → Prop} (h : RW k W G H σ ρ r Q)
    (f : ∀ a ρ' G' H', SR k.K k.T G' H' σ ρ' → (∀ G2 H2, Grow G' H' G2 H2 → Q a ρ' G2 H2) → Q' a ρ' G' H') : RW k W G H σ ρ r Q' :=
  h.at fun a ρ' G' H' x q => f a ρ' G' H' x.sr fun G2 H2 g => q G2 H2 (x.sr.afterE g)
/-- a new object is told of -/
theorem AftE.tell {k : Kx} {G H G' H' : Hp} {σ : L2.St} {ρ ρ' : DEnv} {a : Addr} {o : HO} {d : D} (A : k.AftE G H σ ρ G' H' ρ') (f : Fre H a) (s : SR k.K k.T G H σ ρ) (h : H' a = some o) (g : G' a = none) (r : HoR k.K G' o d) : k.AftE G H σ ρ (upd G' a o) H' ρ' := by
  have no := A.notOwn (f.notOwn s)
  have su : Sub G' (upd G' a o) := (Sub.refl G').upd g
  have so : Sub (upd G' a o) H' := fun b u q => by
    by_cases hb : b = a
    · subst hb; rw [upd_same] at q; rw [← q]; exact h
    · rw [upd_ne hb] at q; exact A.sr.sub b u q
  have nt : ∀ b ps, upd G' a o b ≠ some (.tbl ps) := fun b ps z => by
    by_cases hb : b = a
    · subst hb; rw [upd_same] at z; exact r.notbl ps (Option.some.inj z)
    · rw [upd_ne hb] at z; exact A.sr.tab.2 b ps z
  refine ⟨⟨A.gs.trans su, ⟨so, A.sr.len, fun i t hi => ?_, A.sr.ne, A.sr.tab.1, nt⟩, A.a.fr, fun b u hb nt gb n => ?_, A.a.io, A.a.tr⟩, A.le⟩
  · have q := A.sr.sl i t hi
    cases t with
    | un => trivial
    | val d => obtain ⟨v, e, r⟩ := q; exact ⟨v, e, r.mono su⟩
    | own d =>
      obtain ⟨b, u, e, h1, h2, r⟩ := q
      have nb : b ≠ a := fun z => no ⟨i, _, d, hi, rfl, by rw [← z]; exact e⟩
      exact ⟨b, u, e, h1, by rw [upd_ne nb]; exact h2, r.mono su⟩
    | io d =>
      obtain ⟨b, u, e, h1, h2, r⟩ := q
      have nb : b ≠ a := fun z => no ⟨i, _, d, hi, rfl, by rw [← z]; exact e⟩
      exact ⟨b, u, e, h1, by rw [upd_ne nb]; exact h2, r.mono su⟩
  · have nb : b ≠ a := fun z => by
      rw [z] at hb
      obtain ⟨ps, e⟩ := f u hb
      exact nt ps e
    rw [upd_ne nb]
    exact A.a.gn b u hb nt gb n
theorem PN.pd {e : Expr} {m : M D} (h : PN X T W e m) : PD X T W e m := by
  obtain ⟨t, ht, hq⟩ := h
  refine ⟨t, ht, fun G H σ ρ Q s r => hq G H σ ρ Q s ?_⟩
  cases e : m ρ with
  | ok d ρ' =>
    rw [e] at r
    exact fun G' H' a o A f h g ho => r _ _ (A.tell (k := kx X T) f s h g ho) _ (ho.rp ((Sub.refl G').upd g) upd_same)
  | err c ρ' => rw [e] at r; exact r
  | bad => rw [e] at r; exact r
/-- behind something, a new object -/
theorem RWN.bind {α : Type} {k : Kx} {W : WX} {G H : Hp} {σ : L2.St} {ρ : DEnv} {m : M α} {f : α → M D} {Q : VK} (s : SR k.K k.T G H σ ρ) (h : RWN k W G H σ ρ (mbind m f ρ) Q) :
    RW k W G H σ ρ (m ρ) fun a ρ' G' H' => RWN k W G' H' σ ρ' (f a ρ') Q := by
  unfold mbind at h
  cases e : m ρ with
  | ok a ρ' =>
    rw [e] at h
    intro G' H' A
    have h : RWN k W G H σ ρ (f a ρ') Q := h
    show RWN k W G' H' σ ρ' (f a ρ') Q
    cases e2 : f a ρ' with
    | ok d ρ2 =>
      rw [e2] at h
      intro G2 H2 p o B fr h2 g2 r
      refine h G2 H2 p o (A.trans B) (fun u hu => ?_) h2 g2 r
      cases u with
      | tbl ps => exact ⟨ps, rfl⟩
      | _ =>
        obtain ⟨o', h', n'⟩ := A.a.tr p _ hu (fun ps z => by cases z)
        obtain ⟨ps, z⟩ := fr o' h'
        exact absurd z (n' ps)
    | err c ρ2 => rw [e2] at h; exact fun G2 H2 C B e => h G2 H2 C (A.trans B) e
    | bad => rw [e2] at h; exact h
  | err c ρ' => rw [e] at h; exact h
  | bad => rw [e] at h; exact h
theorem RWN.lift1 {k : Kx} {W : WX} {G H : Hp} {σ : L2.St} {ρ : DEnv} {o : Option D} {Q : VK} (s : SR k.K k.T G H σ ρ) (h : RWN k W G H σ ρ (mlift o ρ) Q) : ∃ z, o = some z ∧ ∀ G2 H2 a u, Grow G H G2 H2 → H2 a = none → HoR k.K G2 u z → Q (.ref a) (upd H2 a u) := by
  cases o with
  | none => exact h.elim
  | some z =>
    refine ⟨z, rfl, fun G2 H2 a u g ha r => ?_⟩
    have g2 : Grow G H G2 (upd H2 a u) := g.trans (Grow.hid g.sub ha)
    refine h G2 _ a u (s.afterE g2) (fun x hx => ?_) upd_same (g.sub.isNone ha) r
    rw [g.hs a x hx] at ha; cases ha
theorem PBw.pb {e : Expr} {m : M Bool} (h : PBw X T W e m) : PB X T W e m := by
  obtain ⟨t, ht, hq⟩ := h
  exact ⟨t, ht.pt, hq⟩
/-! ### constants, names -/
theorem pd_c {e : Expr} {v : V} {d : D} (h : PE X e (tC v)) (r : ∀ G, Rp X.K G v d) : PD X T W e (mret d) := ⟨_, h, fun G H σ ρ Q s q => q.ok s v (r G)⟩
theorem pd_int {i j pos} : PD X T W (.Constant (.int i) j pos) (mret (.int i)) := pd_c pe_int fun _ => .int i
theorem pd_bl {b j pos} : PD X T W (.Constant (.bool b) j pos) (mret (.bool b)) := pd_c pe_bl fun _ => .bl b
theorem pd_non {j pos} : PD X T W (.Constant .none j pos) (mret .none) := pd_c pe_non fun _ => .non
theorem pd_str {x j pos} : PD X T W (.Constant (.str x) j pos) (mret (.str x)) := pd_c pe_str fun _ => .str x
/-- an int of the module -/
theorem pd_gint {x : Str} {pos : Pos} {i : Int} (hg : Gl X x) (hm : ∃ t, X.mg x = some (.int i t)) (hd : (x == ("__debug__" : Str)) = false := by decide) : PD X T W (.Name x pos) (mret (.int i)) := by
  obtain ⟨t, hm⟩ := hm
  exact pd_c (v := .int i) (pe_glob hg hm ⟨t, rfl⟩ hd) fun _ => .int i
theorem pd_gstr {x z : Str} {pos : Pos} (hg : Gl X x) (hm : ∃ t, X.mg x = some (.str z t)) (hd : (x == ("__debug__" : Str)) = false := by decide) : PD X T W (.Name x pos) (mret (.str z)) := by
  obtain ⟨t, hm⟩ := hm
  exact pd_c (v := .str z) (pe_glob hg hm ⟨t, rfl⟩ hd) fun _ => .str z
/-- a name's value: what was ours alone is told from now on -/
def mvar (i : Nat) : M D := fun ρ => match ρ[i]? with
  | some (.val d) => .ok d ρ
  | some (.own d) => .ok d (ρ.set i (.val d))
  | _ => .bad
theorem get_set {α : Type} {l : List α} {i : Nat} {x y : α} (h : l[i]? = some y) (j : Nat) : (l.set i x)[j]? = if j = i then some x else l[j]? := by
  have hi : i < l.length := (List.getElem?_eq_some_iff.mp h).1
  by_cases e : j = i
  · subst e; rw [if_pos rfl, List.getElem?_set_self hi]
  · rw [if_neg e, List.getElem?_set_ne (Ne.symm e)]
/-- what was ours is told -/
theorem SR.freeze {k : Kx} {G H : Hp} {σ : L2.St} {ρ : DEnv} {i : Nat} {d : D} (s : SR k.K k.T G H σ ρ) (h : ρ[i]? = some (.own d)) :
    ∃ a o, σ[i]? = some (some (.ref a)) ∧ H a = some o ∧ HoR k.K G o d ∧ k.AftE G H σ ρ (upd G a o) H (ρ.set i (.val d)) := by
  obtain ⟨a, o, e, h1, h2, r⟩ := s.sl i _ h
  have su : Sub G (upd G a o) := (Sub.refl G).upd h2
  have so : Sub (upd G a o) H := fun b u q => by
    by_cases hb : b = a
    · subst hb; rw [upd_same] at q; rw [← q]; exact h1
    · rw [upd_ne hb] at q; exact s.sub b u q
  have og : ∀ {j t x}, (ρ.set i (Slot.val d))[j]? = some t → t.mine = some x → j ≠ i ∧ ρ[j]? = some t := fun {j t x} hj ht => by
    rw [get_set h] at hj
    split at hj
    · cases hj; cases ht
    · exact ⟨‹_›, hj⟩
  have ow : ∀ b, OwnAt σ (ρ.set i (.val d)) b → OwnAt σ ρ b := fun b ⟨j, t, x, hj, ht, hs⟩ => ⟨j, t, x, (og hj ht).2, ht, hs⟩
  have oa : OwnAt σ ρ a := ⟨i, _, d, h, rfl, e⟩
  have nt : ∀ b ps, upd G a o b ≠ some (.tbl ps) := fun b ps z => by
    by_cases hb : b = a
    · subst hb; rw [upd_same] at z; exact r.notbl ps (Option.some.inj z)
    · rw [upd_ne hb] at z; exact s.tab.2 b ps z
  have A : k.Aft G H σ ρ (upd G a o) H σ (ρ.set i (.val d)) := by
   refine ⟨su, ⟨so, by rw [s.len, List.length_set], fun j t hj => ?_, fun j l t u x y b hj hl ht hu => s.ne j l t u x y b (og hj ht).2 (og hl hu).2 ht hu, s.tab.1, nt⟩, fun b u hb _ n => ⟨hb, fun z => n (ow b z)⟩, fun b u hb _ g n => ?_, fun j x hj => ?_, fun b u hb n => ⟨u, hb, n⟩⟩
   · rw [get_set h] at hj
     split at hj
     · rename_i ej
       cases hj
       exact ⟨.ref a, by rw [ej]; exact e, r.rp su upd_same⟩
     · rename_i ej
       have q := s.sl j t hj
       cases t with
       | un => trivial
       | val x => obtain ⟨v, e1, r1⟩ := q; exact ⟨v, e1, r1.mono su⟩
       | own x =>
         obtain ⟨b, u, e1, h3, h4, r1⟩ := q
         have nb : b ≠ a := fun z => ej (s.ne j i _ _ x d a hj h rfl rfl (by rw [← z]; exact e1) e)
         exact ⟨b, u, e1, h3, by rw [upd_ne nb]; exact h4, r1.mono su⟩
       | io x =>
         obtain ⟨b, u, e1, h3, h4, r1⟩ := q
         have nb : b ≠ a := fun z => ej (s.ne j i _ _ x d a hj h rfl rfl (by rw [← z]; exact e1) e)
         exact ⟨b, u, e1, h3, by rw [upd_ne nb]; exact h4, r1.mono su⟩
   · have nb : b ≠ a := fun z => n (z ▸ oa)
     rw [upd_ne nb]; exact g
   · refine ⟨rfl, x, ?_⟩
     rw [get_set h]
     have ne : j ≠ i := fun z => by rw [z, h] at hj; cases hj
     rw [if_neg ne]; exact hj
  exact ⟨a, o, e, h1, r, A, fun j t x hj ht => ⟨t, x, (og hj ht).2, ht⟩⟩
theorem pd_var {i : Nat} {x : Str} {pos : Pos} (h : PE X (.Name x pos) (tVar i)) : PD X T W (.Name x pos) (mvar i) := by
  refine ⟨_, h, fun G H σ ρ Q s r => ?_⟩
  unfold mvar at r
  split at r
  · rename_i d hd
    obtain ⟨v, e, rv⟩ := s.sl i _ hd
    exact ⟨v, e, r.ok s v rv⟩
  · rename_i d hd
    obtain ⟨a, o, e, h1, ho, af⟩ := SR.freeze (k := kx X T) s hd
    exact ⟨.ref a, e, r _ _ af _ (ho.rp af.gs upd_same)⟩
  · exact r.elim
end
end PL
namespace PL
open PySem PySem.Spec PyProof.Rows L2
open PySem.W (Frag)
section
variable (X : Cx) (T : Tb) (W : WX)
/-- whatever rule serves -/
def rU (fn : Value → Value → Sem Value) : R2 := fun x y H Q => ∃ r, OpR X fn r ∧ r x y H Q
theorem rU_ok (fn : Value → Value → Sem Value) : OpR X fn (rU X fn) := fun pins s σ H x y v u Q I rx ry ⟨r, h, q⟩ => h pins s σ H x y v u Q I rx ry q
/-- a two-place operation, by data -/
def OpX (fn : Value → Value → Sem Value) (f : D → D → Option D) : Prop := ∀ d e z, f d e = some z →
  ∃ r, OpR X fn r ∧ ∀ G H x y Q, Sub G H → Rp X.K G x d → Rp X.K G y e → (∀ G' H' v, Grow G H G' H' → Rp X.K G' v z → Q v H') → r x y H Q
/-- a one-place call of a value -/
def cU (f : Value) : List V → Hp → VK → Prop := fun xs H Q => ∃ r, CallR X f r ∧ r xs H Q
theorem cU_ok (f : Value) : CallR X f (cU X f) := fun pins s σ H xs us Q I rx ⟨r, h, q⟩ => h pins s σ H xs us Q I rx q
def CaX (fn : Value) (f : List D → Option D) : Prop := ∀ ds z, f ds = some z →
  ∃ r, CallR X fn r ∧ ∀ G H xs Q, Sub G H → Rps X.K G xs ds → (∀ G' H' v, Grow G H G' H' → Rp X.K G' v z → Q v H') → r xs H Q
/-- a call that makes a new object -/
def CnX (fn : Value) (f : List D → Option D) : Prop := ∀ ds z, f ds = some z →
  ∃ r, CallR X fn r ∧ ∀ G H xs Q, Sub G H → Rps X.K G xs ds → (∀ G' H' a o, Grow G H G' H' → H' a = none → HoR X.K G' o z → Q (.ref a) (upd H' a o)) → r xs H Q
def iU : R2 := fun x y H Q => ∃ r, IxR X r ∧ r x y H Q
theorem iU_ok : IxR X (iU X) := fun a b pins s σ H x y v u Q I rx ry ⟨r, h, q⟩ e => h a b pins s σ H x y v u Q I rx ry q e
def IxX (f : D → D → Option D) : Prop := ∀ d e z, f d e = some z →
  ∃ r, IxR X r ∧ ∀ G H x y Q, Sub G H → Rp X.K G x d → Rp X.K G y e → (∀ G' H' v, Grow G H G' H' → Rp X.K G' v z → Q v H') → r x y H Q
end
section
variable {X : Cx} {T : Tb} {W : WX}
def mop (f : D → D → Option D) (ma mb : M D) : M D := mbind ma fun d => mbind mb fun e => mlift (f d e)
theorem RW.op {k : Kx} {G H : Hp} {σ : L2.St} {ρ : DEnv} {d : D} {mb : M D} {f : D → D → Option D} {Q : D → DEnv → Hp → Hp → Prop} (h : RW k W G H σ ρ (mbind mb (fun e => mlift (f d e)) ρ) Q) :
    RW k W G H σ ρ (mb ρ) fun e ρ' G' H' => ∃ z, f d e = some z ∧ ∀ G2 H2, k.AftE G' H' σ ρ' G2 H2 ρ' → Q z ρ' G2 H2 :=
  h.bind.mono fun e ρ' G' H' _ q => by
    obtain ⟨z, e, q⟩ := q.lift1
    exact ⟨z, e, q⟩
theorem pd_op {op : Operator} {a b : Expr} {pos : Pos} {f : D → D → Option D} {ma mb : M D} (h : OpX X (binaryOp op) f) (ha : PD X T W a ma) (hb : PD X T W b mb) : PD X T W (.BinOp a op b pos) (mop f ma mb) := by
  obtain ⟨ta, ea, qa⟩ := ha
  obtain ⟨tb, eb, qb⟩ := hb
  refine ⟨_, pe_op (rU_ok X _) ea eb, fun G H σ ρ Q s q => qa G H σ ρ _ s (q.bind.mono fun d ρ1 G1 H1 a1 q1 v rv => qb G1 H1 σ ρ1 _ a1.sr (q1.op.mono fun e ρ2 G2 H2 a2 q2 u ru => ?_))⟩
  obtain ⟨z, hz, q2⟩ := q2
  obtain ⟨r, hr, use⟩ := h d e z hz
  exact ⟨r, hr, use G2 H2 v u Q a2.sr.sub (rv.mono a2.gs) ru fun G3 H3 w g rw' => q2 G3 H3 (a2.sr.afterE g) w rw'⟩
theorem pd_cmp {op : CmpOp} {a b : Expr} {pos : Pos} {f : D → D → Option D} {ma mb : M D} (h : OpX X (compareOp op) f) (ha : PD X T W a ma) (hb : PD X T W b mb) (hm : behindInMarks op b = false := by first | rfl | exact nobehind _ (by decide) (by decide)) : PD X T W (.Compare a [op] [b] pos) (mop f ma mb) := by
  obtain ⟨ta, ea, qa⟩ := ha
  obtain ⟨tb, eb, qb⟩ := hb
  refine ⟨_, pe_cmpR (rU_ok X _) ea eb hm, fun G H σ ρ Q s q => qa G H σ ρ _ s (q.bind.mono fun d ρ1 G1 H1 a1 q1 v rv => qb G1 H1 σ ρ1 _ a1.sr (q1.op.mono fun e ρ2 G2 H2 a2 q2 u ru => ?_))⟩
  obtain ⟨z, hz, q2⟩ := q2
  obtain ⟨r, hr, use⟩ := h d e z hz
  exact ⟨r, hr, use G2 H2 v u Q a2.sr.sub (rv.mono a2.gs) ru fun G3 H3 w g rw' => q2 G3 H3 (a2.sr.afterE g) w rw'⟩
theorem pd_ix {a b : Expr} {pos : Pos} {f : D → D → Option D} {ma mb : M D} (h : IxX X f) (ha : PD X T W a ma) (hb : PD X T W b mb) (hs : PlainIx b := by exact fun _ _ => rfl) : PD X T W (.Subscript a b pos) (mop f ma mb) := by
  obtain ⟨ta, ea, qa⟩ := ha
  obtain ⟨tb, eb, qb⟩ := hb
  refine ⟨_, pe_ix (iU_ok X) ea eb hs, fun G H σ ρ Q s q => qa G H σ ρ _ s (q.bind.mono fun d ρ1 G1 H1 a1 q1 v rv => qb G1 H1 σ ρ1 _ a1.sr (q1.op.mono fun e ρ2 G2 H2 a2 q2 u ru => ?_))⟩
  obtain ⟨z, hz, q2⟩ := q2
  obtain ⟨r, hr, use⟩ := h d e z hz
  exact ⟨r, hr, use G2 H2 v u Q a2.sr.sub (rv.mono a2.gs) ru fun G3 H3 w g rw' => q2 G3 H3 (a2.sr.afterE g) w rw'⟩
/-! ### argument lists -/
def mnil : M (List D) := mret []
def mcons (m : M D) (ms : M (List D)) : M (List D) := mbind m fun d => mbind ms fun ds => mret (d :: ds)
theorem pas_nil : PAs X T W [] mnil := ⟨_, pa_nil, fun G H σ ρ Q s q => q.ok s [] .nil⟩
theorem pas_cons {e : Expr} {es : List Expr} {m : M D} {ms : M (List D)} (h : PD X T W e m) (hs : PAs X T W es ms) (hst : starEach (e :: es) X.env = (false, eval e X.env) :: starEach es X.env := by rfl) : PAs X T W (e :: es) (mcons m ms) := by
  obtain ⟨t, et, qt⟩ := h
  obtain ⟨ts, es', qs⟩ := hs
  refine ⟨_, pa_cons et es' hst, fun G H σ ρ Q s q => qt G H σ ρ _ s (q.bind.mono fun d ρ1 G1 H1 a1 q1 v rv => qs G1 H1 σ ρ1 _ a1.sr (q1.bind.mono fun ds ρ2 G2 H2 a2 q2 vs rs => ?_))⟩
  exact q2.ok a2.sr (v :: vs) (.cons (rv.mono a2.gs) rs)
def mcall (f : List D → Option D) (ms : M (List D)) : M D := mbind ms fun ds => mlift (f ds)
theorem pd_callB {id : String} {x : Str} {e : Expr} {es : List Expr} {p pos : Pos} {f : List D → Option D} {ms : M (List D)} (h : CaX X (.builtin id) f) (hg : Gl X x) (hm : X.mg x = none) (hv : bootBuiltins x = some (.builtin id)) (ha : PAs X T W (e :: es) ms)
    (hn : x ≠ "__name__" := by decide) (hdb : (x == ("__debug__" : Str)) = false := by decide) (he : starEach (e :: es) X.env = (false, eval e X.env) :: starEach es X.env := by rfl) (hpl : (backTo pos (starEach es X.env)).any (·.1) = false := by rfl) :
    PD X T W (.Call (.Name x p) (e :: es) [] pos) (mcall f ms) := by
  obtain ⟨t, et, qt⟩ := ha
  refine ⟨_, pe_callB (cU_ok X _) hg hm hv et hn hdb he hpl, fun G H σ ρ Q s q => qt G H σ ρ _ s (q.bind.mono fun ds ρ1 G1 H1 a1 q1 vs rv => ?_)⟩
  obtain ⟨z, hz, q2⟩ := q1.lift1
  obtain ⟨r, hr, use⟩ := h ds z hz
  exact ⟨r, hr, use G1 H1 vs Q a1.sr.sub rv fun G3 H3 w g rw' => q2 G3 H3 (a1.sr.afterE g) w rw'⟩
end
end PL
namespace PL
open PySem PySem.Spec PyProof.Rows L2
open PySem.W (Frag)
section
variable {X : Cx} {T : Tb} {W : WX}
/-! ### calls of built-in types; calls that make a new object -/
section
variable {x : Str} {e : Expr} {es : List Expr} {p pos : Pos} {f : List D → Option D} {ms : M (List D)}
theorem pd_callTy {id : String} (h : CaX X (.type id) f) (hg : Gl X x) (hm : X.mg x = none) (hv : bootBuiltins x = some (.type id)) (ha : PAs X T W (e :: es) ms)
    (hn : x ≠ "__name__" := by decide) (hdb : (x == ("__debug__" : Str)) = false := by decide) (he : starEach (e :: es) X.env = (false, eval e X.env) :: starEach es X.env := by rfl) (hpl : (backTo pos (starEach es X.env)).any (·.1) = false := by rfl) :
    PD X T W (.Call (.Name x p) (e :: es) [] pos) (mcall f ms) := by
  obtain ⟨t, et, qt⟩ := ha
  refine ⟨_, pe_callTy (cU_ok X _) hg hm hv et hn hdb he hpl, fun G H σ ρ Q s q => qt G H σ ρ _ s (q.bind.mono fun ds ρ1 G1 H1 a1 q1 vs rv => ?_)⟩
  obtain ⟨z, hz, q2⟩ := q1.lift1
  obtain ⟨r, hr, use⟩ := h ds z hz
  exact ⟨r, hr, use G1 H1 vs Q a1.sr.sub rv fun G3 H3 w g rw' => q2 G3 H3 (a1.sr.afterE g) w rw'⟩
theorem pn_callTy {id : String} (h : CnX X (.type id) f) (hg : Gl X x) (hm : X.mg x = none) (hv : bootBuiltins x = some (.type id)) (ha : PAs X T W (e :: es) ms)
    (hn : x ≠ "__name__" := by decide) (hdb : (x == ("__debug__" : Str)) = false := by decide) (he : starEach (e :: es) X.env = (false, eval e X.env) :: starEach es X.env := by rfl) (hpl : (backTo pos (starEach es X.env)).any (·.1) = false := by rfl) :
    PN X T W (.Call (.Name x p) (e :: es) [] pos) (mcall f ms) := by
  obtain ⟨t, et, qt⟩ := ha
  refine ⟨_, pe_callTy (cU_ok X _) hg hm hv et hn hdb he hpl, fun G H σ ρ Q s q => qt G H σ ρ _ s (RWN.bind (k := kx X T) s q |>.mono fun ds ρ1 G1 H1 a1 q1 vs rv => ?_)⟩
  obtain ⟨z, hz, q2⟩ := q1.lift1 a1.sr
  obtain ⟨r, hr, use⟩ := h ds z hz
  exact ⟨r, hr, use G1 H1 vs Q a1.sr.sub rv fun G3 H3 w o g hw rw' => q2 G3 H3 w o g hw rw'⟩
theorem pn_callB {id : String} (h : CnX X (.builtin id) f) (hg : Gl X x) (hm : X.mg x = none) (hv : bootBuiltins x = some (.builtin id)) (ha : PAs X T W (e :: es) ms)
    (hn : x ≠ "__name__" := by decide) (hdb : (x == ("__debug__" : Str)) = false := by decide) (he : starEach (e :: es) X.env = (false, eval e X.env) :: starEach es X.env := by rfl) (hpl : (backTo pos (starEach es X.env)).any (·.1) = false := by rfl) :
    PN X T W (.Call (.Name x p) (e :: es) [] pos) (mcall f ms) := by
  obtain ⟨t, et, qt⟩ := ha
  refine ⟨_, pe_callB (cU_ok X _) hg hm hv et hn hdb he hpl, fun G H σ ρ Q s q => qt G H σ ρ _ s (RWN.bind (k := kx X T) s q |>.mono fun ds ρ1 G1 H1 a1 q1 vs rv => ?_)⟩
  obtain ⟨z, hz, q2⟩ := q1.lift1 a1.sr
  obtain ⟨r, hr, use⟩ := h ds z hz
  exact ⟨r, hr, use G1 H1 vs Q a1.sr.sub rv fun G3 H3 w o g hw rw' => q2 G3 H3 w o g hw rw'⟩
end
/-! ### displays -/
def mtup (ms : M (List D)) : M D := mbind ms fun ds => mlift (if ds.length ≤ 1000 then some (.tuple ds) else none)
def mlst (ms : M (List D)) : M D := mbind ms fun ds => mlift (if ds.length ≤ 1000 then some (.list ds) else none)
theorem small_line {n : Nat} (h : n ≤ 1000) : n ≤ sizeLine := Nat.le_of_lt (small1000 h)
theorem if_some {α : Type} {c : Prop} [Decidable c] {a b : α} (h : (if c then some a else none) = some b) : c ∧ a = b := by
  by_cases hc : c
  · rw [if_pos hc] at h; exact ⟨hc, Option.some.inj h⟩
  · rw [if_neg hc] at h; cases h
theorem pd_tup {es : List Expr} {x1} {pos : Pos} {ms : M (List D)} (h : PAs X T W es ms) : PD X T W (.Tuple es x1 pos) (mtup ms) := by
  obtain ⟨t, et, qt⟩ := h
  refine ⟨_, pe_tup et, fun G H σ ρ Q s q => qt G H σ ρ _ s (q.bind.mono fun ds ρ1 G1 H1 a1 q1 vs rv => ?_)⟩
  obtain ⟨z, hz, q2⟩ := q1.lift1
  obtain ⟨hl, rfl⟩ := if_some hz
  have hs : vs.length ≤ sizeLine := by rw [rv.length]; exact small_line hl
  refine ⟨hs, fun p hp => ?_⟩
  have g : Grow G1 H1 (upd G1 p (.tup vs)) (upd H1 p (.tup vs)) := Grow.new a1.sr.sub hp
  exact q2 _ _ (a1.sr.afterE g) _ (.tup (SqT.of upd_same) hs (rv.mono g.gs))
theorem pn_lst {es : List Expr} {pos : Pos} {ms : M (List D)} (h : PAs X T W es ms) : PN X T W (.List es pos) (mlst ms) := by
  obtain ⟨t, et, qt⟩ := h
  refine ⟨_, pe_lst et, fun G H σ ρ Q s q => qt G H σ ρ _ s (RWN.bind (k := kx X T) s q |>.mono fun ds ρ1 G1 H1 a1 q1 vs rv => ?_)⟩
  obtain ⟨z, hz, q2⟩ := q1.lift1 a1.sr
  obtain ⟨hl, rfl⟩ := if_some hz
  have hs : vs.length ≤ sizeLine := by rw [rv.length]; exact small_line hl
  exact ⟨hs, fun p hp => q2 G1 H1 p _ (Grow.refl a1.sr.sub) hp (.lst hs rv)⟩
/-! ### truth -/
def truth : D → Option Bool
  | .none => some false
  | .bool b => some b
  | .int i => some (i != 0)
  | .list ds => some (!ds.isEmpty)
  | .tuple ds => some (!ds.isEmpty)
  | _ => none
theorem truth_tru {K : Frag} {G H : Hp} (s : Sub G H) {v : V} {d : D} {b : Bool} (r : Rp K G v d) (h : truth d = some b) : TruV K v H b := by
  cases r with
  | non => cases h; rfl
  | bl b' => cases h; rfl
  | int i => cases h; rfl
  | str x => cases h
  | lst h1 _ r =>
    cases h
    refine .inl ⟨_, (s.lql h1).sq, ?_⟩
    cases r <;> rfl
  | tup h1 _ r =>
    cases h
    refine .inr (.inl ⟨_, s.sqt h1, ?_⟩)
    cases r <;> rfl
  | dic h1 r => cases h
def mtest (m : M D) : M Bool := mbind m fun d => mlift (truth d)
def mbool : D → Option Bool
  | .bool b => some b
  | _ => none
def mtestB (m : M D) : M Bool := mbind m fun d => mlift (mbool d)
theorem pb_val {e : Expr} {m : M D} (h : PD X T W e m) (he : ∀ whole, isTrue e X.env whole = (do let v ← whole; standAt e.pos; holding [v] (truthy v)) := by intro _; rfl) : PB X T W e (mtest m) := by
  obtain ⟨t, et, qt⟩ := h
  refine ⟨_, pt_truth et he, fun G H σ ρ Q s q => qt G H σ ρ _ s (q.bind.mono fun d ρ1 G1 H1 a1 q1 v rv => ?_)⟩
  obtain ⟨b, hb, q2⟩ := q1.lift1
  exact ⟨b, truth_tru a1.sr.sub rv hb, q2 _ _ (AftE.refl a1.sr)⟩
theorem rp_bool {K : Frag} {G : Hp} {v : V} {d : D} {b : Bool} (r : Rp K G v d) (h : mbool d = some b) : v = .bl b := by
  cases d with
  | bool b' =>
    cases h
    cases r
    rfl
  | _ => cases h
theorem pb_cmp {op : CmpOp} {a b : Expr} {pos : Pos} {f : D → D → Option D} {ma mb : M D} (h : OpX X (compareOp op) f) (ha : PD X T W a ma) (hb : PD X T W b mb) (hm : behindInMarks op b = false := by first | rfl | exact nobehind _ (by decide) (by decide)) : PB X T W (.Compare a [op] [b] pos) (mtestB (mop f ma mb)) := by
  obtain ⟨ta, ea, qa⟩ := ha
  obtain ⟨tb, eb, qb⟩ := hb
  refine ⟨_, pt_cmpR (rU_ok X _) ea eb hm, fun G H σ ρ Q s q => ?_⟩
  have q' := q.bind
  unfold mop at q'
  refine qa G H σ ρ _ s (q'.bind.mono fun d ρ1 G1 H1 a1 q1 v rv => qb G1 H1 σ ρ1 _ a1.sr (q1.op.mono fun e ρ2 G2 H2 a2 q2 u ru => ?_))
  obtain ⟨z, hz, q2⟩ := q2
  obtain ⟨r, hr, use⟩ := h d e z hz
  refine ⟨r, hr, use G2 H2 v u _ a2.sr.sub (rv.mono a2.gs) ru fun G3 H3 w g rw' => ?_⟩
  obtain ⟨b, hb, q3⟩ := (q2 G3 H3 (a2.sr.afterE g)).lift1
  exact ⟨b, rp_bool rw' hb, q3 _ _ (AftE.refl (a2.sr.grow g))⟩
/-! ### and, or, not, if-else -/
def mandB (a b : M Bool) : M Bool := mbind a fun c => if c = true then b else mret false
def morB (a b : M Bool) : M Bool := mbind a fun c => if c = true then mret true else b
def mnotB (a : M Bool) : M Bool := mbind a fun c => mret (!c)
theorem RW.ite {α : Type} {k : Kx} {G H : Hp} {σ : L2.St} {ρ : DEnv} {c : Bool} {f g : M α} {Q : α → DEnv → Hp → Hp → Prop} (h : RW k W G H σ ρ ((if c = true then f else g) ρ) Q) : if c = true then RW k W G H σ ρ (f ρ) Q else RW k W G H σ ρ (g ρ) Q := by
  cases c <;> exact h
section
variable {a b c : Expr} {rest : List Expr} {pos : Pos} {ma mb : M Bool} {da db : M D}
theorem pbw_and1 (h : PB X T W a ma) : PBw X T W (.BoolOp .And [a] pos) ma := by
  obtain ⟨t, et, qt⟩ := h
  exact ⟨t, pw_and1 et, qt⟩
theorem pbw_or1 (h : PB X T W a ma) : PBw X T W (.BoolOp .Or [a] pos) ma := by
  obtain ⟨t, et, qt⟩ := h
  exact ⟨t, pw_or1 et, qt⟩
theorem pbw_and (ha : PB X T W a ma) (hb : PBw X T W (.BoolOp .And (b :: rest) pos) mb) : PBw X T W (.BoolOp .And (a :: b :: rest) pos) (mandB ma mb) := by
  obtain ⟨ta, ea, qa⟩ := ha
  obtain ⟨tb, eb, qb⟩ := hb
  refine ⟨_, pw_and ea eb, fun G H σ ρ Q s q => qa G H σ ρ _ s (q.bind.mono fun d ρ1 G1 H1 a1 q1 => ?_)⟩
  cases d with
  | true => exact qb G1 H1 σ ρ1 Q a1.sr q1
  | false => exact q1.ok a1.sr
theorem pbw_or (ha : PB X T W a ma) (hb : PBw X T W (.BoolOp .Or (b :: rest) pos) mb) : PBw X T W (.BoolOp .Or (a :: b :: rest) pos) (morB ma mb) := by
  obtain ⟨ta, ea, qa⟩ := ha
  obtain ⟨tb, eb, qb⟩ := hb
  refine ⟨_, pw_or ea eb, fun G H σ ρ Q s q => qa G H σ ρ _ s (q.bind.mono fun d ρ1 G1 H1 a1 q1 => ?_)⟩
  cases d with
  | false => exact qb G1 H1 σ ρ1 Q a1.sr q1
  | true => exact q1.ok a1.sr
theorem pb_not (ha : PB X T W a ma) : PB X T W (.UnaryOp .Not a pos) (mnotB ma) := by
  obtain ⟨ta, ea, qa⟩ := ha
  exact ⟨_, pt_not ea, fun G H σ ρ Q s q => qa G H σ ρ _ s (q.bind.mono fun d ρ1 G1 H1 a1 q1 => q1.ok a1.sr)⟩
/-- .. as values -/
def mand (a b : M D) : M D := mbind a fun d => mbind (mlift (mbool d)) fun c => if c = true then b else mret (.bool false)
def mor (a b : M D) : M D := mbind a fun d => mbind (mlift (mbool d)) fun c => if c = true then mret (.bool true) else b
def mnot (a : M D) : M D := mbind a fun d => mbind (mlift (mbool d)) fun c => mret (.bool !c)
theorem pd_one {op} (h : PD X T W a da) : PD X T W (.BoolOp op [a] pos) da := by
  obtain ⟨t, et, qt⟩ := h
  exact ⟨t, pe_one et, qt⟩
theorem pd_and (ha : PD X T W a da) (hb : PD X T W (.BoolOp .And (b :: rest) pos) db) : PD X T W (.BoolOp .And (a :: b :: rest) pos) (mand da db) := by
  obtain ⟨ta, ea, qa⟩ := ha
  obtain ⟨tb, eb, qb⟩ := hb
  refine ⟨_, pe_and ea eb, fun G H σ ρ Q s q => qa G H σ ρ _ s (q.bind.mono fun d ρ1 G1 H1 a1 q1 v rv => ?_)⟩
  obtain ⟨c, hc, q2⟩ := q1.lift
  refine ⟨c, rp_bool rv hc, ?_⟩
  cases c with
  | true => exact qb G1 H1 σ ρ1 Q a1.sr q2
  | false => exact q2.ok a1.sr _ (.bl _)
theorem pd_or (ha : PD X T W a da) (hb : PD X T W (.BoolOp .Or (b :: rest) pos) db) : PD X T W (.BoolOp .Or (a :: b :: rest) pos) (mor da db) := by
  obtain ⟨ta, ea, qa⟩ := ha
  obtain ⟨tb, eb, qb⟩ := hb
  refine ⟨_, pe_or ea eb, fun G H σ ρ Q s q => qa G H σ ρ _ s (q.bind.mono fun d ρ1 G1 H1 a1 q1 v rv => ?_)⟩
  obtain ⟨c, hc, q2⟩ := q1.lift
  refine ⟨c, rp_bool rv hc, ?_⟩
  cases c with
  | false => exact qb G1 H1 σ ρ1 Q a1.sr q2
  | true => exact q2.ok a1.sr _ (.bl _)
theorem pd_not (ha : PD X T W a da) : PD X T W (.UnaryOp .Not a pos) (mnot da) := by
  obtain ⟨ta, ea, qa⟩ := ha
  refine ⟨_, pe_not ea, fun G H σ ρ Q s q => qa G H σ ρ _ s (q.bind.mono fun d ρ1 G1 H1 a1 q1 v rv => ?_)⟩
  obtain ⟨c, hc, q2⟩ := q1.lift
  exact ⟨c, rp_bool rv hc, q2.ok a1.sr _ (.bl _)⟩
/-- a test as a value where Python hands on a bool -/
def mif (c : M Bool) (a b : M D) : M D := mbind c fun k => if k = true then a else b
theorem pd_if {mc : M Bool} (hc : PB X T W c mc) (ha : PD X T W a da) (hb : PD X T W b db) : PD X T W (.IfExp c a b pos) (mif mc da db) := by
  obtain ⟨tc, ec, qc⟩ := hc
  obtain ⟨ta, ea, qa⟩ := ha
  obtain ⟨tb, eb, qb⟩ := hb
  refine ⟨_, pe_ifExp ec ea eb, fun G H σ ρ Q s q => qc G H σ ρ _ s (q.bind.mono fun d ρ1 G1 H1 a1 q1 => ?_)⟩
  cases d with
  | true => exact qa G1 H1 σ ρ1 Q a1.sr q1
  | false => exact qb G1 H1 σ ρ1 Q a1.sr q1
end
/-! ### a < b < c -/
def mchain (f g : D → D → Option D) (ma mb mc : M D) : M D := mbind ma fun d => mbind mb fun e => mbind (mlift (f d e)) fun z => mbind (mlift (mbool z)) fun k =>
  if k = true then mbind mc fun x => mlift (g e x) else mret (.bool false)
theorem pd_chain {op op' : CmpOp} {a b c : Expr} {pos : Pos} {f g : D → D → Option D} {ma mb mc : M D} (h : OpX X (compareOp op) f) (h' : OpX X (compareOp op') g) (ha : PD X T W a ma) (hb : PD X T W b mb) (hc : PD X T W c mc)
    (hm : lastMarks [op, op'] [b, c] = false := by with_unfolding_all rfl) : PD X T W (.Compare a [op, op'] [b, c] pos) (mchain f g ma mb mc) := by
  obtain ⟨ta, ea, qa⟩ := ha
  obtain ⟨tb, eb, qb⟩ := hb
  obtain ⟨tc, ec, qc⟩ := hc
  refine ⟨_, pe_chain (rU_ok X _) (rU_ok X _) ea eb ec hm, fun G H σ ρ Q s q => qa G H σ ρ _ s (q.bind.mono fun d ρ1 G1 H1 a1 q1 v rv => qb G1 H1 σ ρ1 _ a1.sr (q1.bind.mono fun e ρ2 G2 H2 a2 q2 u ru => ?_))⟩
  obtain ⟨z, hz, q3⟩ := q2.lift
  obtain ⟨k, hk, q4⟩ := q3.lift
  obtain ⟨r, hr, use⟩ := h d e z hz
  refine ⟨r, hr, use G2 H2 v u _ a2.sr.sub (rv.mono a2.gs) ru fun G3 H3 w g3 rw' => ⟨k, rp_bool rw' hk, ?_⟩⟩
  cases k with
  | false => exact q4 _ _ (a2.sr.afterE g3) _ (.bl _)
  | true =>
    refine qc G3 H3 σ ρ2 _ (a2.sr.grow g3) ((RW.trans (a2.sr.afterE g3) q4).op.mono fun x ρ4 G4 H4 a4 q5 y ry => ?_)
    obtain ⟨z2, hz2, q6⟩ := q5
    obtain ⟨r2, hr2, use2⟩ := h' e x z2 hz2
    exact ⟨r2, hr2, use2 G4 H4 u y Q a4.sr.sub ((ru.mono g3.gs).mono a4.gs) ry fun G5 H5 w5 g5 rw5 => q6 _ _ (a4.sr.afterE g5) w5 rw5⟩
end
end PL
namespace PL
open PySem PySem.Spec PyProof.Rows L2
open PySem.W (Frag)
/-! ### statements -/
inductive SRes where
  | next (ρ : DEnv) | ret (d : D) (ρ : DEnv) | brk (ρ : DEnv) | cont (ρ : DEnv) | err (c : Str) (ρ : DEnv) | bad
abbrev MS := DEnv → SRes
def RS (k : Kx) (W : WX) (G H : Hp) (σ : L2.St) (ρ : DEnv) (r : SRes) (E : Ends) : Prop :=
  match r with
  | .next ρ' => ∀ G' H' σ', k.Aft G H σ ρ G' H' σ' ρ' → E.nx σ' H'
  | .ret d ρ' => ∀ G' H' σ' v, k.Aft G H σ ρ G' H' σ' ρ' → Rp k.K G' v d → E.rt v H'
  | .brk ρ' => ∀ G' H' σ', k.Aft G H σ ρ G' H' σ' ρ' → E.bk σ' H'
  | .cont ρ' => ∀ G' H' σ', k.Aft G H σ ρ G' H' σ' ρ' → E.ct σ' H'
  | .err c ρ' => ∀ G' H' σ' C, k.Aft G H σ ρ G' H' σ' ρ' → k.mg c = some (.ref C) → W (.ref C) none σ' H'
  | .bad => False
theorem RS.trans {k : Kx} {W : WX} {G H G1 H1 : Hp} {σ σ1 : L2.St} {ρ ρ1 : DEnv} {r : SRes} {E : Ends} (a : k.Aft G H σ ρ G1 H1 σ1 ρ1) (h : RS k W G H σ ρ r E) : RS k W G1 H1 σ1 ρ1 r E := by
  cases r with
  | next ρ' => exact fun G' H' σ' b => h G' H' σ' (a.trans b)
  | ret d ρ' => exact fun G' H' σ' v b r => h G' H' σ' v (a.trans b) r
  | brk ρ' => exact fun G' H' σ' b => h G' H' σ' (a.trans b)
  | cont ρ' => exact fun G' H' σ' b => h G' H' σ' (a.trans b)
  | err c ρ' => exact fun G' H' σ' C b e => h G' H' σ' C (a.trans b) e
  | bad => exact h
/-- an expression, then a statement's rest -/
def sbind {α : Type} (m : M α) (f : α → MS) : MS := fun ρ => match m ρ with
  | .ok a ρ' => f a ρ'
  | .err c ρ' => .err c ρ'
  | .bad => .bad
theorem RS.bind {α : Type} {k : Kx} {W : WX} {G H : Hp} {σ : L2.St} {ρ : DEnv} {m : M α} {f : α → MS} {E : Ends} (h : RS k W G H σ ρ (sbind m f ρ) E) :
    RW k W G H σ ρ (m ρ) fun a ρ' G' H' => RS k W G' H' σ ρ' (f a ρ') E := by
  unfold sbind at h
  cases e : m ρ with
  | ok a ρ' => rw [e] at h; exact fun G' H' a' => RS.trans a'.a h
  | err c ρ' => rw [e] at h; exact fun G' H' C a' e' => h G' H' σ C a'.a e'
  | bad => rw [e] at h; exact h
theorem RS.lift {α : Type} {k : Kx} {W : WX} {G H : Hp} {σ : L2.St} {ρ : DEnv} {o : Option α} {f : α → MS} {E : Ends} (h : RS k W G H σ ρ (sbind (mlift o) f ρ) E) : ∃ a, o = some a ∧ RS k W G H σ ρ (f a ρ) E := by
  cases o with
  | none => exact h.elim
  | some a => exact ⟨a, rfl, h⟩
/-- one statement, then others -/
def sseq (m n : MS) : MS := fun ρ => match m ρ with
  | .next ρ' => n ρ'
  | r => r
theorem RS.seq {k : Kx} {W : WX} {G H : Hp} {σ : L2.St} {ρ : DEnv} {m n : MS} {E : Ends} {nx : L2.St → Hp → Prop} (h : RS k W G H σ ρ (sseq m n ρ) E) (f : ∀ G' H' σ' ρ', k.Aft G H σ ρ G' H' σ' ρ' → RS k W G' H' σ' ρ' (n ρ') E → nx σ' H') :
    RS k W G H σ ρ (m ρ) { E with nx := nx } := by
  unfold sseq at h
  cases e : m ρ with
  | next ρ' => rw [e] at h; exact fun G' H' σ' a => f G' H' σ' ρ' a (RS.trans a h)
  | ret d ρ' => rw [e] at h; exact h
  | brk ρ' => rw [e] at h; exact h
  | cont ρ' => rw [e] at h; exact h
  | err c ρ' => rw [e] at h; exact h
  | bad => rw [e] at h; exact h
section
variable (X : Cx) (T : Tb) (W : WX)
def PDs (st : Stmt) (m : MS) : Prop := ∃ t, PS X st t ∧ ∀ G H σ ρ E, SR X.K T G H σ ρ → RS (kx X T) W G H σ ρ (m ρ) E → t E σ H
def PDss (st : List Stmt) (m : MS) : Prop := ∃ t, PSs X st t ∧ ∀ G H σ ρ E, SR X.K T G H σ ρ → RS (kx X T) W G H σ ρ (m ρ) E → t E σ H
end
def snext : MS := fun ρ => .next ρ
section
variable {X : Cx} {T : Tb} {W : WX}
theorem pss_nil' : PDss X T W [] snext := ⟨_, pss_nil, fun G H σ ρ E s q => q G H σ (After.refl s)⟩
theorem pss_cons' {st : Stmt} {rest : List Stmt} {m n : MS} (h : PDs X T W st m) (hr : PDss X T W rest n) : PDss X T W (st :: rest) (sseq m n) := by
  obtain ⟨t, et, qt⟩ := h
  obtain ⟨u, eu, qu⟩ := hr
  exact ⟨_, pss_cons et eu, fun G H σ ρ E s q => qt G H σ ρ _ s (q.seq fun G' H' σ' ρ' a r => qu G' H' σ' ρ' E a.sr r)⟩
theorem pss_one' {st : Stmt} {m : MS} (h : PDs X T W st m) : PDss X T W [st] m := by
  obtain ⟨t, et, qt⟩ := h
  exact ⟨_, pss_one et, qt⟩
theorem pds_pass {pos : Pos} : PDs X T W (.Pass pos) snext := ⟨_, ps_pass, fun G H σ ρ E s q => q G H σ (After.refl s)⟩
def sbreak : MS := fun ρ => .brk ρ
def scont : MS := fun ρ => .cont ρ
theorem pds_break {pos : Pos} : PDs X T W (.Break pos) sbreak := ⟨_, ps_break, fun G H σ ρ E s q => q G H σ (After.refl s)⟩
theorem pds_continue {pos : Pos} : PDs X T W (.Continue pos) scont := ⟨_, ps_continue, fun G H σ ρ E s q => q G H σ (After.refl s)⟩
def sret (m : M D) : MS := sbind m fun d ρ => .ret d ρ
theorem pds_ret {e : Expr} {pos : Pos} {m : M D} (h : PD X T W e m) : PDs X T W (.Return (some e) pos) (sret m) := by
  obtain ⟨t, et, qt⟩ := h
  exact ⟨_, ps_ret et, fun G H σ ρ E s q => qt G H σ ρ _ s (q.bind.mono fun d ρ1 G1 H1 a1 q1 v rv => q1 G1 H1 σ v (After.refl a1.sr) rv)⟩
def sdrop (m : M D) : MS := sbind m fun _ ρ => .next ρ
theorem pds_expr {e : Expr} {pos : Pos} {m : M D} (h : PD X T W e m) (hs : swapsWith e none pos.line X.env = pure false := by rfl) : PDs X T W (.Expr e pos) (sdrop m) := by
  obtain ⟨t, et, qt⟩ := h
  exact ⟨_, ps_expr et hs, fun G H σ ρ E s q => qt G H σ ρ _ s (q.bind.mono fun d ρ1 G1 H1 a1 q1 v rv => q1 G1 H1 σ (After.refl a1.sr))⟩
def sif (c : M Bool) (a b : MS) : MS := sbind c fun k => if k = true then a else b
theorem pds_if {c : Expr} {a b : List Stmt} {pos : Pos} {mc : M Bool} {ma mb : MS} (hc : PB X T W c mc) (ha : PDss X T W a ma) (hb : PDss X T W b mb) : PDs X T W (.If c a b pos) (sif mc ma mb) := by
  obtain ⟨tc, ec, qc⟩ := hc
  obtain ⟨ta, ea, qa⟩ := ha
  obtain ⟨tb, eb, qb⟩ := hb
  refine ⟨_, ps_if ec ea eb, fun G H σ ρ E s q => qc G H σ ρ _ s (q.bind.mono fun d ρ1 G1 H1 a1 q1 => ?_)⟩
  cases d with
  | true => exact qa G1 H1 σ ρ1 E a1.sr q1
  | false => exact qb G1 H1 σ ρ1 E a1.sr q1
/-! ### targets -/
/-- a value goes into the slots -/
abbrev TgF := D → DEnv → Option DEnv
/-- what a store of a value does: the new slots, the new objects -/
structure Put (k : Kx) (G H : Hp) (σ : L2.St) (ρ : DEnv) (σ' : L2.St) (ρ' : DEnv) : Prop where
  aft : k.Aft G H σ ρ G H σ' ρ'
/-- slots at ws alone are turned -/
def Only (ws : List Nat) (σ σ' : L2.St) : Prop := σ'.length = σ.length ∧ ∀ j : Nat, j ∉ ws → σ'[j]? = σ[j]?
theorem Only.refl (ws : List Nat) (σ : L2.St) : Only ws σ σ := ⟨rfl, fun _ _ => rfl⟩
theorem Only.trans {ws us : List Nat} {σ σ1 σ2 : L2.St} (a : Only ws σ σ1) (b : Only us σ1 σ2) : Only (ws ++ us) σ σ2 := ⟨b.1.trans a.1, fun j h => by
  rw [List.mem_append, not_or] at h
  exact (b.2 j h.2).trans (a.2 j h.1)⟩
def PTg (X : Cx) (T : Tb) (tg : Expr) (f : TgF) (ws : List Nat) : Prop := (∀ d ρ ρ', f d ρ = some ρ' → Le ρ ρ') ∧ ∃ g, PG X tg g ∧ ∀ G H σ ρ d v ρ' Q, SR X.K T G H σ ρ → Rp X.K G v d → f d ρ = some ρ' → (∀ σ', (kx X T).Aft G H σ ρ G H σ' ρ' → Only ws σ σ' → Q σ' H) → g v σ H Q
def PTgs (X : Cx) (T : Tb) (tgs : List Expr) (f : List D → DEnv → Option DEnv) (ws : List Nat) : Prop := (∀ ds ρ ρ', f ds ρ = some ρ' → Le ρ ρ') ∧ ∃ g, PGs X tgs g ∧ ∀ G H σ ρ ds vs ρ' Q, SR X.K T G H σ ρ → Rps X.K G vs ds → f ds ρ = some ρ' → (∀ σ', (kx X T).Aft G H σ ρ G H σ' ρ' → Only ws σ σ' → Q σ' H) → g vs σ H Q
def isIo : Option Slot → Bool
  | some (.io _) => true
  | none => true
  | _ => false
/-- a slot gets a told value -/
def tname (i : Nat) : TgF := fun d ρ => if isIo ρ[i]? = true then none else some (ρ.set i (.val d))
theorem SR.put {k : Kx} {G H : Hp} {σ : L2.St} {ρ : DEnv} {i : Nat} {d : D} {v : V} (s : SR k.K k.T G H σ ρ) (hi : isIo ρ[i]? = false) (r : Rp k.K G v d) : k.Aft G H σ ρ G H (σ.set i (some v)) (ρ.set i (.val d)) := by
  have hs : ∃ t, ρ[i]? = some t := by
    cases e : ρ[i]? with
    | none => rw [e] at hi; cases hi
    | some t => exact ⟨t, rfl⟩
  obtain ⟨t0, h0⟩ := hs
  have hlt : i < σ.length := by rw [s.len]; exact (List.getElem?_eq_some_iff.mp h0).1
  have gσ : ∀ j, (σ.set i (some v))[j]? = if j = i then some (some v) else σ[j]? := fun j => by
    by_cases e : j = i
    · subst e; rw [if_pos rfl, List.getElem?_set_self hlt]
    · rw [if_neg e, List.getElem?_set_ne (Ne.symm e)]
  have og : ∀ {j t x}, (ρ.set i (Slot.val d))[j]? = some t → t.mine = some x → j ≠ i ∧ ρ[j]? = some t := fun {j t x} hj ht => by
    rw [get_set h0] at hj
    split at hj
    · cases hj; cases ht
    · exact ⟨‹_›, hj⟩
  have ow : ∀ b, OwnAt (σ.set i (some v)) (ρ.set i (.val d)) b → OwnAt σ ρ b := fun b ⟨j, t, x, hj, ht, hs⟩ => by
    obtain ⟨ne, hj'⟩ := og hj ht
    rw [gσ, if_neg ne] at hs
    exact ⟨j, t, x, hj', ht, hs⟩
  refine ⟨Sub.refl G, ⟨s.sub, by rw [List.length_set, List.length_set]; exact s.len, fun j t hj => ?_, fun j l t u x y b hj hl ht hu e1 e2 => ?_, s.tab⟩, fun b u hb _ n => ⟨hb, fun z => n (ow b z)⟩, fun b u hb _ g n => g, fun j x hj => ?_, fun b u hb n => ⟨u, hb, n⟩⟩
  · rw [get_set h0] at hj
    rw [gσ]
    split at hj
    · rename_i e
      rw [if_pos e]
      cases hj
      exact ⟨v, rfl, r⟩
    · rename_i e
      rw [if_neg e]
      exact s.sl j t hj
  · obtain ⟨n1, h1⟩ := og hj ht
    obtain ⟨n2, h2⟩ := og hl hu
    rw [gσ, if_neg n1] at e1
    rw [gσ, if_neg n2] at e2
    exact s.ne j l t u x y b h1 h2 ht hu e1 e2
  · have ne : j ≠ i := fun z => by rw [← z, hj] at hi; cases hi
    rw [gσ, if_neg ne, get_set h0, if_neg ne]
    exact ⟨rfl, x, hj⟩
theorem tg_name {i : Nat} {x : Str} {pos : Pos} (h : PG X (.Name x pos) (gName i)) : PTg X T (.Name x pos) (tname i) [i] := by
  refine ⟨fun d ρ ρ' e => ?_, _, h, fun G H σ ρ d v ρ' Q s r e q => ?_⟩
  · unfold tname at e
    by_cases hi : isIo ρ[i]? = true
    · rw [if_pos hi] at e; cases e
    · rw [if_neg hi] at e
      cases e
      intro j t x hj m
      by_cases ej : i = j
      · subst ej
        have hl : i < ρ.length := by have := (List.getElem?_eq_some_iff.mp hj).1; simpa using this
        rw [List.getElem?_set_self hl] at hj
        cases hj; cases m
      · rw [List.getElem?_set_ne ej] at hj
        exact ⟨t, x, hj, m⟩
  unfold tname at e
  by_cases hi : isIo ρ[i]? = true
  · rw [if_pos hi] at e; cases e
  · rw [if_neg hi] at e
    cases e
    exact q _ (SR.put (k := kx X T) s (by simpa using hi) r) ⟨List.length_set, fun j hj => List.getElem?_set_ne (fun z => hj (by simp [z]))⟩
def tnil : List D → DEnv → Option DEnv := fun ds ρ => match ds with
  | [] => some ρ
  | _ => none
def tcons (f : TgF) (g : List D → DEnv → Option DEnv) : List D → DEnv → Option DEnv := fun ds ρ => match ds with
  | d :: r => (f d ρ).bind (g r)
  | [] => none
/-- a tuple is taken apart -/
def ttup (n : Nat) (g : List D → DEnv → Option DEnv) : TgF := fun d ρ => match d with
  | .tuple ds => if ds.length = n then g ds ρ else none
  | _ => none
theorem tgs_nil (h : PGs X [] gNil) : PTgs X T [] tnil [] := by
  refine ⟨fun ds ρ ρ' e => ?_, _, h, fun G H σ ρ ds vs ρ' Q s r e q => ?_⟩
  · cases ds with
    | nil => cases e; exact fun j t x hj m => ⟨t, x, hj, m⟩
    | cons _ _ => cases e
  cases r with
  | nil => cases e; exact ⟨rfl, q σ (After.refl s) (Only.refl _ _)⟩
  | cons _ _ => cases e
theorem tgs_cons {e : Expr} {es : List Expr} {f : TgF} {g : List D → DEnv → Option DEnv} {ws us : List Nat} (h : PTg X T e f ws) (hs : PTgs X T es g us) (mk : ∀ t u, PG X e t → PGs X es u → PGs X (e :: es) (gCons t u)) : PTgs X T (e :: es) (tcons f g) (ws ++ us) := by
  obtain ⟨lt, t, et, qt⟩ := h
  obtain ⟨lu, u, eu, qu⟩ := hs
  refine ⟨fun ds ρ ρ' e => ?_, _, mk t u et eu, fun G H σ ρ ds vs ρ' Q s r e q => ?_⟩
  · cases ds with
    | nil => cases e
    | cons d r =>
      have e : (f d ρ).bind (g r) = some ρ' := e
      obtain ⟨ρ1, e1, e2⟩ := Option.bind_eq_some_iff.mp e
      intro j t x hj m
      obtain ⟨t1, x1, h1, m1⟩ := lu r ρ1 ρ' e2 j t x hj m
      exact lt d ρ ρ1 e1 j t1 x1 h1 m1
  cases r with
  | nil => cases e
  | cons a r =>
    rename_i v vs d ds
    have e : (f d ρ).bind (g ds) = some ρ' := e
    obtain ⟨ρ1, e1, e2⟩ := Option.bind_eq_some_iff.mp e
    exact ⟨v, vs, rfl, qt G H σ ρ d v ρ1 _ s a e1 fun σ1 a1 o1 => qu G H σ1 ρ1 ds vs ρ' Q a1.sr r e2 fun σ2 a2 o2 => q σ2 (a1.trans a2) (o1.trans o2)⟩
theorem tg_tup {es : List Expr} {x1} {pos : Pos} {n : Nat} {g : List D → DEnv → Option DEnv} {ws : List Nat} (hs : PTgs X T es g ws) (mk : ∀ u, PGs X es u → PG X (.Tuple es x1 pos) (gTup X.K n u)) : PTg X T (.Tuple es x1 pos) (ttup n g) ws := by
  obtain ⟨lu, u, eu, qu⟩ := hs
  refine ⟨fun d ρ ρ' e => ?_, _, mk u eu, fun G H σ ρ d v ρ' Q s r e q => ?_⟩
  · cases d with
    | tuple ds =>
      unfold ttup at e
      by_cases hl : ds.length = n
      · simp only [hl, if_true] at e; exact lu ds ρ ρ' e
      · simp only [hl, if_false] at e; cases e
    | _ => cases e
  cases d with
  | tuple ds =>
    cases r with
    | tup h z r =>
      rename_i a xs
      obtain ⟨hl, e⟩ : ds.length = n ∧ g ds ρ = some ρ' := by
        unfold ttup at e
        by_cases hl : ds.length = n
        · simp only [hl, if_true] at e; exact ⟨hl, e⟩
        · simp only [hl, if_false] at e; cases e
      exact ⟨a, xs, rfl, s.sub.sqt h, r.length.trans hl, qu G H σ ρ ds xs ρ' Q s r e q⟩
  | _ => cases e
/-- tg = e -/
def sasg (m : M D) (f : TgF) : MS := sbind m fun d ρ => match f d ρ with
  | some ρ' => .next ρ'
  | none => .bad
theorem pds_asg {tg e : Expr} {pos : Pos} {m : M D} {f : TgF} {ws : List Nat} (he : PD X T W e m) (ht : PTg X T tg f ws) (hs : swapsWithSole [tg] e pos.line X.env = pure false := by rfl) (hw : swappedStores [tg] e X.env = pure none := by rfl)
    (h1 : (assignEach [tg] X.env).map (·.2) = [assign tg X.env] := by rfl) : PDs X T W (.Assign [tg] e pos) (sasg m f) := by
  obtain ⟨t, et, qt⟩ := he
  obtain ⟨_, g, eg, qg⟩ := ht
  refine ⟨_, ps_asg et eg hs hw h1, fun G H σ ρ E s q => qt G H σ ρ _ s (q.bind.mono fun d ρ1 G1 H1 a1 q1 v rv => ?_)⟩
  cases e1 : f d ρ1 with
  | none =>
    have q1 : RS (kx X T) W G1 H1 σ ρ1 (match f d ρ1 with | some ρ' => .next ρ' | none => .bad) E := q1
    rw [e1] at q1; exact q1.elim
  | some ρ2 =>
    have q1 : RS (kx X T) W G1 H1 σ ρ1 (match f d ρ1 with | some ρ' => .next ρ' | none => .bad) E := q1
    rw [e1] at q1
    exact qg G1 H1 σ ρ1 d v ρ2 _ a1.sr rv e1 fun σ' a2 _ => q1 G1 H1 σ' a2
end
end PL
namespace PL
open PySem PySem.Spec PyProof.Rows L2
open PySem.W (Frag)
theorem mine_at {K : Frag} {G H : Hp} {x : Option (Option V)} {s : Slot} {d : D} (h : SlotR K G H x s) (m : s.mine = some d) : ∃ a o, x = some (some (.ref a)) ∧ H a = some o ∧ G a = none ∧ HoR K G o d := by
  cases s with
  | own d' => cases m; exact h
  | io d' => cases m; exact h
  | _ => cases m
/-- a new object, no one's yet, goes into a slot -/
theorem SR.putOwnP {k : Kx} {G H G2 H2 : Hp} {σ : L2.St} {ρ ρ2 : DEnv} {i : Nat} {d : D} {a : Addr} {o : HO} (s0 : SR k.K k.T G H σ ρ) (A : k.AftE G H σ ρ G2 H2 ρ2) (ha : Fre H a) (h2 : H2 a = some o) (g2 : G2 a = none) (r : HoR k.K G2 o d) (hi : isIo ρ2[i]? = false) :
    k.Aft G H σ ρ G2 H2 (σ.set i (some (.ref a))) (ρ2.set i (.own d)) := by
  have s := A.sr
  have no : ¬ OwnAt σ ρ2 a := A.notOwn (ha.notOwn s0)
  have hs : ∃ t, ρ2[i]? = some t := by
    cases e : ρ2[i]? with
    | none => rw [e] at hi; cases hi
    | some t => exact ⟨t, rfl⟩
  obtain ⟨t0, h0⟩ := hs
  have hlt : i < σ.length := by rw [s.len]; exact (List.getElem?_eq_some_iff.mp h0).1
  have gσ : ∀ j, (σ.set i (some (V.ref a)))[j]? = if j = i then some (some (.ref a)) else σ[j]? := fun j => by
    by_cases e : j = i
    · subst e; rw [if_pos rfl, List.getElem?_set_self hlt]
    · rw [if_neg e, List.getElem?_set_ne (Ne.symm e)]
  have og : ∀ {j t}, (ρ2.set i (Slot.own d))[j]? = some t → (j = i ∧ t = .own d) ∨ (j ≠ i ∧ ρ2[j]? = some t) := fun {j t} hj => by
    rw [get_set h0] at hj
    split at hj
    · cases hj; exact .inl ⟨‹_›, rfl⟩
    · exact .inr ⟨‹_›, hj⟩
  have ow : ∀ b, b ≠ a → OwnAt (σ.set i (some (.ref a))) (ρ2.set i (.own d)) b → OwnAt σ ρ2 b := fun b nb ⟨j, t, x, hj, ht, hs⟩ => by
    rcases og hj with ⟨e, _⟩ | ⟨ne, hj'⟩
    · rw [gσ, if_pos e] at hs; cases hs; exact absurd rfl nb
    · rw [gσ, if_neg ne] at hs
      exact ⟨j, t, x, hj', ht, hs⟩
  refine ⟨A.gs, ⟨s.sub, by rw [List.length_set, List.length_set]; exact s.len, fun j t hj => ?_, fun j l t u x y b hj hl ht hu e1 e2 => ?_, s.tab⟩, fun b u hb nt n => ?_, fun b u hb nt g n => A.a.gn b u hb nt g n, fun j x hj => ?_, A.a.tr⟩
  · rw [gσ]
    rcases og hj with ⟨e, rfl⟩ | ⟨ne, hj'⟩
    · rw [if_pos e]; exact ⟨a, o, rfl, h2, g2, r⟩
    · rw [if_neg ne]; exact s.sl j t hj'
  · rcases og hj with ⟨e, _⟩ | ⟨n1, h1⟩
    · rcases og hl with ⟨e', _⟩ | ⟨n2, h2'⟩
      · rw [e, e']
      · rw [gσ, if_pos e] at e1
        rw [gσ, if_neg n2] at e2
        cases e1
        exact absurd ⟨l, u, y, h2', hu, e2⟩ no
    · rw [gσ, if_neg n1] at e1
      rcases og hl with ⟨e', _⟩ | ⟨n2, h2'⟩
      · rw [gσ, if_pos e'] at e2
        cases e2
        exact absurd ⟨j, t, x, h1, ht, e1⟩ no
      · rw [gσ, if_neg n2] at e2
        exact s.ne j l t u x y b h1 h2' ht hu e1 e2
  · obtain ⟨q1, q2⟩ := A.a.fr b u hb nt n
    have nb : b ≠ a := fun z => by
      rw [z] at hb
      obtain ⟨ps, e⟩ := ha u hb
      exact nt ps e
    exact ⟨q1, fun z => q2 (ow b nb z)⟩
  · obtain ⟨_, d', h'⟩ := A.a.io j x hj
    have ne : j ≠ i := fun z => by rw [← z, h'] at hi; cases hi
    rw [gσ, if_neg ne, get_set h0, if_neg ne]
    exact ⟨rfl, d', h'⟩
/-- the slot's object is written -/
def Slot.put : Slot → D → Slot
  | .own _, d => .own d
  | .io _, d => .io d
  | s, _ => s
theorem SR.write {k : Kx} {G H : Hp} {σ : L2.St} {ρ : DEnv} {i : Nat} {t : Slot} {d d' : D} {a : Addr} {o' : HO} (s : SR k.K k.T G H σ ρ) (hi : ρ[i]? = some t) (ht : t.mine = some d) (e : σ[i]? = some (some (.ref a))) (r : HoR k.K G o' d') :
    k.AftE G H σ ρ G (upd H a o') (ρ.set i (t.put d')) := by
  obtain ⟨a', o, e', h1, g1, r1⟩ := mine_at (s.sl i t hi) ht
  rw [e] at e'; cases e'
  have mp : (t.put d').mine = some d' := by cases t <;> first | rfl | cases ht
  have og : ∀ {j u}, (ρ.set i (t.put d'))[j]? = some u → (j = i ∧ u = t.put d') ∨ (j ≠ i ∧ ρ[j]? = some u) := fun {j u} hj => by
    rw [get_set hi] at hj
    split at hj
    · cases hj; exact .inl ⟨‹_›, rfl⟩
    · exact .inr ⟨‹_›, hj⟩
  have om : ∀ {j : Nat} {u : Slot} {x : D}, (ρ.set i (t.put d'))[j]? = some u → u.mine = some x → ∃ (u' : Slot) (x' : D), ρ[j]? = some u' ∧ u'.mine = some x' := fun {j u x} hj hu => by
    rcases og hj with ⟨rfl, _⟩ | ⟨_, h⟩
    · exact ⟨t, d, hi, ht⟩
    · exact ⟨u, x, h, hu⟩
  have ow : ∀ b, OwnAt σ (ρ.set i (t.put d')) b → OwnAt σ ρ b := fun b ⟨j, u, x, hj, hu, hs⟩ => by
    obtain ⟨u', x', h, m⟩ := om hj hu
    exact ⟨j, u', x', h, m, hs⟩
  have oa : OwnAt σ ρ a := ⟨i, t, d, hi, ht, e⟩
  have sub' : Sub G (upd H a o') := fun b u q => by
    have nb : b ≠ a := fun z => by rw [z, g1] at q; cases q
    rw [upd_ne nb]; exact s.sub b u q
  refine ⟨⟨Sub.refl G, ⟨sub', by rw [List.length_set]; exact s.len, fun j u hj => ?_, fun j l u u2 x y b hj hl hu hu2 e1 e2 => ?_, ?_⟩, fun b u hb nt n => ?_, fun b u hb _ g _ => g, fun j x hj => ?_, fun b u hb n => ?_⟩, fun j u x hj hu => om hj hu⟩
  · rcases og hj with ⟨rfl, rfl⟩ | ⟨ne, h⟩
    · cases t with
      | own _ => exact ⟨a, o', e, upd_same, g1, r⟩
      | io _ => exact ⟨a, o', e, upd_same, g1, r⟩
      | _ => cases ht
    · have q := s.sl j u h
      cases u with
      | un => trivial
      | val x => exact q
      | own x =>
        obtain ⟨b, v, e1, h3, h4, r1⟩ := q
        have nb : b ≠ a := fun z => ne (s.ne j i _ _ x d a h hi rfl ht (by rw [← z]; exact e1) e)
        exact ⟨b, v, e1, by rw [upd_ne nb]; exact h3, h4, r1⟩
      | io x =>
        obtain ⟨b, v, e1, h3, h4, r1⟩ := q
        have nb : b ≠ a := fun z => ne (s.ne j i _ _ x d a h hi rfl ht (by rw [← z]; exact e1) e)
        exact ⟨b, v, e1, by rw [upd_ne nb]; exact h3, h4, r1⟩
  · obtain ⟨u', x', h, m⟩ := om hj hu
    obtain ⟨u2', y', h2, m2⟩ := om hl hu2
    exact s.ne j l u' u2' x' y' b h h2 m m2 e1 e2
  · refine ⟨?_, s.tab.2⟩
    intro p hp
    obtain ⟨ps, h3, h4, h5⟩ := s.tab.1 p hp
    have n1 : p.1 ≠ a := fun z => by rw [z, h1] at h3; cases h3; exact r1.notbl _ rfl
    refine ⟨ps, by rw [upd_ne n1]; exact h3, h4, fun pos cv hc => ?_⟩
    obtain ⟨c, e1, h6⟩ := h5 pos cv hc
    have n2 : c ≠ a := fun z => by rw [z, h1] at h6; cases h6; cases r1
    exact ⟨c, e1, by rw [upd_ne n2]; exact h6⟩
  · have nb : b ≠ a := fun z => n (z ▸ oa)
    exact ⟨by rw [upd_ne nb]; exact hb, fun z => n (ow b z)⟩
  · refine ⟨rfl, ?_⟩
    rw [get_set hi]
    by_cases ej : j = i
    · rw [if_pos ej]
      rw [ej, hi] at hj; cases hj
      exact ⟨d', rfl⟩
    · rw [if_neg ej]; exact ⟨x, hj⟩
  · by_cases nb : b = a
    · subst nb; exact ⟨o', upd_same, r.notbl⟩
    · exact ⟨u, by rw [upd_ne nb]; exact hb, n⟩
section
variable {X : Cx} {T : Tb} {W : WX}
/-- x = a new object that is ours -/
def snew (m : M D) (i : Nat) : MS := sbind m fun d ρ => if isIo ρ[i]? = true then .bad else .next (ρ.set i (.own d))
theorem RSN.bind {k : Kx} {W : WX} {G H : Hp} {σ : L2.St} {ρ : DEnv} {m : M D} {f : D → MS} {E : Ends} {Q : VK} (h : RS k W G H σ ρ (sbind m f ρ) E)
    (use : ∀ d ρ' G' H' a o, RS k W G H σ ρ (f d ρ') E → k.AftE G H σ ρ G' H' ρ' → Fre H a → H' a = some o → G' a = none → HoR k.K G' o d → Q (.ref a) H') : RWN k W G H σ ρ (m ρ) Q := by
  unfold sbind at h
  cases e : m ρ with
  | ok d ρ' => rw [e] at h; exact fun G' H' a o A f h1 g r => use d ρ' G' H' a o h A f h1 g r
  | err c ρ' => rw [e] at h; exact fun G' H' C a' e' => h G' H' σ C a'.a e'
  | bad => rw [e] at h; exact h
theorem pds_new {x : Str} {e : Expr} {p pos : Pos} {i : Nat} {m : M D} (he : PN X T W e m) (hg : PG X (.Name x p) (gName i)) (hs : swapsWithSole [.Name x p] e pos.line X.env = pure false := by rfl) (hw : swappedStores [.Name x p] e X.env = pure none := by rfl)
    (h1 : (assignEach [.Name x p] X.env).map (·.2) = [assign (.Name x p) X.env] := by rfl) : PDs X T W (.Assign [.Name x p] e pos) (snew m i) := by
  obtain ⟨t, et, qt⟩ := he
  refine ⟨_, ps_asg et hg hs hw h1, fun G H σ ρ E s q => qt G H σ ρ _ s (RSN.bind (k := kx X T) q fun d ρ1 G1 H1 a o q1 a1 fa ha ga r => ?_)⟩
  by_cases hi : isIo ρ1[i]? = true
  · rw [if_pos hi] at q1; exact q1.elim
  · rw [if_neg hi] at q1
    exact q1 G1 _ _ (SR.putOwnP (k := kx X T) s a1 fa ha ga r (by simpa using hi))
/-! ### a, b = x, y -/
section
variable {i j : Nat} {x y : Str} {a b : Expr} {px py pt pos : Pos} {kt k2 : Nat} {pt2 : Pos} {ma mb : M D}
def spar (i j : Nat) (ma mb : M D) : MS := sbind ma fun d => sbind mb fun e ρ => if (isIo ρ[i]? || isIo ρ[j]?) = true then .bad else .next ((ρ.set i (.val d)).set j (.val e))
def sparN (i j : Nat) (ma mb : M D) : MS := sbind ma fun d => sbind mb fun e ρ => if (isIo ρ[i]? || isIo ρ[j]?) = true then .bad else .next ((ρ.set i (.val d)).set j (.own e))
def sparO (i j : Nat) (ma mb : M D) : MS := sbind ma fun d => sbind mb fun e ρ => if (isIo ρ[i]? || isIo ρ[j]?) = true then .bad else .next ((ρ.set i (.own d)).set j (.val e))
theorem isIo_set {ρ : DEnv} {i j : Nat} {s : Slot} (hij : i ≠ j) (h : isIo ρ[j]? = false) : isIo (ρ.set i s)[j]? = false := by rw [List.getElem?_set_ne hij]; exact h
theorem starE {a b : Expr} {env : Env} (h : starEach [a, b] env = [(false, eval a env), (false, eval b env)]) : True := trivial
theorem pds_par (hc : X.calm = true) (hN : X.N.Nodup) (hi : X.N[i]? = some x) (hj : X.N[j]? = some y) (hij : i ≠ j) (hx : X.env.scope.names.lookup x = some .local) (hy : X.env.scope.names.lookup y = some .local)
    (ha : PD X T W a ma) (hb : PD X T W b mb)
    (hw : swappedStores [.Tuple [.Name x px, .Name y py] kt pt] (.Tuple [a, b] k2 pt2) X.env = pure (some [x, y]))
    (hs : swapsWithSole [.Tuple [.Name x px, .Name y py] kt pt] (.Tuple [a, b] k2 pt2) pos.line X.env = pure false := by rfl)
    (hst : starEach (a :: [b]) X.env = (false, eval a X.env) :: starEach [b] X.env := by rfl) (hst2 : starEach (b :: []) X.env = (false, eval b X.env) :: starEach [] X.env := by rfl) :
    PDs X T W (.Assign [.Tuple [.Name x px, .Name y py] kt pt] (.Tuple [a, b] k2 pt2) pos) (spar i j ma mb) := by
  obtain ⟨ta, ea, qa⟩ := ha
  obtain ⟨tb, eb, qb⟩ := hb
  refine ⟨_, ps_par hc hN hi hj hij hx hy (pa_cons ea (pa_cons eb pa_nil hst2) hst) hw hs, fun G H σ ρ E s q => qa G H σ ρ _ s (q.bind.mono fun d ρ1 G1 H1 a1 q1 v rv => qb G1 H1 σ ρ1 _ a1.sr (q1.bind.mono fun e ρ2 G2 H2 a2 q2 u ru => ?_))⟩
  refine ⟨v, u, rfl, ?_⟩
  by_cases hio : (isIo ρ2[i]? || isIo ρ2[j]?) = true
  · rw [if_pos hio] at q2; exact q2.elim
  · rw [if_neg hio] at q2
    simp only [Bool.or_eq_true, not_or, Bool.not_eq_true] at hio
    have p1 := SR.put (k := kx X T) a2.sr hio.1 (rv.mono a2.gs)
    exact q2 _ _ _ (p1.trans (SR.put (k := kx X T) p1.sr (isIo_set hij hio.2) ru))
theorem pds_parN (hc : X.calm = true) (hN : X.N.Nodup) (hi : X.N[i]? = some x) (hj : X.N[j]? = some y) (hij : i ≠ j) (hx : X.env.scope.names.lookup x = some .local) (hy : X.env.scope.names.lookup y = some .local)
    (ha : PD X T W a ma) (hb : PN X T W b mb)
    (hw : swappedStores [.Tuple [.Name x px, .Name y py] kt pt] (.Tuple [a, b] k2 pt2) X.env = pure (some [x, y]))
    (hs : swapsWithSole [.Tuple [.Name x px, .Name y py] kt pt] (.Tuple [a, b] k2 pt2) pos.line X.env = pure false := by rfl)
    (hst : starEach (a :: [b]) X.env = (false, eval a X.env) :: starEach [b] X.env := by rfl) (hst2 : starEach (b :: []) X.env = (false, eval b X.env) :: starEach [] X.env := by rfl) :
    PDs X T W (.Assign [.Tuple [.Name x px, .Name y py] kt pt] (.Tuple [a, b] k2 pt2) pos) (sparN i j ma mb) := by
  obtain ⟨ta, ea, qa⟩ := ha
  obtain ⟨tb, eb, qb⟩ := hb
  refine ⟨_, ps_par hc hN hi hj hij hx hy (pa_cons ea (pa_cons eb pa_nil hst2) hst) hw hs, fun G H σ ρ E s q => qa G H σ ρ _ s (q.bind.mono fun d ρ1 G1 H1 a1 q1 v rv => qb G1 H1 σ ρ1 _ a1.sr (RSN.bind (k := kx X T) q1 fun e ρ2 G2 H2 p o q2 a2 fp hp gp ho => ?_))⟩
  refine ⟨v, .ref p, rfl, ?_⟩
  by_cases hio : (isIo ρ2[i]? || isIo ρ2[j]?) = true
  · rw [if_pos hio] at q2; exact q2.elim
  · rw [if_neg hio] at q2
    simp only [Bool.or_eq_true, not_or, Bool.not_eq_true] at hio
    have p1 := SR.putOwnP (k := kx X T) a1.sr a2 fp hp gp ho hio.2
    have p2 := SR.put (k := kx X T) p1.sr (isIo_set (Ne.symm hij) hio.1) (rv.mono a2.gs)
    have p3 := p1.trans p2
    rw [List.set_comm _ _ (Ne.symm hij), List.set_comm _ _ (Ne.symm hij)] at p3
    exact q2 _ _ _ p3
theorem pds_parO (hc : X.calm = true) (hN : X.N.Nodup) (hi : X.N[i]? = some x) (hj : X.N[j]? = some y) (hij : i ≠ j) (hx : X.env.scope.names.lookup x = some .local) (hy : X.env.scope.names.lookup y = some .local)
    (ha : PN X T W a ma) (hb : PD X T W b mb)
    (hw : swappedStores [.Tuple [.Name x px, .Name y py] kt pt] (.Tuple [a, b] k2 pt2) X.env = pure (some [x, y]))
    (hs : swapsWithSole [.Tuple [.Name x px, .Name y py] kt pt] (.Tuple [a, b] k2 pt2) pos.line X.env = pure false := by rfl)
    (hst : starEach (a :: [b]) X.env = (false, eval a X.env) :: starEach [b] X.env := by rfl) (hst2 : starEach (b :: []) X.env = (false, eval b X.env) :: starEach [] X.env := by rfl) :
    PDs X T W (.Assign [.Tuple [.Name x px, .Name y py] kt pt] (.Tuple [a, b] k2 pt2) pos) (sparO i j ma mb) := by
  obtain ⟨ta, ea, qa⟩ := ha
  obtain ⟨tb, eb, qb⟩ := hb
  refine ⟨_, ps_par hc hN hi hj hij hx hy (pa_cons ea (pa_cons eb pa_nil hst2) hst) hw hs, fun G H σ ρ E s q => qa G H σ ρ _ s (RSN.bind (k := kx X T) q fun d ρ1 G1 H1 p o q1 a1 fp hp gp ho => ?_)⟩
  refine qb G1 H1 σ ρ1 _ a1.sr ?_
  unfold sbind at q1
  cases hm : mb ρ1 with
  | bad => rw [hm] at q1; exact q1.elim
  | err c ρ2 =>
    rw [hm] at q1
    exact fun G2 H2 C a2 e => q1 G2 H2 σ C (a1.trans a2).a e
  | ok e ρ2 =>
    rw [hm] at q1
    intro G2 H2 a2 u ru
    refine ⟨.ref p, u, rfl, ?_⟩
    have no : ¬ OwnAt σ ρ1 p := a1.notOwn (fp.notOwn s)
    have f1 := (a2.a.fr p o hp ho.notbl no).1
    have f2 := a2.a.gn p o hp ho.notbl gp no
    by_cases hio : (isIo ρ2[i]? || isIo ρ2[j]?) = true
    · simp only [hio, if_true] at q1; exact q1.elim
    · simp only [hio, if_false] at q1
      simp only [Bool.or_eq_true, not_or, Bool.not_eq_true] at hio
      have p1 := SR.putOwnP (k := kx X T) s (a1.trans a2) fp f1 f2 (ho.mono a2.gs) hio.1
      have p2 := SR.put (k := kx X T) p1.sr (isIo_set hij hio.2) ru
      exact q1 _ _ _ (p1.trans p2)
end
end
end PL
namespace PL
open PySem PySem.Spec PyProof.Rows L2
open PySem.W (Frag)
theorem SR.slot_mine {k : Kx} {G H : Hp} {σ : L2.St} {ρ : DEnv} {i : Nat} {t : Slot} {d : D} (s : SR k.K k.T G H σ ρ) (hi : ρ[i]? = some t) (ht : t.mine = some d) : ∃ a o, σ[i]? = some (some (.ref a)) ∧ H a = some o ∧ G a = none ∧ HoR k.K G o d := mine_at (s.sl i t hi) ht
/-- what stands in a slot that is ours -/
def mineAt (ρ : DEnv) (i : Nat) : Option (Slot × D) := match ρ[i]? with
  | some s => (s.mine).map fun d => (s, d)
  | none => none
theorem mineAt_of {ρ : DEnv} {i : Nat} {t : Slot} {d : D} (h : mineAt ρ i = some (t, d)) : ρ[i]? = some t ∧ t.mine = some d := by
  unfold mineAt at h
  cases e : ρ[i]? with
  | none => rw [e] at h; cases h
  | some s =>
    rw [e] at h
    obtain ⟨d', h1, h2⟩ := Option.map_eq_some_iff.mp h
    cases h2
    exact ⟨rfl, h1⟩
section
variable {X : Cx} {T : Tb} {W : WX}
/-! ### x[i] = e, x ours -/
def listSet : D → D → D → Option D := fun c k d => match c, k with
  | .list ds, .int i => (ixN ds.length i).map fun j => .list (ds.set j d)
  | _, _ => none
def ssub2 (i : Nat) (mk : M D) (d : D) : MS := sbind mk fun k ρ => match mineAt ρ i with
  | some (t, c) => match listSet c k d with
    | some c' => .next (ρ.set i (t.put c'))
    | none => .bad
  | none => .bad
def ssub (i : Nat) (mk md : M D) : MS := sbind md fun d ρ => match mineAt ρ i with
  | some _ => ssub2 i mk d ρ
  | none => .bad
theorem pds_sub {x : Str} {ix e : Expr} {p p2 pos : Pos} {i : Nat} {mk md : M D} (hx : PE X (.Name x p) (tVar i)) (hk : PD X T W ix mk) (he : PD X T W e md)
    (hgs : ∀ ti, PE X ix ti → PG X (.Subscript (.Name x p) ix p2) (gSub (tVar i) ti rSetL))
    (hs : swapsWithSole [.Subscript (.Name x p) ix p2] e pos.line X.env = pure false := by rfl) (hw : swappedStores [.Subscript (.Name x p) ix p2] e X.env = pure none := by rfl)
    (h1 : (assignEach [.Subscript (.Name x p) ix p2] X.env).map (·.2) = [assign (.Subscript (.Name x p) ix p2) X.env] := by rfl) : PDs X T W (.Assign [.Subscript (.Name x p) ix p2] e pos) (ssub i mk md) := by
  obtain ⟨td, ed, qd⟩ := he
  obtain ⟨ti, ei, qi⟩ := hk
  refine ⟨_, ps_asg ed (hgs ti ei) hs hw h1, fun G H σ ρ E s q => qd G H σ ρ _ s (q.bind.mono fun d ρ1 G1 H1 a1 q1 v rv => ?_)⟩
  cases hm : mineAt ρ1 i with
  | none => simp only [hm] at q1; exact q1.elim
  | some tc =>
    simp only [hm] at q1
    obtain ⟨hi, ht⟩ := mineAt_of (t := tc.1) (d := tc.2) hm
    obtain ⟨a, o, e, _⟩ := SR.slot_mine (k := kx X T) a1.sr hi ht
    refine ⟨.ref a, e, qi G1 H1 σ ρ1 _ a1.sr (q1.bind.mono fun k ρ2 G2 H2 a2 q2 u ru => ?_)⟩
    cases hm2 : mineAt ρ2 i with
    | none => simp only [hm2] at q2; exact q2.elim
    | some tc2 =>
      obtain ⟨t2, c2⟩ := tc2
      simp only [hm2] at q2
      obtain ⟨hi2, ht2⟩ := mineAt_of hm2
      obtain ⟨a', o2, e2, h2, g2, r2⟩ := SR.slot_mine (k := kx X T) a2.sr hi2 ht2
      rw [e] at e2; cases e2
      cases hl : listSet c2 k d with
      | none => simp only [hl] at q2; exact q2.elim
      | some c' =>
        simp only [hl] at q2
        cases c2 with
        | list ds =>
          cases k with
          | int n =>
            obtain ⟨j, hj, rfl⟩ := Option.map_eq_some_iff.mp hl
            cases r2 with
            | lst z r2 =>
              rename_i xs
              cases ru
              refine ⟨a, xs, n, j, rfl, rfl, h2, by rw [r2.length]; exact hj, ?_⟩
              exact q2 _ _ _ (SR.write (k := kx X T) a2.sr hi2 ht2 e (.lst (by rw [List.length_set]; exact z) (Rps.set (rv.mono a2.gs) j r2))).a
          | _ => cases hl
        | _ => cases hl
/-! ### x.m(..), x ours, changed by it -/
/-- the method's answer and the new content -/
def MuX (X : Cx) (id : String) (f : D → List D → Option (D × D)) : Prop := ∀ c es c' z, f c es = some (c', z) →
  ∃ r, MtR X id r ∧ ∀ G H a o vs Q, Sub G H → H a = some o → G a = none → HoR X.K G o c → Rps X.K G vs es → (∀ o' v, HoR X.K G o' c' → Rp X.K G v z → Q v (upd H a o')) → r (.ref a) vs H Q
def mU (X : Cx) (id : String) : V → List V → Hp → VK → Prop := fun x xs H Q => ∃ r, MtR X id r ∧ r x xs H Q
theorem mU_ok (X : Cx) (id : String) : MtR X id (mU X id) := fun pins s σ H x xs v us Q I rx rs ⟨r, h, q⟩ => h pins s σ H x xs v us Q I rx rs q
def tyD : D → String → Bool
  | .list _, T => T == "list"
  | .dict _, T => T == "dict"
  | _, _ => false
def mmut2 (i : Nat) (f : D → List D → Option (D × D)) (es : List D) : M D := fun ρ => match mineAt ρ i with
  | some (t, c) => match f c es with
    | some (c', z) => .ok z (ρ.set i (t.put c'))
    | none => .bad
  | none => .bad
def mmut (i : Nat) (T : String) (f : D → List D → Option (D × D)) (ms : M (List D)) : M D := fun ρ => match mineAt ρ i with
  | some (_, c) => if tyD c T = true then mbind ms (mmut2 i f) ρ else .bad
  | none => .bad
theorem tyD_V {K : Frag} {G H : Hp} {a : Addr} {o : HO} {c : D} {T : String} (h : H a = some o) (r : HoR K G o c) (t : tyD c T = true) : tyV K T (.ref a) H := by
  cases r with
  | lst z r => exact .inl ⟨by simpa [tyD] using t, _, SqL.of h⟩
  | dic r => exact .inr (.inr (.inl ⟨by simpa [tyD] using t, .inl ⟨_, h⟩⟩))
theorem mmut2_run {id : String} {i : Nat} {f : D → List D → Option (D × D)} (hm : MuX X id f) {G H : Hp} {σ : L2.St} {ρ : DEnv} {es : List D} {vs : List V} {a : Addr} {Q : VK} (s : SR X.K T G H σ ρ) (e : σ[i]? = some (some (.ref a)))
    (q : RW (kx X T) W G H σ ρ (mmut2 i f es ρ) fun d _ G' H' => ∀ v, Rp X.K G' v d → Q v H') (rs : Rps X.K G vs es) : mU X id (.ref a) vs H Q := by
  unfold mmut2 at q
  cases hm2 : mineAt ρ i with
  | none => simp only [hm2] at q; exact q.elim
  | some tc =>
    obtain ⟨t, c⟩ := tc
    simp only [hm2] at q
    obtain ⟨hi, ht⟩ := mineAt_of hm2
    obtain ⟨a', o, e2, h2, g2, r2⟩ := SR.slot_mine (k := kx X T) s hi ht
    rw [e] at e2; cases e2
    cases hf : f c es with
    | none => simp only [hf] at q; exact q.elim
    | some cz =>
      obtain ⟨c', z⟩ := cz
      simp only [hf] at q
      obtain ⟨r, hr, use⟩ := hm c es c' z hf
      exact ⟨r, hr, use G H a o vs Q s.sub h2 g2 r2 rs fun o' v ro rv => q _ _ (SR.write (k := kx X T) s hi ht e ro) v rv⟩
theorem pd_mut {x name : Str} {e : Expr} {es : List Expr} {p apos cpos : Pos} {i : Nat} {Ty id : String} {f : D → List D → Option (D × D)} {ms : M (List D)} (pa : PlainAttrs Ty) (slot : PySem.Slot Ty name id) (hty : typeOf (.builtin id) = pure (.type "method_descriptor")) (hm : MuX X id f)
    (hx : PE X (.Name x p) (tVar i)) (ha : PAs X T W (e :: es) ms)
    (hbase : attributeBase (.Name x p) name X.env (eval (.Name x p) X.env) = eval (.Name x p) X.env := by rfl)
    (hfew : ((backTo cpos (starEach (e :: es) X.env)).all (fun x => !x.1) && (backToKw cpos (keywordEach [] X.env)).all (fun x => x.1.isSome)
      && decide ((e :: es).length + ([] : List Keyword).length + (if ([] : List Keyword).isEmpty then 0 else 1) < 30)) = true := by rfl)
    (hline : (apos.endLine == cpos.line) = true := by rfl) (hs : starEach (e :: es) X.env = (false, eval e X.env) :: starEach es X.env := by rfl) (hplain : (backTo cpos (starEach es X.env)).any (·.1) = false := by rfl) :
    PD X T W (.Call (.Attribute (.Name x p) name apos) (e :: es) [] cpos) (mmut i Ty f ms) := by
  obtain ⟨t, et, qt⟩ := ha
  refine ⟨_, pe_bm pa slot hty (mU_ok X id) hx et hbase hfew hline hs hplain, fun G H σ ρ Q s q => ?_⟩
  unfold mmut at q
  cases hm2 : mineAt ρ i with
  | none => simp only [hm2] at q; exact q.elim
  | some tc =>
    obtain ⟨tt, c⟩ := tc
    simp only [hm2] at q
    obtain ⟨hi, ht⟩ := mineAt_of hm2
    obtain ⟨a, o, e2, h2, g2, r2⟩ := SR.slot_mine (k := kx X T) s hi ht
    by_cases hc : tyD c Ty = true
    · rw [if_pos hc] at q
      refine ⟨.ref a, e2, tyD_V h2 r2 hc, qt G H σ ρ _ s (q.bind.mono fun ds ρ1 G1 H1 a1 q1 vs rv => mmut2_run hm a1.sr e2 q1 rv)⟩
    · rw [if_neg hc] at q; exact q.elim
theorem pd_mut0 {x name : Str} {p apos cpos : Pos} {i : Nat} {Ty id : String} {f : D → List D → Option (D × D)} (pa : PlainAttrs Ty) (slot : PySem.Slot Ty name id) (hty : typeOf (.builtin id) = pure (.type "method_descriptor")) (hm : MuX X id f)
    (hx : PE X (.Name x p) (tVar i))
    (hbase : attributeBase (.Name x p) name X.env (eval (.Name x p) X.env) = eval (.Name x p) X.env := by rfl) (hline : (apos.endLine == cpos.line) = true := by rfl) :
    PD X T W (.Call (.Attribute (.Name x p) name apos) [] [] cpos) (mmut i Ty f mnil) := by
  refine ⟨_, pe_bm0 pa slot hty (mU_ok X id) hx hbase hline, fun G H σ ρ Q s q => ?_⟩
  unfold mmut at q
  cases hm2 : mineAt ρ i with
  | none => simp only [hm2] at q; exact q.elim
  | some tc =>
    obtain ⟨tt, c⟩ := tc
    simp only [hm2] at q
    obtain ⟨hi, ht⟩ := mineAt_of hm2
    obtain ⟨a, o, e2, h2, g2, r2⟩ := SR.slot_mine (k := kx X T) s hi ht
    by_cases hc : tyD c Ty = true
    · rw [if_pos hc] at q
      exact ⟨.ref a, e2, tyD_V h2 r2 hc, mmut2_run hm s e2 (q.bind.ok s) .nil⟩
    · rw [if_neg hc] at q; exact q.elim
def fAppend : D → List D → Option (D × D) := fun c es => match c, es with
  | .list ds, [d] => if ds.length < sizeLine then some (.list (ds ++ [d]), .none) else none
  | _, _ => none
def fExtend : D → List D → Option (D × D) := fun c es => match c, es with
  | .list ds, [.list xs] => if ds.length + xs.length ≤ sizeLine then some (.list (ds ++ xs), .none) else none
  | _, _ => none
def fPop : D → List D → Option (D × D) := fun c es => match c, es with
  | .list ds, [] => ds[ds.length - 1]?.map fun d => (.list ds.dropLast, d)
  | _, _ => none
theorem mu_append : MuX X "list.append" fAppend := by
  intro c es c' z h
  unfold fAppend at h
  split at h
  · rename_i ds d
    obtain ⟨hl, e⟩ := if_some h
    cases e
    refine ⟨_, mt_append, fun G H a o vs Q su h2 g2 r2 rs use => ?_⟩
    cases r2 with
    | lst hz r2 =>
      rename_i xs
      cases rs with
      | cons rd rn =>
        rename_i y ys
        cases rn
        have hx : xs.length < sizeLine := by rw [r2.length]; exact hl
        exact ⟨a, xs, y, rfl, rfl, h2, hx, use _ _ (.lst (by rw [List.length_append]; exact hx) (r2.append (.cons rd .nil))) .non⟩
  · cases h
theorem mu_extend : MuX X "list.extend" fExtend := by
  intro c es c' z h
  unfold fExtend at h
  split at h
  · rename_i ds zs
    obtain ⟨hl, e⟩ := if_some h
    cases e
    refine ⟨_, mt_extend, fun G H a o vs Q su h2 g2 r2 rs use => ?_⟩
    cases r2 with
    | lst hz r2 =>
      rename_i xs
      cases rs with
      | cons rd rn =>
        cases rn
        cases rd with
        | lst h3 hz3 r3 =>
          rename_i b ws
          have hx : xs.length + ws.length ≤ sizeLine := by rw [r2.length, r3.length]; exact hl
          exact ⟨a, b, xs, ws, rfl, rfl, h2, su _ _ h3, hx, use _ _ (.lst (by rw [List.length_append]; exact hx) (r2.append r3)) .non⟩
  · cases h
theorem dropLast_rps {K : Frag} {G : Hp} {vs : List V} {ds : List D} (r : Rps K G vs ds) : Rps K G vs.dropLast ds.dropLast := by
  rw [List.dropLast_eq_take, List.dropLast_eq_take, r.length]
  exact r.take _
theorem mu_pop : MuX X "list.pop" fPop := by
  intro c es c' z h
  unfold fPop at h
  split at h
  · rename_i ds
    obtain ⟨d, hd, e⟩ := Option.map_eq_some_iff.mp h
    cases e
    refine ⟨_, mt_pop, fun G H a o vs Q su h2 g2 r2 rs use => ?_⟩
    cases r2 with
    | lst hz r2 =>
      rename_i xs
      cases rs
      obtain ⟨v, hv, rv⟩ := r2.get hd
      exact ⟨a, xs, v, rfl, rfl, h2, by rw [r2.length]; exact hv, use _ _ (.lst (by rw [List.length_dropLast]; omega) (dropLast_rps r2)) rv⟩
  · cases h
end
end PL
namespace PL
open PySem PySem.Spec PyProof.Rows L2 RZ
open PySem.W (Frag)
/-- J walks the items ds -/
def WalkD (K : Frag) (G : Hp) (ds : List D) (J : It) : Prop := ∃ (n : Nat) (Gd : Hp → Prop) (Y : Nat → Hp → V → Hp → Prop), Walk J n Gd Y ∧ n = ds.length ∧ (∀ H2, Sub G H2 → Gd H2) ∧
  ∀ (i : Nat) (d : D) (H2 : Hp) (x : V) (H3 G2 : Hp), ds[i]? = some d → Sub G G2 → Sub G2 H2 → Y i H2 x H3 → ∃ G3, Grow G2 H2 G3 H3 ∧ Rp K G3 x d
def PDI (X : Cx) (T : Tb) (W : WX) (tg iter : Expr) (m : M (List D)) : Prop := ∃ wi, PI X tg iter wi ∧ ∀ G H σ ρ R, SR X.K T G H σ ρ → RW (kx X T) W G H σ ρ (m ρ) (fun ds _ G' H' => ds.length ≤ sizeLine → ∀ J, WalkD X.K G' ds J → R J H') → wi σ H R
def piU (X : Cx) (tg e : Expr) : TI := fun σ H R => ∃ wi, PI X tg e wi ∧ wi σ H R
theorem piU_ok (X : Cx) (tg e : Expr) : PI X tg e (piU X tg e) := ⟨fun pins s σ H R I ⟨wi, h, q⟩ => h.run pins s σ H R I q⟩
def items : D → Option (List D)
  | .list ds => some ds
  | .tuple ds => some ds
  | _ => none
def mitems (m : M D) : M (List D) := mbind m fun d => mlift (items d)
section
variable {X : Cx} {T : Tb} {W : WX}
theorem walkD_list {K : Frag} {G : Hp} {a : Addr} {xs : List V} {ds : List D} (h : LqL K G a xs) (r : Rps K G xs ds) : WalkD K G ds (Itl K a) :=
  ⟨_, _, _, walk_list (xs := xs), r.length, fun H2 s => (s.lql h).sq, fun i d H2 x H3 G2 e s1 s2 y => by
    obtain ⟨eH, ex⟩ := y
    subst eH
    obtain ⟨v, e1, rv⟩ := r.get e
    rw [ex] at e1; cases e1
    exact ⟨G2, Grow.refl s2, rv.mono s1⟩⟩
theorem walkD_tup {K : Frag} {G : Hp} {a : Addr} {xs : List V} {ds : List D} (h : SqT K G a xs) (r : Rps K G xs ds) : WalkD K G ds (Itt K a) :=
  ⟨_, _, _, walk_tup (xs := xs), r.length, fun H2 s => s.sqt h, fun i d H2 x H3 G2 e s1 s2 y => by
    obtain ⟨eH, ex⟩ := y
    subst eH
    obtain ⟨v, e1, rv⟩ := r.get e
    rw [ex] at e1; cases e1
    exact ⟨G2, Grow.refl s2, rv.mono s1⟩⟩
/-- a value that is walked -/
theorem pdi_val {tg e : Expr} {m : M D} (h : PD X T W e m) : PDI X T W tg e (mitems m) := by
  obtain ⟨t, et, qt⟩ := h
  refine ⟨_, piU_ok X tg e, fun G H σ ρ R s q => ?_⟩
  unfold mitems mbind at q
  cases hm : m ρ with
  | bad => rw [hm] at q; exact q.elim
  | err c ρ' =>
    rw [hm] at q
    exact ⟨_, pi_list et, qt G H σ ρ _ s (by rw [hm]; exact q)⟩
  | ok d ρ' =>
    rw [hm] at q
    cases d with
    | list ds =>
      refine ⟨_, pi_list et, qt G H σ ρ _ s ?_⟩
      rw [hm]
      intro G' H' A v rv
      cases rv with
      | lst h hz r =>
        refine ⟨_, rfl, ⟨_, (A.sr.sub.lql h).sq⟩, q G' H' A (by rw [← r.length]; exact hz) _ (walkD_list h r)⟩
    | tuple ds =>
      refine ⟨_, pi_tup et, qt G H σ ρ _ s ?_⟩
      rw [hm]
      intro G' H' A v rv
      cases rv with
      | tup h hz r =>
        refine ⟨_, rfl, ⟨_, A.sr.sub.sqt h⟩, q G' H' A (by rw [← r.length]; exact hz) _ (walkD_tup h r)⟩
    | _ => exact q.elim
/-! ### range -/
def rangeD (lo : Int) (n : Nat) : List D := (List.range n).map fun (i : Nat) => PyData.int (lo + (i : Int))
def range1 : List D → Option (List D)
  | [.int j] => if j ≤ 16777216 ∧ -(2 ^ 62) ≤ j then some (rangeD 0 j.toNat) else none
  | _ => none
def range2 : List D → Option (List D)
  | [.int i, .int j] => if (-(2 ^ 62) ≤ i ∧ i < 2 ^ 62 ∧ -(2 ^ 62) ≤ j ∧ j < 2 ^ 62) ∧ (j - i) ≤ 16777216 then some (rangeD i (j - i).toNat) else none
  | _ => none
def mrange (f : List D → Option (List D)) (ms : M (List D)) : M (List D) := mbind ms fun ds => mlift (f ds)
theorem walkD_range {K : Frag} {G : Hp} {lo : Int} {n : Nat} : WalkD K G (rangeD lo n) (Itr lo n) :=
  ⟨_, _, _, walk_range, by unfold rangeD; rw [List.length_map, List.length_range], fun _ _ => trivial, fun i d H2 x H3 G2 e s1 s2 y => by
    obtain ⟨eH, ex⟩ := y
    subst eH
    subst ex
    unfold rangeD at e
    rw [List.getElem?_map] at e
    obtain ⟨k, hk, rfl⟩ := Option.map_eq_some_iff.mp e
    obtain ⟨h1, h2⟩ := List.getElem?_eq_some_iff.mp hk
    rw [List.getElem_range] at h2
    subst h2
    exact ⟨G2, Grow.refl s2, .int _⟩⟩
theorem rangeD_length (lo : Int) (n : Nat) : (rangeD lo n).length = n := by unfold rangeD; rw [List.length_map, List.length_range]
theorem pdi_range1 {tg a : Expr} {p pos : Pos} {ms : M (List D)} (hg : Gl X "range") (hm : X.mg "range" = none) (ha : PAs X T W [a] ms) (hs : starEach [a] X.env = [(false, eval a X.env)] := by rfl) :
    PDI X T W tg (.Call (.Name "range" p) [a] [] pos) (mrange range1 ms) := by
  obtain ⟨t, et, qt⟩ := ha
  refine ⟨_, pi_range1 hg hm et hs, fun G H σ ρ R s q => qt G H σ ρ _ s (q.bind.mono fun ds ρ1 G1 H1 a1 q1 vs rv => ?_)⟩
  obtain ⟨zs, hz, q2⟩ := q1.lift1
  unfold range1 at hz
  split at hz
  · rename_i j
    obtain ⟨⟨h1, h2⟩, rfl⟩ := if_some hz
    have e := Rps.ints (ns := [j]) rv
    subst e
    exact ⟨j, rfl, h2, by omega, q2 _ _ (AftE.refl a1.sr) (by rw [rangeD_length, sizeLine_eq]; omega) _ walkD_range⟩
  · cases hz
theorem pdi_range2 {tg a b : Expr} {p pos : Pos} {ms : M (List D)} (hg : Gl X "range") (hm : X.mg "range" = none) (ha : PAs X T W [a, b] ms) (hs : starEach [a, b] X.env = [(false, eval a X.env), (false, eval b X.env)] := by rfl) (hs2 : starEach [b] X.env = [(false, eval b X.env)] := by rfl) :
    PDI X T W tg (.Call (.Name "range" p) [a, b] [] pos) (mrange range2 ms) := by
  obtain ⟨t, et, qt⟩ := ha
  refine ⟨_, pi_range2 hg hm et hs hs2, fun G H σ ρ R s q => qt G H σ ρ _ s (q.bind.mono fun ds ρ1 G1 H1 a1 q1 vs rv => ?_)⟩
  obtain ⟨zs, hz, q2⟩ := q1.lift1
  unfold range2 at hz
  split at hz
  · rename_i i j
    obtain ⟨⟨h1, h2⟩, rfl⟩ := if_some hz
    have e := Rps.ints (ns := [i, j]) rv
    subst e
    exact ⟨i, j, rfl, h1, q2 _ _ (AftE.refl a1.sr) (by rw [rangeD_length, sizeLine_eq]; omega) _ walkD_range⟩
  · cases hz
/-! ### zip of two lists or two tuples -/
def zipD (xs ys : List D) : List D := List.zipWith (fun x y => .tuple [x, y]) xs ys
def zip2 : List D → Option (List D)
  | [.list xs, .list ys] => some (zipD xs ys)
  | [.tuple xs, .tuple ys] => some (zipD xs ys)
  | _ => none
theorem pair_new {K : Frag} {G2 H2 : Hp} {T : Addr} {x y : V} {d e : D} (s2 : Sub G2 H2) (hn : H2 T = none) (r1 : Rp K G2 x d) (r2 : Rp K G2 y e) :
    Grow G2 H2 (upd G2 T (.tup [x, y])) (upd H2 T (.tup [x, y])) ∧ Rp K (upd G2 T (.tup [x, y])) (.ref T) (.tuple [d, e]) := by
  have g := Grow.new (o := .tup [x, y]) s2 hn
  exact ⟨g, .tup (SqT.of upd_same) (small_line (by decide : 2 ≤ 1000)) (.cons (r1.mono g.gs) (.cons (r2.mono g.gs) .nil))⟩
theorem zipD_get {xs ys : List D} {i : Nat} {d : D} (h : (zipD xs ys)[i]? = some d) : ∃ a b, xs[i]? = some a ∧ ys[i]? = some b ∧ d = .tuple [a, b] := by
  unfold zipD at h
  rw [List.getElem?_zipWith] at h
  cases e1 : xs[i]? with
  | none => rw [e1] at h; cases ys[i]? <;> cases h
  | some a =>
    cases e2 : ys[i]? with
    | none => rw [e1, e2] at h; cases h
    | some b => rw [e1, e2] at h; cases h; exact ⟨a, b, rfl, rfl, rfl⟩
theorem walkD_pair {K : Frag} {G : Hp} {J : It} {n : Nat} {Gd : Hp → Prop} {f g : Nat → Option V} {xs ys : List D} (w : Walk J n Gd (YPair f g)) (hn : n = min xs.length ys.length) (hG : ∀ H2, Sub G H2 → Gd H2)
    (hf : ∀ (i : Nat) (a : D) (v : V), xs[i]? = some a → f i = some v → Rp K G v a) (hg : ∀ (i : Nat) (a : D) (v : V), ys[i]? = some a → g i = some v → Rp K G v a) : WalkD K G (zipD xs ys) J :=
  ⟨n, Gd, _, w, by unfold zipD; rw [List.length_zipWith]; exact hn, hG, fun i d H2 x H3 G2 e s1 s2 y => by
    obtain ⟨T, u, v, rfl, hT, rfl, h1, h2⟩ := y
    obtain ⟨a, b, e1, e2, rfl⟩ := zipD_get e
    obtain ⟨g1, r1⟩ := pair_new (K := K) (d := a) (e := b) s2 hT ((hf i a u e1 h1).mono s1) ((hg i b v e2 h2).mono s1)
    exact ⟨_, g1, r1⟩⟩
theorem rps_at {K : Frag} {G : Hp} {vs : List V} {ds : List D} (r : Rps K G vs ds) : ∀ (i : Nat) (a : D) (v : V), ds[i]? = some a → vs[i]? = some v → Rp K G v a := fun i a v h1 h2 => by
  obtain ⟨w, h3, r3⟩ := r.get h1
  rw [h2] at h3; cases h3
  exact r3
theorem zip_le {xs ys : List D} (h : xs.length ≤ sizeLine) : (zipD xs ys).length ≤ sizeLine := by
  unfold zipD; rw [List.length_zipWith]; omega
theorem walk_zipT' {K : Frag} {a b : Addr} {xs ys : List V} {n : Nat} (hn : n = min xs.length ys.length) : Walk (ItzT K a b) n (fun H => SqT K H a xs ∧ SqT K H b ys) (YPair (fun i => xs[i]?) (fun i => ys[i]?)) := by
  subst hn
  refine ⟨fun i _ hi q => ?_, fun _ q => ⟨xs, ys, q.1, q.2, by omega⟩, fun i H v H' _ q y => ?_⟩
  · have h1 : i < xs.length := by omega
    have h2 : i < ys.length := by omega
    exact ⟨xs, ys, xs[i], ys[i], q.1, q.2, by simp [h1], by simp [h2]⟩
  · obtain ⟨T, x, y, e1, e2, e3, e4, e5⟩ := y
    exact ⟨T, x, y, e1, e2, e3, e4 xs q.1, e5 ys q.2⟩
theorem pdi_zip {elts : List Expr} {kk : Nat} {tpos : Pos} {e e2 : Expr} {p pos : Pos} {ms : M (List D)} (hg : Gl X "zip") (hm : X.mg "zip" = none) (ha : PAs X T W [e, e2] ms)
    (mk : ∀ t, PA X [e, e2] t → PI X (.Tuple elts kk tpos) (.Call (.Name "zip" p) [e, e2] [] pos) (iZipA X.K t)) :
    PDI X T W (.Tuple elts kk tpos) (.Call (.Name "zip" p) [e, e2] [] pos) (mrange zip2 ms) := by
  obtain ⟨t, et, qt⟩ := ha
  refine ⟨_, mk t et, fun G H σ ρ R s q => qt G H σ ρ _ s (q.bind.mono fun ds ρ1 G1 H1 a1 q1 vs rv => ?_)⟩
  obtain ⟨zs, hz, q2⟩ := q1.lift1
  have su := a1.sr.sub
  unfold zip2 at hz
  split at hz
  · rename_i xs ys
    cases hz
    cases rv with
    | cons r1 rr =>
      cases rr with
      | cons r2 rn =>
        cases rn
        cases r1 with
        | lst h1 z1 r1 =>
          cases r2 with
          | lst h2 z2 r2 =>
            rename_i a us b ws
            refine ⟨a, b, us, ws, rfl, .inl ⟨(su.lql h1).sq, (su.lql h2).sq, q2 _ _ (AftE.refl a1.sr) (zip_le (by rw [← r1.length]; exact z1)) _ ?_⟩⟩
            exact walkD_pair (walk_zip rfl) (by rw [r1.length, r2.length]) (fun H2 s2 => ⟨(s2.lql h1).sq, (s2.lql h2).sq⟩) (rps_at r1) (rps_at r2)
  · rename_i xs ys
    cases hz
    cases rv with
    | cons r1 rr =>
      cases rr with
      | cons r2 rn =>
        cases rn
        cases r1 with
        | tup h1 z1 r1 =>
          cases r2 with
          | tup h2 z2 r2 =>
            rename_i a us b ws
            refine ⟨a, b, us, ws, rfl, .inr ⟨su.sqt h1, su.sqt h2, q2 _ _ (AftE.refl a1.sr) (zip_le (by rw [← r1.length]; exact z1)) _ ?_⟩⟩
            exact walkD_pair (walk_zipT' rfl) (by rw [r1.length, r2.length]) (fun H2 s2 => ⟨s2.sqt h1, s2.sqt h2⟩) (rps_at r1) (rps_at r2)
  · cases hz
end
end PL
namespace PL
open PySem PySem.Spec PyProof.Rows L2 RZ
open PySem.W (Frag)
/-! ### enumerate over a tuple -/
theorem meets_enum1 {v : Value} {o : Obj} {H : Heap → Prop} (B : Begins v o H) :
    Meets (Builtin.«enumerate.__new__» ⟨[.type "enumerate", v], []⟩) (fun _ R s => H s.heap ∧
      R (.ok (.ret (.ref (s.heap.push o).objs.size))) { s with heap := (s.heap.push o).push { cls := .type "enumerate", data := .fields #[.none, .bool false, .ref s.heap.objs.size, rawInt 0, .none, .none] } }) :=
  .of_wp fun prog w A R s h => by
    obtain ⟨hp, g, d, tk, os⟩ := s; obtain ⟨h1, h⟩ := h
    have hsub := sub_enumerate
    have q1 : ∀ {A' : Around} {E : Value → Shared → Prop} {Q : Value → Shared → Prop}, Q (.ref hp.objs.size) ⟨hp.push o, g, d, tk, os⟩ → wpAny (model prog w) A' (pyIter v) Q E ⟨hp, g, d, tk, os⟩ :=
      fun q => B.iter prog w _ _ ⟨hp, g, d, tk, os⟩ _ h1 q
    wp_walk using q1
    refine wpAny_stack_any fun st => wpAny_pure ?_
    split
    · rename_i c _ _ _ _ _
      cases (c == Value.type "enumerate")
      · wp_walk using q1
        exact ⟨_, rfl, h⟩
      · wp_walk using q1
        exact ⟨_, rfl, h⟩
    · wp_walk using q1
      exact ⟨_, rfl, h⟩
section
variable {prog : Program} {w : World} {A : Around} {E : Value → Shared → Prop} {s : Shared}
theorem enum_begins1 {v : Value} {o : Obj} {H : Heap → Prop} {Q : Value → Shared → Prop} (B : Begins v o H) (h1 : H s.heap)
    (h : ∀ h', IsEnum h' (s.heap.objs.size + 1) s.heap.objs.size 0 .none → h'.get? s.heap.objs.size = some o → h'.objs.size = s.heap.objs.size + 2 →
      (∀ b o, s.heap.get? b = some o → h'.get? b = some o) → Q (.ref (s.heap.objs.size + 1)) { s with heap := h' }) :
    wpAny (model prog w) A (call (.type "enumerate") [v]) Q E s := by
  refine callType_new F.called_enumerate (by decide) (F.typeCall_enumerate_1 _) (F.newCall_enumerate_1 _) (fun obj => F.args_object_init_2 obj _) F.entry_enumerate_new
    (meets_enum1 B) ⟨h1, ?_⟩
  have hz : (s.heap.push o).objs.size = s.heap.objs.size + 1 := Heap.size_push ..
  show _ ∧ _
  rw [hz]
  have he : IsEnum ((s.heap.push o).push { cls := .type "enumerate", data := .fields #[.none, .bool false, .ref s.heap.objs.size, rawInt 0, .none, .none] }) (s.heap.objs.size + 1) s.heap.objs.size 0 .none := by
    have := Heap.get?_push_size (s.heap.push o) (o := { cls := .type "enumerate", data := .fields #[.none, .bool false, .ref s.heap.objs.size, rawInt 0, .none, .none] }) rfl
    rw [hz] at this; exact this
  refine ⟨⟨_, he, rfl⟩, h _ he (Heap.get?_push_of_some _ (Heap.get?_push_size _ B.free)) (by rw [Heap.size_push, hz]) fun b o x => Heap.get?_push_of_some _ (Heap.get?_push_of_some _ x)⟩
end
/-- the tuple at a as it stands, each item in a new pair -/
def IteT (K : Frag) (a : Addr) : It :=
  ⟨fun i H => ∃ (xs : List V) (x : V), SqT K H a xs ∧ xs[i]? = some x, fun i H v H' => ∃ T x, v = .ref T ∧ H T = none ∧ H' = upd H T (.tup [.int (i : Nat), x]) ∧ ∀ xs, SqT K H a xs → xs[i]? = some x, fun i H => ∃ xs : List V, SqT K H a xs ∧ xs.length ≤ i⟩
theorem turn_enumT {P : Program} {w : World} {K : Frag} {elts : List Expr} {kk : Nat} {tpos : Pos} (a e it : Addr) :
    Turn P w K (.Tuple elts kk tpos) (IteT K a) [e, it] e (fun i h => (∃ old, IsEnum h e it ((i : Nat) : Int) old) ∧ h.IsTupleIter it a i ∧ e ≠ it ∧ a ≠ it ∧ a ≠ e) where
  mem := by simp
  obj := fun i h st b hb => by
    obtain ⟨⟨old, he⟩, ⟨o, ho, hc, hd⟩, _⟩ := st
    have e' : b = e ∨ b = it := by simpa using hb
    rcases e' with z | z
    · rw [z]; exact ⟨_, he, fun v q => nomatch q⟩
    · rw [z]; exact ⟨o, ho, fun v q => by rw [hd] at q; cases q⟩
  keep := fun i h h' st k => let ⟨⟨old, he⟩, hi, hne⟩ := st; ⟨⟨old, k e (by simp) _ he⟩, hi.at fun o q => k it (by simp) o q, hne⟩
  item := by
    intro X hP hw hK hc i pins s σ H E I hf st hg
    subst hP hw hK
    obtain ⟨⟨old, he⟩, hit, hne, ha1, ha2⟩ := st
    obtain ⟨xs, x, hq, hx⟩ := hg
    obtain ⟨its, rv, p, hz⟩ := I.tuple hq
    obtain ⟨u, hu, ru⟩ := rv.get hx
    have hel : e < s.heap.objs.size := Heap.lt_size he
    have hil : it < s.heap.objs.size := by obtain ⟨_, q, _⟩ := hit; exact Heap.lt_size q
    have hh : X.A.in1.handled = none := I.ok.hd hc
    have hlt : i < its.length := (List.getElem?_eq_some_iff.mp hu).1
    have st0 : (fun i (h : Heap) => h.IsTupleIter it a i ∧ h.IsTuple a its.toArray) i s.heap := ⟨hit, p⟩
    refine wpAny_pyNext_enum_itemC (c := ((i : Nat) : Int)) (Draws.tuple (A := X.A.in1) hh it a ha1 its.toArray) he st0 (by simpa using hlt) hne (by simp; exact ⟨hne, fun z => ha2 z.symm⟩) fun y h' tk hy ho hst' hT hsz hk => ?_
    have ey : y = u := by
      have hy : its.toArray[i]? = some y := hy
      simp only [List.getElem?_toArray] at hy
      rw [hu] at hy; exact (Option.some.inj hy).symm
    subst ey
    obtain ⟨hit', _⟩ := hst'
    refine ⟨_, rfl, wpAny_letOwnedTupleGo_enum (s := { s with heap := h', toks := tk + 1 }) ho fun h'' he' sb => ?_⟩
    have hT2 : h''.get? s.heap.objs.size = some { cls := .type "tuple", data := .seq #[.int i tk, y] } := (sb.2 _ (Nat.ne_of_gt hel)).trans hT
    have new : ObjOk X.prog X.w (upd H s.heap.objs.size (.tup [.int (i : Nat), x])) h'' s.heap.objs.size (.tup [.int (i : Nat), x]) :=
      ⟨by show 2 ≤ sizeLine; decide, [.int i tk, y], .cons ⟨_, rfl⟩ (.cons ru .nil), ⟨_, hT2, rfl, _, rfl⟩⟩
    have I1 : Inv X pins σ (upd H s.heap.objs.size (.tup [.int (i : Nat), x])) { s with heap := h'', toks := tk + 1 } :=
      I.turnedNew (ch := [e, it]) (fun b ob hb q => (sb.2 b (fun z => hb (by simp [z]))).trans (hk b ob (fun z => hb (by simp [z])) (fun z => hb (by simp [z])) q)) hf (Nat.le_refl _) new
    refine ⟨.ref s.heap.objs.size, _, I1, rfl, ⟨_, x, rfl, I.hok.fresh (Nat.le_refl _), rfl, fun ys hy => by rw [I.tuple_inj hy hq]; exact hx⟩, ⟨⟨y, ?_⟩, hit'.at fun o q => (sb.2 it (Ne.symm hne)).trans q, hne, ha1, ha2⟩, fun b hb => ?_⟩
    · have e1 : ((i + 1 : Nat) : Int) = (i : Int) + 1 := by omega
      rw [e1]; exact he'
    · have hb' : b < s.heap.objs.size := by
        have e' : b = e ∨ b = it := by simpa using hb
        rcases e' with z | z
        · rw [z]; exact hel
        · rw [z]; exact hil
      rw [upd_ne (Nat.ne_of_lt hb')]
      exact (hf b hb).1
  done := by
    intro X hP hw hK hc i pins s σ H E I hf st hg
    subst hP hw hK
    obtain ⟨⟨old, he⟩, hit, hne, ha1, ha2⟩ := st
    obtain ⟨xs, hq, hx⟩ := hg
    obtain ⟨its, rv, p, hz⟩ := I.tuple hq
    obtain ⟨f0, f1, f2, f3, f4, f5⟩ := hf it (by simp)
    have hl := rv.length
    have hh : X.A.in1.handled = none := I.ok.hd hc
    have hT : s.TypeIs (.ref e) "enumerate" := ⟨_, he, rfl⟩
    unfold pyNext
    refine wpAny_bind (wpAny_attempt (wpAny_callSpecial?_slot (name := Str.ofString "__next__") hT F.slot_enumerate_next
      (wpAny_call_entry F.slot_enumerate_next hT F.entry_enumerate_next ?_ (F.args_enumerate_next_1 _))))
    show wpAny _ _ (field (.ref e) 2 >>= _) _ _ _
    refine wpAny_bind (wpAny_field he rfl (x := .ref it) rfl ?_)
    refine wpAny_bind (RZ.nextOf_tuple_end (A := X.A.in1) hh hit p (by simp; omega) fun h' x he' hx' => ?_)
    obtain ⟨o, ho, hc⟩ := hx'
    refine wpAny_bind (wpAny_isInstance (T := "StopIteration") (b := true) ⟨o, ho, hc⟩ isSubtype_stop ?_)
    exact wpAny_pure ⟨rfl, I.turned (t' := s.toks) (fun b o hb q => he' b o hb q) f0 f1 f3 f4 f5⟩
  self := fun A i s Q E st h => let ⟨⟨_, he⟩, _⟩ := st; wpAny_pyIter_enum he h
def iEnumT (K : Frag) (ta : TA) : TI := fun σ H R => ta σ H fun vs H1 => ∃ a xs, vs = [.ref a] ∧ SqT K H1 a xs ∧ R (IteT K a) H1
theorem pi_enumT {X : Cx} {e : Expr} {ta : TA} {p pos tpos : Pos} {elts : List Expr} {kk : Nat} (hg : Gl X "enumerate") (hm : X.mg "enumerate" = none) (ha : PA X [e] ta) (hs : starEach [e] X.env = [(false, eval e X.env)] := by rfl) :
    PI X (.Tuple elts kk tpos) (.Call (.Name "enumerate" p) [e] [] pos) (iEnumT X.K ta) := by
  refine ⟨fun pins s σ H R I h => ?_⟩
  refine Call_ (ld_blt I hg hm boot_enumerate (PyProof.Rows.callWith_type1 (thn (ha.run pos pins s σ H _ I h) fun us s1 ⟨vs, H1, I1, r1, q1⟩ => ?_) hs rfl))
  obtain ⟨a, xs, ex, hq, q⟩ := q1
  subst ex
  cases r1 with
  | cons r rr =>
    cases rr
    cases r
    obtain ⟨its, rv, p', hz⟩ := I1.tuple hq
    have hal : a < s1.heap.objs.size := by obtain ⟨o, ho, _⟩ := id p'; exact Heap.lt_size ho
    refine enum_begins1 (begins_tuple a its.toArray) p' fun h' he hit hsz hk => wpAny_pyIter_enum he ?_
    have I2 : Inv X pins σ H1 { s1 with heap := h' } := I1.kept (t' := s1.toks) hk
    refine ⟨s1.heap.objs.size + 1, [s1.heap.objs.size + 1, s1.heap.objs.size], _, _, H1, rfl, I2, turn_enumT a (s1.heap.objs.size + 1) s1.heap.objs.size, ⟨⟨.none, he⟩, ⟨_, hit, rfl, rfl⟩, Nat.succ_ne_self _, Nat.ne_of_lt hal, Nat.ne_of_lt (Nat.lt_succ_of_lt hal)⟩, fun b hb => ?_, q⟩
    have e' : b = s1.heap.objs.size + 1 ∨ b = s1.heap.objs.size := by simpa using hb
    have hle : s1.heap.objs.size ≤ b := by
      rcases e' with z | z
      · rw [z]; exact Nat.le_add_right _ _
      · rw [z]; exact Nat.le_refl _
    exact I1.fpOk hle (I1.hok.fresh hle)
theorem walk_enumT {K : Frag} {a : Addr} {xs : List V} : Walk (IteT K a) xs.length (fun H => SqT K H a xs) (YPair (fun i => some (.int (i : Nat))) (fun i => xs[i]?)) := by
  refine ⟨fun i _ hi q => ⟨xs, xs[i], q, by simp [hi]⟩, fun _ q => ⟨xs, q, Nat.le_refl _⟩, fun i H v H' _ q y => ?_⟩
  obtain ⟨T, x, h1, h2, h3, h4⟩ := y
  exact ⟨T, .int (i : Nat), x, h1, h2, h3, rfl, h4 xs q⟩
/-! ### enumerate, by data -/
def enumD (ds : List D) : List D := zipD (rangeD 0 ds.length) ds
def enum1 : List D → Option (List D)
  | [.list ds] => some (enumD ds)
  | [.tuple ds] => some (enumD ds)
  | _ => none
section
variable {X : Cx} {T : Tb} {W : WX}
theorem rangeD_get {lo : Int} {n i : Nat} {d : D} (h : (rangeD lo n)[i]? = some d) : i < n ∧ d = .int (lo + (i : Int)) := by
  unfold rangeD at h
  rw [List.getElem?_map] at h
  obtain ⟨k, hk, rfl⟩ := Option.map_eq_some_iff.mp h
  obtain ⟨h1, h2⟩ := List.getElem?_eq_some_iff.mp hk
  rw [List.getElem_range] at h2
  subst h2
  exact ⟨by simpa using h1, rfl⟩
theorem enum_fst {K : Frag} {G : Hp} {n : Nat} : ∀ (i : Nat) (a : D) (v : V), (rangeD 0 n)[i]? = some a → (fun (i : Nat) => some (V.int (i : Nat))) i = some v → Rp K G v a := fun i a v h1 h2 => by
  obtain ⟨_, rfl⟩ := rangeD_get h1
  cases h2
  rw [Int.zero_add]
  exact .int _
theorem enum_le {ds : List D} (h : ds.length ≤ sizeLine) : (enumD ds).length ≤ sizeLine := by
  unfold enumD zipD; rw [List.length_zipWith, rangeD_length]; omega
theorem pdi_enum {elts : List Expr} {kk : Nat} {tpos : Pos} {e : Expr} {p pos : Pos} {ms : M (List D)} (hg : Gl X "enumerate") (hm : X.mg "enumerate" = none) (ha : PAs X T W [e] ms) (hs : starEach [e] X.env = [(false, eval e X.env)] := by rfl) :
    PDI X T W (.Tuple elts kk tpos) (.Call (.Name "enumerate" p) [e] [] pos) (mrange enum1 ms) := by
  obtain ⟨t, et, qt⟩ := ha
  refine ⟨_, piU_ok X _ _, fun G H σ ρ R s q => ?_⟩
  unfold mrange at q
  have qb := q.bind
  unfold mbind at q
  cases hms : ms ρ with
  | bad => rw [hms] at q; exact q.elim
  | err c ρ' =>
    rw [hms] at q
    exact ⟨_, pi_enum hg hm et hs, qt G H σ ρ _ s (by rw [hms]; exact q)⟩
  | ok ds ρ' =>
    rw [hms] at q
    cases hz : enum1 ds with
    | none => simp only [hz] at q; exact q.elim
    | some zs =>
      simp only [hz, mlift] at q
      unfold enum1 at hz
      split at hz
      · rename_i xs
        cases hz
        refine ⟨_, pi_enum hg hm et hs, qt G H σ ρ _ s ?_⟩
        rw [hms]
        intro G1 H1 a1 vs rv
        cases rv with
        | cons r1 rn =>
          cases rn
          cases r1 with
          | lst h1 z1 r1 =>
            rename_i a us
            refine ⟨a, us, rfl, (a1.sr.sub.lql h1).sq, q G1 H1 a1 (enum_le (by rw [← r1.length]; exact z1)) _ ?_⟩
            exact walkD_pair (walk_enum (xs := us)) (by rw [rangeD_length, r1.length]; omega) (fun H2 s2 => (s2.lql h1).sq) enum_fst (rps_at r1)
      · rename_i xs
        cases hz
        refine ⟨_, pi_enumT hg hm et hs, qt G H σ ρ _ s ?_⟩
        rw [hms]
        intro G1 H1 a1 vs rv
        cases rv with
        | cons r1 rn =>
          cases rn
          cases r1 with
          | tup h1 z1 r1 =>
            rename_i a us
            refine ⟨a, us, rfl, a1.sr.sub.sqt h1, q G1 H1 a1 (enum_le (by rw [← r1.length]; exact z1)) _ ?_⟩
            exact walkD_pair (walk_enumT (xs := us)) (by rw [rangeD_length, r1.length]; omega) (fun H2 s2 => s2.sqt h1) enum_fst (rps_at r1)
      · cases hz
end
end PL
namespace PL
open PySem PySem.Spec PyProof.Rows L2 RZ
open PySem.W (Frag)
/-! ### for -/
def sloop (f : TgF) (b : MS) : List D → MS
  | [], ρ => .next ρ
  | d :: r, ρ => match f d ρ with
    | none => .bad
    | some ρ1 => match b ρ1 with
      | .next ρ2 => sloop f b r ρ2
      | .cont ρ2 => sloop f b r ρ2
      | .brk ρ2 => .next ρ2
      | .ret d ρ2 => .ret d ρ2
      | .err c ρ2 => .err c ρ2
      | .bad => .bad
def sfor (m : M (List D)) (f : TgF) (b : MS) : MS := sbind m fun ds => sloop f b ds
section
variable {X : Cx} {T : Tb} {W : WX}
theorem drop_cons {α : Type} {l : List α} {i : Nat} (h : i < l.length) : ∃ x, l[i]? = some x ∧ l.drop i = x :: l.drop (i + 1) :=
  ⟨l[i], by simp [h], List.drop_eq_getElem_cons h⟩
theorem pds_for {tg iter : Expr} {body : List Stmt} {pos : Pos} {m : M (List D)} {f : TgF} {ws : List Nat} {b : MS} (hp : PassesOwn (model X.prog X.w) X.A X.env X.xe) (hc : X.calm = true) (hi : PDI X T W tg iter m) (ht : PTg X T tg f ws) (hb : PDss X T W body b)
    (hs : ∀ x, foldedSetIterable iter X.env x = pure x := by intro _; rfl) : PDs X T W (.For tg iter body [] pos) (sfor m f b) := by
  obtain ⟨wi, ei, qi⟩ := hi
  obtain ⟨_, g, eg, qg⟩ := ht
  obtain ⟨tb, eb, qb⟩ := hb
  refine ⟨_, ps_for hp hc ei eg eb hs, fun G H σ ρ E s q => qi G H σ ρ _ s (q.bind.mono fun ds ρ1 G1 H1 a1 q1 hl J wd => ?_)⟩
  obtain ⟨n, Gd, Y, wk, hn, hG, hY⟩ := wd
  subst hn
  refine for_it wk (fun i σ' H' => ∃ G' ρ', (kx X T).Aft G1 H1 σ ρ1 G' H' σ' ρ' ∧ RS (kx X T) W G' H' σ' ρ' (sloop f b (ds.drop i) ρ') E) ⟨G1, ρ1, After.refl a1.sr, q1⟩ (fun i σ' H' _ ⟨G', ρ', a, _⟩ => hG H' (a.gs.trans a.sr.sub)) ?_ ?_
  · rintro i x σ' H' H'' hi ⟨G', ρ', a, r⟩ y
    obtain ⟨d, hd, hdr⟩ := drop_cons hi
    obtain ⟨G2, gr, rx⟩ := hY i d H' x H'' G' hd a.gs a.sr.sub y
    have a2 := a.sr.after gr
    rw [hdr] at r
    have r : RS (kx X T) W G' H' σ' ρ' (match f d ρ' with | none => .bad | some ρ1 => match b ρ1 with | .next ρ2 => sloop f b (ds.drop (i + 1)) ρ2 | .cont ρ2 => sloop f b (ds.drop (i + 1)) ρ2 | .brk ρ2 => .next ρ2 | .ret d ρ2 => .ret d ρ2 | .err c ρ2 => .err c ρ2 | .bad => .bad) E := r
    cases hf : f d ρ' with
    | none => rw [hf] at r; exact r.elim
    | some ρ3 =>
      rw [hf] at r
      refine qg G2 H'' σ' ρ' d x ρ3 _ a2.sr rx hf fun σ3 a3 _ => ?_
      refine qb G2 H'' σ3 ρ3 _ a3.sr ?_
      have a4 := a2.trans a3
      have r : RS (kx X T) W G' H' σ' ρ' (match b ρ3 with | .next ρ2 => sloop f b (ds.drop (i + 1)) ρ2 | .cont ρ2 => sloop f b (ds.drop (i + 1)) ρ2 | .brk ρ2 => .next ρ2 | .ret d ρ2 => .ret d ρ2 | .err c ρ2 => .err c ρ2 | .bad => .bad) E := r
      cases hb3 : b ρ3 with
      | next ρ4 => rw [hb3] at r; exact fun G5 H5 σ5 a5 => ⟨G5, ρ4, a.trans (a4.trans a5), RS.trans (a4.trans a5) r⟩
      | cont ρ4 => rw [hb3] at r; exact fun G5 H5 σ5 a5 => ⟨G5, ρ4, a.trans (a4.trans a5), RS.trans (a4.trans a5) r⟩
      | brk ρ4 => rw [hb3] at r; exact fun G5 H5 σ5 a5 => r G5 H5 σ5 (a4.trans a5)
      | ret z ρ4 => rw [hb3] at r; exact fun G5 H5 σ5 v a5 rv => r G5 H5 σ5 v (a4.trans a5) rv
      | err c ρ4 => rw [hb3] at r; exact fun G5 H5 σ5 C a5 e => r G5 H5 σ5 C (a4.trans a5) e
      | bad => rw [hb3] at r; exact r.elim
  · rintro σ' H' ⟨G', ρ', a, r⟩
    rw [List.drop_length] at r
    exact r G' H' σ' (After.refl a.sr)
/-! ### while -/
def swhile (c : M Bool) (b : MS) : Nat → MS
  | 0 => fun _ => .bad
  | n + 1 => fun ρ => match c ρ with
    | .ok true ρ1 => (match b ρ1 with
      | .next ρ2 => swhile c b n ρ2
      | .cont ρ2 => swhile c b n ρ2
      | .brk ρ2 => .next ρ2
      | .ret d ρ2 => .ret d ρ2
      | .err c ρ2 => .err c ρ2
      | .bad => .bad)
    | .ok false ρ1 => .next ρ1
    | .err e ρ1 => .err e ρ1
    | .bad => .bad
theorem pds_while (n : Nat) {c : Expr} {body : List Stmt} {pos : Pos} {mc : M Bool} {b : MS} (hp : PassesOwn (model X.prog X.w) X.A X.env X.xe) (hc : PB X T W c mc) (hb : PDss X T W body b) : PDs X T W (.While c body [] pos) (swhile mc b n) := by
  obtain ⟨tc, ec, qc⟩ := hc
  obtain ⟨tb, eb, qb⟩ := hb
  refine ⟨_, ps_while hp ec eb, fun G H σ ρ E s q => ?_⟩
  refine ⟨fun m σ' H' => ∃ G' ρ', (kx X T).Aft G H σ ρ G' H' σ' ρ' ∧ RS (kx X T) W G' H' σ' ρ' (swhile mc b m ρ') E, ⟨n, G, ρ, After.refl s, q⟩, ?_⟩
  rintro m σ' H' ⟨G', ρ', a, r⟩
  cases m with
  | zero => exact r.elim
  | succ m =>
    refine qc G' H' σ' ρ' _ a.sr ?_
    have r : RS (kx X T) W G' H' σ' ρ' (match mc ρ' with
      | .ok true ρ1 => (match b ρ1 with
        | .next ρ2 => swhile mc b m ρ2
        | .cont ρ2 => swhile mc b m ρ2
        | .brk ρ2 => .next ρ2
        | .ret d ρ2 => .ret d ρ2
        | .err c ρ2 => .err c ρ2
        | .bad => .bad)
      | .ok false ρ1 => .next ρ1
      | .err e ρ1 => .err e ρ1
      | .bad => .bad) E := r
    cases hm : mc ρ' with
    | bad => rw [hm] at r; exact r.elim
    | err e ρ1 => rw [hm] at r; exact fun G2 H2 C a2 e' => r G2 H2 σ' C a2.a e'
    | ok k ρ1 =>
      rw [hm] at r
      intro G2 H2 a2
      cases k with
      | false => exact r G2 H2 σ' a2.a
      | true =>
        refine ⟨fun σ5 H5 => ∃ G5 ρ5, (kx X T).Aft G H σ ρ G5 H5 σ5 ρ5 ∧ RS (kx X T) W G5 H5 σ5 ρ5 (swhile mc b m ρ5) E, fun σ5 H5 h => ⟨m, Nat.lt_succ_self m, h⟩, ?_⟩
        refine qb G2 H2 σ' ρ1 _ a2.sr ?_
        have r : RS (kx X T) W G' H' σ' ρ' (match b ρ1 with
          | .next ρ2 => swhile mc b m ρ2
          | .cont ρ2 => swhile mc b m ρ2
          | .brk ρ2 => .next ρ2
          | .ret d ρ2 => .ret d ρ2
          | .err c ρ2 => .err c ρ2
          | .bad => .bad) E := r
        cases hb3 : b ρ1 with
        | next ρ4 => rw [hb3] at r; exact fun G5 H5 σ5 a5 => ⟨G5, ρ4, a.trans (a2.a.trans a5), RS.trans (a2.a.trans a5) r⟩
        | cont ρ4 => rw [hb3] at r; exact fun G5 H5 σ5 a5 => ⟨G5, ρ4, a.trans (a2.a.trans a5), RS.trans (a2.a.trans a5) r⟩
        | brk ρ4 => rw [hb3] at r; exact fun G5 H5 σ5 a5 => r G5 H5 σ5 (a2.a.trans a5)
        | ret z ρ4 => rw [hb3] at r; exact fun G5 H5 σ5 v a5 rv => r G5 H5 σ5 v (a2.a.trans a5) rv
        | err c ρ4 => rw [hb3] at r; exact fun G5 H5 σ5 C a5 e => r G5 H5 σ5 C (a2.a.trans a5) e
        | bad => rw [hb3] at r; exact r.elim
end
end PL
namespace PL
open PySem PySem.Spec PyProof.Rows L2 RZ
open PySem.W (Frag)
/-! ### slots forgotten and given back -/
def wipeD (ρ : DEnv) : List Nat → DEnv
  | [] => ρ
  | v :: vs => (wipeD ρ vs).set v .un
def restD (ρ0 ρ : DEnv) : List Nat → DEnv
  | [] => ρ
  | v :: vs => (restD ρ0 ρ vs).set v ((ρ0[v]?).getD .un)
theorem set_get {α : Type} (l : List α) (i j : Nat) (x : α) : (l.set i x)[j]? = if i = j then (l[j]?).map (fun _ => x) else l[j]? := by
  by_cases e : i = j
  · subst e
    rw [if_pos rfl]
    by_cases h : i < l.length
    · rw [List.getElem?_set_self h, List.getElem?_eq_getElem h]; rfl
    · have z1 : (l.set i x)[i]? = none := List.getElem?_eq_none (by rw [List.length_set]; omega)
      have z2 : l[i]? = none := List.getElem?_eq_none (by omega)
      rw [z1, z2]; rfl
  · rw [if_neg e, List.getElem?_set_ne e]
theorem wipeD_length (ρ : DEnv) : ∀ vs, (wipeD ρ vs).length = ρ.length
  | [] => rfl
  | v :: vs => by unfold wipeD; rw [List.length_set, wipeD_length ρ vs]
theorem wipeD_get (ρ : DEnv) (j : Nat) : ∀ vs : List Nat, (wipeD ρ vs)[j]? = if j ∈ vs then (ρ[j]?).map (fun _ => Slot.un) else ρ[j]?
  | [] => by simp [wipeD]
  | v :: vs => by
    unfold wipeD
    rw [set_get, wipeD_get ρ j vs]
    by_cases e : v = j
    · subst e
      rw [if_pos rfl]
      by_cases hv : v ∈ vs <;> simp [hv, Option.map_map, Function.comp_def]
    · rw [if_neg e]
      have : (j ∈ v :: vs) ↔ j ∈ vs := by simp [Ne.symm e]
      simp only [this]
theorem wipe_get (σ : L2.St) (j : Nat) : ∀ vs : List Nat, (wipe σ vs)[j]? = if j ∈ vs then (σ[j]?).map (fun _ => none) else σ[j]?
  | [] => by simp [wipe]
  | v :: vs => by
    unfold wipe
    rw [set_get, wipe_get σ j vs]
    by_cases e : v = j
    · subst e
      rw [if_pos rfl]
      by_cases hv : v ∈ vs <;> simp [hv, Option.map_map, Function.comp_def]
    · rw [if_neg e]
      have : (j ∈ v :: vs) ↔ j ∈ vs := by simp [Ne.symm e]
      simp only [this]
theorem restD_length (ρ0 ρ : DEnv) : ∀ vs, (restD ρ0 ρ vs).length = ρ.length
  | [] => rfl
  | v :: vs => by unfold restD; rw [List.length_set, restD_length ρ0 ρ vs]
theorem restD_get (ρ0 ρ : DEnv) (j : Nat) : ∀ vs : List Nat, (restD ρ0 ρ vs)[j]? = if j ∈ vs then (ρ[j]?).map (fun _ => (ρ0[j]?).getD .un) else ρ[j]?
  | [] => by simp [restD]
  | v :: vs => by
    unfold restD
    rw [set_get, restD_get ρ0 ρ j vs]
    by_cases e : v = j
    · subst e
      rw [if_pos rfl]
      by_cases hv : v ∈ vs <;> simp [hv, Option.map_map, Function.comp_def]
    · rw [if_neg e]
      have : (j ∈ v :: vs) ↔ j ∈ vs := by simp [Ne.symm e]
      simp only [this]
theorem wipe_eq {σ1 σ2 : L2.St} {vs : List Nat} (h : Only vs σ1 σ2) : wipe σ2 vs = wipe σ1 vs := by
  apply List.ext_getElem?
  intro j
  rw [wipe_get, wipe_get]
  by_cases e : j ∈ vs
  · rw [if_pos e, if_pos e]
    by_cases hl : j < σ1.length
    · rw [List.getElem?_eq_getElem hl, List.getElem?_eq_getElem (show j < σ2.length by rw [h.1]; exact hl)]; rfl
    · have z1 : σ1[j]? = none := List.getElem?_eq_none (Nat.le_of_not_lt hl)
      have z2 : σ2[j]? = none := List.getElem?_eq_none (by rw [h.1]; exact Nat.le_of_not_lt hl)
      rw [z1, z2]
  · rw [if_neg e, if_neg e, h.2 j e]
theorem wipe_wipe (σ : L2.St) (vs : List Nat) : wipe (wipe σ vs) vs = wipe σ vs := by
  apply List.ext_getElem?
  intro j
  rw [wipe_get, wipe_get]
  by_cases e : j ∈ vs
  · simp [e, Option.map_map, Function.comp_def]
  · simp [e]
/-- the slots at vs hold nothing that is ours -/
def calmAt (ρ : DEnv) (vs : List Nat) : Bool := vs.all fun v => match ρ[v]? with
  | some .un => true
  | some (.val _) => true
  | _ => false
theorem calmAt_mine {ρ : DEnv} {vs : List Nat} (h : calmAt ρ vs = true) {j : Nat} (hj : j ∈ vs) {s : Slot} {d : D} (e : ρ[j]? = some s) (m : s.mine = some d) : False := by
  unfold calmAt at h
  have q := List.all_eq_true.mp h j hj
  rw [e] at q
  cases s with
  | un => cases m
  | val _ => cases m
  | own _ => cases q
  | io _ => cases q
/-- none of vs is taken -/
def Blank (ρ : DEnv) (vs : List Nat) : Prop := ∀ j ∈ vs, ∀ s, ρ[j]? = some s → s = .un
theorem blank_wipe (ρ : DEnv) (vs : List Nat) : Blank (wipeD ρ vs) vs := fun j hj s e => by
  rw [wipeD_get, if_pos hj] at e
  obtain ⟨_, _, e⟩ := Option.map_eq_some_iff.mp e
  exact e.symm
section
variable {K : Frag} {T : Tb} {G H G' H' : Hp} {σ σ' : L2.St} {ρ ρ' : DEnv} {vs : List Nat}
theorem SR.wiped (s : SR K T G H σ ρ) (vs : List Nat) : SR K T G H (wipe σ vs) (wipeD ρ vs) := by
  have og : ∀ {j : Nat} {t : Slot}, (wipeD ρ vs)[j]? = some t → t = .un ∨ (j ∉ vs ∧ ρ[j]? = some t) := fun {j t} h => by
    rw [wipeD_get] at h
    by_cases e : j ∈ vs
    · rw [if_pos e] at h
      obtain ⟨_, _, e⟩ := Option.map_eq_some_iff.mp h
      exact .inl e.symm
    · rw [if_neg e] at h
      exact .inr ⟨e, h⟩
  refine ⟨s.sub, by rw [wipe_length, wipeD_length]; exact s.len, fun i t h => ?_, fun i j t u d e a h1 h2 m1 m2 e1 e2 => ?_, s.tab⟩
  · rcases og h with rfl | ⟨ne, h⟩
    · trivial
    · rw [wipe_get, if_neg ne]; exact s.sl i t h
  · rcases og h1 with rfl | ⟨n1, h1⟩
    · cases m1
    · rcases og h2 with rfl | ⟨n2, h2⟩
      · cases m2
      · rw [wipe_get, if_neg n1] at e1
        rw [wipe_get, if_neg n2] at e2
        exact s.ne i j t u d e a h1 h2 m1 m2 e1 e2
theorem own_wiped {a : Addr} (h : OwnAt (wipe σ vs) (wipeD ρ vs) a) : OwnAt σ ρ a := by
  obtain ⟨i, t, d, hi, m, e⟩ := h
  rw [wipeD_get] at hi
  by_cases ei : i ∈ vs
  · rw [if_pos ei] at hi
    obtain ⟨_, _, z⟩ := Option.map_eq_some_iff.mp hi
    subst z; cases m
  · rw [if_neg ei] at hi
    rw [wipe_get, if_neg ei] at e
    exact ⟨i, t, d, hi, m, e⟩
theorem own_wipe (c : calmAt ρ vs = true) {a : Addr} (h : OwnAt σ ρ a) : OwnAt (wipe σ vs) (wipeD ρ vs) a := by
  obtain ⟨i, t, d, hi, m, e⟩ := h
  have ni : i ∉ vs := fun z => calmAt_mine c z hi m
  exact ⟨i, t, d, by rw [wipeD_get, if_neg ni]; exact hi, m, by rw [wipe_get, if_neg ni]; exact e⟩
/-- a turn's own names are forgotten again -/
theorem After.rewipe {σw : L2.St} (A : After K T G H σw ρ G' H' σ' ρ') (hw : wipe σ' vs = σw) (bl : Blank ρ vs) : After K T G H σw ρ G' H' σw (wipeD ρ' vs) := by
  subst hw
  refine ⟨A.gs, A.sr.wiped vs, fun b o h nt no => ?_, A.gn, fun i d h => ?_, A.tr⟩
  · obtain ⟨h1, n1⟩ := A.fr b o h nt no
    exact ⟨h1, fun z => n1 (own_wiped z)⟩
  · have ni : i ∉ vs := fun z => by cases bl i z _ h
    obtain ⟨_, d', h'⟩ := A.io i d h
    exact ⟨rfl, d', by rw [wipeD_get, if_neg ni]; exact h'⟩
theorem Le.rewipe {ρ1 : DEnv} (h : Le ρ ρ1) (vs : List Nat) : Le ρ (wipeD ρ1 vs) := fun i t d hi m => by
  rw [wipeD_get] at hi
  by_cases ei : i ∈ vs
  · rw [if_pos ei] at hi
    obtain ⟨_, _, z⟩ := Option.map_eq_some_iff.mp hi
    subst z; cases m
  · rw [if_neg ei] at hi
    exact h i t d hi m
/-- behind the loop: the slots as they were ahead -/
theorem After.unwipe (s : SR K T G H σ ρ) (c : calmAt ρ vs = true) (A : After K T G H (wipe σ vs) (wipeD ρ vs) G' H' (wipe σ vs) ρ') (le : Le (wipeD ρ vs) ρ') : AftE K T G H σ ρ G' H' (restD ρ ρ' vs) := by
  have len : ρ'.length = ρ.length := by rw [← A.sr.len, wipe_length]; exact s.len
  have og : ∀ {j : Nat} {t : Slot}, (restD ρ ρ' vs)[j]? = some t → (j ∈ vs ∧ ρ[j]? = some t) ∨ (j ∉ vs ∧ ρ'[j]? = some t) := fun {j t} h => by
    rw [restD_get] at h
    by_cases e : j ∈ vs
    · rw [if_pos e] at h
      obtain ⟨x, hx, z⟩ := Option.map_eq_some_iff.mp h
      have hj : j < ρ.length := by rw [← len]; exact (List.getElem?_eq_some_iff.mp hx).1
      rw [List.getElem?_eq_getElem hj] at z
      exact .inl ⟨e, by rw [List.getElem?_eq_getElem hj]; exact congrArg some z⟩
    · rw [if_neg e] at h
      exact .inr ⟨e, h⟩
  have lm : ∀ {j : Nat} {t : Slot} {d : D}, (restD ρ ρ' vs)[j]? = some t → t.mine = some d → j ∉ vs ∧ ρ'[j]? = some t := fun {j t d} h m => by
    rcases og h with ⟨e, h⟩ | h
    · exact (calmAt_mine c e h m).elim
    · exact h
  have ow : ∀ {a : Addr}, OwnAt σ (restD ρ ρ' vs) a → OwnAt (wipe σ vs) ρ' a := fun {a} ⟨i, t, d, hi, m, e⟩ => by
    obtain ⟨ni, h⟩ := lm hi m
    exact ⟨i, t, d, h, m, by rw [wipe_get, if_neg ni]; exact e⟩
  refine ⟨⟨A.gs, ⟨A.sr.sub, by rw [restD_length, len]; exact s.len, fun i t h => ?_, fun i j t u d e a h1 h2 m1 m2 e1 e2 => ?_, A.sr.tab⟩, fun b o h nt no => ?_, fun b o h nt g no => A.gn b o h nt g fun z => no (own_wiped z), fun i d h => ?_, A.tr⟩, fun i t d hi m => ?_⟩
  · rcases og h with ⟨e, h⟩ | ⟨e, h⟩
    · have q := s.sl i t h
      cases t with
      | un => trivial
      | val d => obtain ⟨v, e1, r⟩ := q; exact ⟨v, e1, r.mono A.gs⟩
      | own d => exact (calmAt_mine c e h rfl).elim
      | io d => exact (calmAt_mine c e h rfl).elim
    · have q := A.sr.sl i t h
      rw [wipe_get, if_neg e] at q; exact q
  · obtain ⟨n1, h1⟩ := lm h1 m1
    obtain ⟨n2, h2⟩ := lm h2 m2
    exact A.sr.ne i j t u d e a h1 h2 m1 m2 (by rw [wipe_get, if_neg n1]; exact e1) (by rw [wipe_get, if_neg n2]; exact e2)
  · obtain ⟨h1, n1⟩ := A.fr b o h nt fun z => no (own_wiped z)
    exact ⟨h1, fun z => n1 (ow z)⟩
  · have ni : i ∉ vs := fun z => calmAt_mine c z h rfl
    obtain ⟨_, d', h'⟩ := A.io i d (by rw [wipeD_get, if_neg ni]; exact h)
    exact ⟨rfl, d', by rw [restD_get, if_neg ni]; exact h'⟩
  · obtain ⟨ni, h⟩ := lm hi m
    obtain ⟨u, e, h1, m1⟩ := le i t d h m
    rw [wipeD_get, if_neg ni] at h1
    exact ⟨u, e, h1, m1⟩
/-- a list that is no slot's and untold is turned -/
theorem After.poke {a : Addr} {xs ys : List V} (A : After K T G H σ ρ G' H' σ' ρ') (f : Fre H a) (h : H' a = some (.lst xs)) (g : G' a = none) (no : ¬ OwnAt σ' ρ' a) : After K T G H σ ρ G' (upd H' a (.lst ys)) σ' ρ' := by
  have nb : ∀ b o, G' b = some o → b ≠ a := fun b o e z => by rw [z, g] at e; cases e
  refine ⟨A.gs, ⟨fun b o e => by rw [upd_ne (nb b o e)]; exact A.sr.sub b o e, A.sr.len, fun i t hi => ?_, A.sr.ne, ?_⟩, fun b o hb nt n => ?_, A.gn, A.io, fun b o hb n => ?_⟩
  · have q := A.sr.sl i t hi
    cases t with
    | un => trivial
    | val d => exact q
    | own d =>
      obtain ⟨b, u, e, h1, h2, r⟩ := q
      have ne : b ≠ a := fun z => no ⟨i, _, d, hi, rfl, by rw [← z]; exact e⟩
      exact ⟨b, u, e, by rw [upd_ne ne]; exact h1, h2, r⟩
    | io d =>
      obtain ⟨b, u, e, h1, h2, r⟩ := q
      have ne : b ≠ a := fun z => no ⟨i, _, d, hi, rfl, by rw [← z]; exact e⟩
      exact ⟨b, u, e, by rw [upd_ne ne]; exact h1, h2, r⟩
  · refine ⟨?_, A.sr.tab.2⟩
    intro p hp
    obtain ⟨ps, h3, h4, h5⟩ := A.sr.tab.1 p hp
    have n1 : p.1 ≠ a := fun z => by rw [z, h] at h3; cases h3
    refine ⟨ps, by rw [upd_ne n1]; exact h3, h4, fun pos cv hc => ?_⟩
    obtain ⟨c, e1, h6⟩ := h5 pos cv hc
    have n2 : c ≠ a := fun z => by rw [z, h] at h6; cases h6
    exact ⟨c, e1, by rw [upd_ne n2]; exact h6⟩
  · obtain ⟨h1, n1⟩ := A.fr b o hb nt n
    have ne : b ≠ a := fun z => by
      rw [z] at hb
      obtain ⟨ps, e⟩ := f o hb
      exact nt ps e
    exact ⟨by rw [upd_ne ne]; exact h1, n1⟩
  · obtain ⟨o', h1, n1⟩ := A.tr b o hb n
    by_cases ne : b = a
    · subst ne; exact ⟨.lst ys, upd_same, fun ps z => by cases z⟩
    · exact ⟨o', by rw [upd_ne ne]; exact h1, n1⟩
end
/-! ### [e for tg in iter if c] -/
def cloop (vs : List Nat) (f : TgF) (c : M Bool) (e : M D) : List D → List D → M (List D)
  | [], acc => fun ρ => .ok acc ρ
  | d :: r, acc => fun ρ => match f d ρ with
    | none => .bad
    | some ρ1 => match c ρ1 with
      | .ok true ρ2 => (match e ρ2 with
        | .ok y ρ3 => cloop vs f c e r (acc ++ [y]) (wipeD ρ3 vs)
        | _ => .bad)
      | .ok false ρ2 => cloop vs f c e r acc (wipeD ρ2 vs)
      | _ => .bad
def mcomp2 (vs : List Nat) (f : TgF) (c : M Bool) (e : M D) (ds : List D) : M D := fun ρ => if calmAt ρ vs = true then (match cloop vs f c e ds [] (wipeD ρ vs) with
  | .ok acc ρ' => .ok (.list acc) (restD ρ ρ' vs)
  | _ => .bad) else .bad
def mcomp (mi : M (List D)) (vs : List Nat) (f : TgF) (c : M Bool) (e : M D) : M D := mbind mi (mcomp2 vs f c e)
/-- the blocks of a comprehension -/
structure BkI where
  s : Shared
  H : Hp
  C : Addr
  cl : List (Str × Addr)
  fp : List Addr
abbrev Bk (X : Cx) (scope : Scope) (i : BkI) : Cx := X.blk i.s i.H scope (compEnvC scope i.cl i.C X.env) i.fp
abbrev W0 : WX := fun _ _ _ _ => False
section
variable {ι : Type} (F : ι → Cx)
def eU (e : Expr) : TE := fun σ H Q => ∀ i, ∃ t, PE (F i) e t ∧ t σ H Q
theorem eU_ok (e : Expr) (i : ι) : PE (F i) e (eU F e) := ⟨fun pins s σ H Q I h => by
  obtain ⟨t, ht, q⟩ := h i
  exact ht.run pins s σ H Q I q⟩
def tsU (es : List Expr) : TT := fun σ H Q => ∀ i, ∃ t, PTs (F i) es t ∧ t σ H Q
theorem tsU_ok (es : List Expr) (i : ι) : PTs (F i) es (tsU F es) := ⟨fun pins s σ H Q I h => by
  obtain ⟨t, ht, q⟩ := h i
  exact ht.run pins s σ H Q I q⟩
def gU (tg : Expr) : TG := fun v σ H Q => ∀ i, ∃ g, PG (F i) tg g ∧ g v σ H Q
theorem gU_ok (tg : Expr) (i : ι) : PG (F i) tg (gU F tg) := ⟨fun pins s σ H v u Q I r h => by
  obtain ⟨g, hg, q⟩ := h i
  exact hg.run pins s σ H v u Q I r q⟩
end
/-- the tests of a clause -/
def PTsD (X : Cx) (T : Tb) (W : WX) (es : List Expr) (m : M Bool) : Prop := ∃ t, PTs X es t ∧ ∀ G H σ ρ Q, SR X.K T G H σ ρ → RW (kx X T) W G H σ ρ (m ρ) (fun b _ _ H' => Q b H') → t σ H Q
section
variable {X : Cx} {T : Tb} {W : WX}
theorem ptsD_nil : PTsD X T W [] (mret true) := ⟨_, pts_nil, fun G H σ ρ Q s q => q.ok s⟩
theorem ptsD_one {e : Expr} {m : M Bool} (h : PB X T W e m) : PTsD X T W [e] m := by
  obtain ⟨t, et, qt⟩ := h
  exact ⟨t, pts_one et, qt⟩
/-- as PN, where the value may go straight into a name -/
def PNL (X : Cx) (T : Tb) (W : WX) (e : Expr) (m : M D) : Prop := ∃ t, (PE X e t ∧ ∀ (i : Nat) (y : Str) (py spos : Pos), X.N[i]? = some y → X.env.scope.names.lookup y = some .local → swapsWith e (some (.Name y py)) spos.line X.env = pure true → PS X (.Assign [.Name y py] e spos) (tAsg t (gName i))) ∧
  ∀ G H σ ρ Q, SR X.K T G H σ ρ → RWN (kx X T) W G H σ ρ (m ρ) Q → t σ H Q
theorem PNL.pn {e : Expr} {m : M D} (h : PNL X T W e m) : PN X T W e m := by
  obtain ⟨t, ⟨ht, _⟩, hq⟩ := h
  exact ⟨t, ht, hq⟩
theorem pn_comp {elt tg iter : Expr} {ifs : List Expr} {scope : Scope} {own : List (Str × Nat)} {pos : Pos} {mi : M (List D)} {f : TgF} {ws : List Nat} {c : M Bool} {e : M D} (hc : X.calm = true) (hN : X.N.Nodup) (hi : PDI X T W tg iter mi) (ok : BlkOk X.N X.env.scope scope own)
    (hg : ∀ i, PTg (Bk X scope i) T tg f ws) (hws : ∀ i ∈ ws, i ∈ own.map (·.2)) (ht : ∀ i, PTsD (Bk X scope i) T W0 ifs c) (he : ∀ i, PD (Bk X scope i) T W0 elt e) (hs : ∀ x, foldedSetIterable iter X.env x = pure x := by intro _; rfl) :
    PNL X T W (.ListComp elt [⟨tg, iter, ifs, 0⟩] scope pos) (mcomp mi (own.map (·.2)) f c e) := by
  obtain ⟨wi, ei, qi⟩ := hi
  refine ⟨_, ⟨pe_lc hc hN ei ok (fun s H C cl fp => gU_ok (Bk X scope) tg ⟨s, H, C, cl, fp⟩) (fun s H C cl fp => tsU_ok (Bk X scope) ifs ⟨s, H, C, cl, fp⟩) (fun s H C cl fp => eU_ok (Bk X scope) elt ⟨s, H, C, cl, fp⟩) hs,
    fun i y py spos hy hyl hsw => ps_setLc hc hN hy hyl hsw ei ok (fun s H C cl fp => gU_ok (Bk X scope) tg ⟨s, H, C, cl, fp⟩) (fun s H C cl fp => tsU_ok (Bk X scope) ifs ⟨s, H, C, cl, fp⟩) (fun s H C cl fp => eU_ok (Bk X scope) elt ⟨s, H, C, cl, fp⟩) hs⟩, fun G H σ ρ Q s q => qi G H σ ρ _ s ((RWN.bind (k := kx X T) s q).mono fun ds ρ1 G1 H1 a1 q1 hl J wd => ?_)⟩
  generalize hvs : own.map (·.2) = vs at *
  obtain ⟨n, Gd, Y, wk, hn, hG, hY⟩ := wd
  subst hn
  unfold mcomp2 at q1
  have hcm : calmAt ρ1 vs = true := by
    cases hcm : calmAt ρ1 vs with
    | true => rfl
    | false => rw [hcm] at q1; exact q1.elim
  rw [if_pos hcm] at q1
  intro Dd hD
  cases hcl : cloop vs f c e ds [] (wipeD ρ1 vs) with
  | bad => rw [hcl] at q1; exact q1.elim
  | err _ _ => rw [hcl] at q1; exact q1.elim
  | ok acc ρf =>
  rw [hcl] at q1
  have sw := a1.sr.wiped vs
  have fD : Fre H1 Dd := Fre.of hD
  have A0 : After X.K T G1 H1 (wipe σ vs) (wipeD ρ1 vs) G1 (upd H1 Dd (.lst [])) (wipe σ vs) (wipeD ρ1 vs) := sw.after (Grow.hid sw.sub hD)
  refine lc_it wk (fun i Hc => ∃ G' ρ' accD accV, After X.K T G1 H1 (wipe σ vs) (wipeD ρ1 vs) G' Hc (wipe σ vs) ρ' ∧ Le (wipeD ρ1 vs) ρ' ∧ Blank ρ' vs ∧ Hc Dd = some (.lst accV) ∧ G' Dd = none ∧ Rps X.K G' accV accD ∧ accV.length ≤ i ∧ cloop vs f c e (ds.drop i) accD ρ' = .ok acc ρf)
    ⟨G1, _, [], [], A0, fun i t d h m => ⟨t, d, h, m⟩, blank_wipe ρ1 vs, upd_same, a1.sr.sub.isNone hD, .nil, Nat.le_refl _, hcl⟩ (fun i Hc _ ⟨G', ρ', _, _, a, _⟩ => hG Hc (a.gs.trans a.sr.sub)) ?_ ?_
  · rintro i x Hc H2 hi ⟨G', ρ', accD, accV, A, le, bl, hDc, gD, rA, hlen, hrun⟩ y
    obtain ⟨d, hd, hdr⟩ := drop_cons hi
    obtain ⟨G2, gr, rx⟩ := hY i d Hc x H2 G' hd A.gs A.sr.sub y
    have A2 := A.trans (A.sr.after gr)
    rw [hdr] at hrun
    have hrun : (match f d ρ' with
      | none => .bad
      | some ρ1 => match c ρ1 with
        | .ok true ρ2 => (match e ρ2 with
          | .ok y ρ3 => cloop vs f c e (ds.drop (i + 1)) (accD ++ [y]) (wipeD ρ3 vs)
          | _ => .bad)
        | .ok false ρ2 => cloop vs f c e (ds.drop (i + 1)) accD (wipeD ρ2 vs)
        | _ => .bad) = Res.ok acc ρf := hrun
    have hD2 : H2 Dd = some (.lst accV) := gr.hs _ _ hDc
    have gD2 : G2 Dd = none := gr.gn _ _ hDc gD
    have nl : ∀ ps, HO.lst accV ≠ .tbl ps := fun ps z => by cases z
    cases hf : f d ρ' with
    | none => rw [hf] at hrun; cases hrun
    | some ρ3 =>
    rw [hf] at hrun
    -- the new list is no slot's
    have noD : ¬ OwnAt (wipe σ vs) ρ' Dd := fun z => by
      obtain ⟨j, t, w, hj, m, ej⟩ := z
      obtain ⟨t', w', h', m'⟩ := le j t w hj m
      exact (fD.notOwn sw) ⟨j, t', w', h', m', ej⟩
    intro ib
    obtain ⟨lf, g, eg, qg⟩ := hg ib
    refine ⟨g, eg, qg G2 H2 (wipe σ vs) ρ' d x ρ3 _ A2.sr rx hf fun σ3 a3 on => ?_⟩
    have hw : wipe σ3 vs = wipe σ vs := by
      have on' : Only vs (wipe σ vs) σ3 := ⟨on.1, fun j hj => on.2 j fun z => hj (hws j z)⟩
      rw [wipe_eq on', wipe_wipe]
    have le3 : Le (wipeD ρ1 vs) ρ3 := fun j t x hj m => by
      obtain ⟨t1, x1, h1, m1⟩ := lf d ρ' ρ3 hf j t x hj m
      exact le j t1 x1 h1 m1
    refine ⟨hw, fun ic => ?_⟩
    obtain ⟨t, et, qt⟩ := ht ic
    have noD3 : ¬ OwnAt σ3 ρ3 Dd := (a3.fr Dd _ hD2 nl noD).2
    refine ⟨t, et, qt G2 H2 σ3 ρ3 _ a3.sr ?_⟩
    cases hcc : c ρ3 with
    | bad => simp only [hcc] at hrun; cases hrun
    | err _ _ => simp only [hcc] at hrun; cases hrun
    | ok k ρ4 =>
    simp only [hcc] at hrun
    intro G4 H4 a4
    have hD4 := a4.a.fr Dd _ hD2 nl noD3
    have gD4 := a4.a.gn Dd _ hD2 nl gD2 noD3
    have A4 := (A2.trans a3).trans a4.a
    have le4 : Le (wipeD ρ1 vs) ρ4 := fun j t x hj m => by
      obtain ⟨t1, x1, h1, m1⟩ := a4.le j t x hj m
      exact le3 j t1 x1 h1 m1
    have g24 : Sub G' G4 := (gr.gs.trans a3.gs).trans a4.gs
    have bw := blank_wipe ρ1 vs
    cases k with
    | false =>
      exact ⟨G4, _, accD, accV, A4.rewipe hw bw, le4.rewipe vs, blank_wipe _ _, hD4.1, gD4, rA.mono g24, Nat.le_succ_of_le hlen, hrun⟩
    | true =>
      intro id
      obtain ⟨t', et', qt'⟩ := he id
      refine ⟨t', et', qt' G4 H4 σ3 ρ4 _ a4.sr ?_⟩
      cases hee : e ρ4 with
      | bad => simp only [hee] at hrun; cases hrun
      | err _ _ => simp only [hee] at hrun; cases hrun
      | ok z ρ5 =>
      simp only [hee] at hrun
      intro G5 H5 a5 v rv
      have hD5 := a5.a.fr Dd _ hD4.1 nl hD4.2
      have gD5 := a5.a.gn Dd _ hD4.1 nl gD4 hD4.2
      have A5 := A4.trans a5.a
      have le5 : Le (wipeD ρ1 vs) ρ5 := fun j t x hj m => by
        obtain ⟨t1, x1, h1, m1⟩ := a5.le j t x hj m
        exact le4 j t1 x1 h1 m1
      have A6 := A5.rewipe hw bw
      have no6 : ¬ OwnAt (wipe σ vs) (wipeD ρ5 vs) Dd := fun z => by
        rw [← hw] at z
        exact hD5.2 (own_wiped z)
      have hlt : accV.length < sizeLine := Nat.lt_of_le_of_lt hlen (Nat.lt_of_lt_of_le hi hl)
      refine ⟨accV, hD5.1, hlt, G5, _, accD ++ [z], accV ++ [v], A6.poke fD hD5.1 gD5 no6, le5.rewipe vs, blank_wipe _ _, upd_same, gD5, (rA.mono (g24.trans a5.gs)).append (.cons rv .nil), ?_, hrun⟩
      rw [List.length_append]
      exact Nat.succ_le_succ hlen
  · rintro Hc ⟨G', ρ', accD, accV, A, le, bl, hDc, gD, rA, hlen, hrun⟩
    rw [List.drop_length] at hrun
    cases hrun
    have hz : accV.length ≤ sizeLine := Nat.le_trans hlen hl
    have U := After.unwipe a1.sr hcm A le
    exact q1 G' Hc Dd _ U fD hDc gD (.lst hz rA)
/-- y = [..], y a local name, ours -/
theorem pds_newL {x : Str} {e : Expr} {p pos : Pos} {i : Nat} {m : M D} (he : PNL X T W e m) (hy : X.N[i]? = some x) (hyl : X.env.scope.names.lookup x = some .local) (hsw : swapsWith e (some (.Name x p)) pos.line X.env = pure true) : PDs X T W (.Assign [.Name x p] e pos) (snew m i) := by
  obtain ⟨t, ⟨_, ps⟩, qt⟩ := he
  refine ⟨_, ps i x p pos hy hyl hsw, fun G H σ ρ E s q => qt G H σ ρ _ s (RSN.bind (k := kx X T) q fun d ρ1 G1 H1 a o q1 a1 fa ha ga r => ?_)⟩
  by_cases hi : isIo ρ1[i]? = true
  · rw [if_pos hi] at q1; exact q1.elim
  · rw [if_neg hi] at q1
    exact q1 G1 _ _ (SR.putOwnP (k := kx X T) s a1 fa ha ga r (by simpa using hi))
theorem RSN.told {k : Kx} {W : WX} {G H : Hp} {σ : L2.St} {ρ : DEnv} {m : M D} {f : D → MS} {E : Ends} {Q : VK} (s : SR k.K k.T G H σ ρ) (h : RS k W G H σ ρ (sbind m f ρ) E)
    (use : ∀ d ρ' G' H' v, RS k W G' H' σ ρ' (f d ρ') E → SR k.K k.T G' H' σ ρ' → Rp k.K G' v d → Q v H') : RWN k W G H σ ρ (m ρ) Q :=
  RSN.bind h fun d ρ' G' H' a o q A fr h1 g r => by
    have A' := A.tell (k := k) fr s h1 g r
    exact use d ρ' _ H' _ (RS.trans A'.a q) A'.sr (r.rp ((Sub.refl G').upd g) upd_same)
/-- y = [..], y a local name, told -/
theorem pds_asgL {x : Str} {e : Expr} {p pos : Pos} {i : Nat} {m : M D} (he : PNL X T W e m) (hy : X.N[i]? = some x) (hyl : X.env.scope.names.lookup x = some .local) (hsw : swapsWith e (some (.Name x p)) pos.line X.env = pure true) : PDs X T W (.Assign [.Name x p] e pos) (sasg m (tname i)) := by
  obtain ⟨t, ⟨_, ps⟩, qt⟩ := he
  refine ⟨_, ps i x p pos hy hyl hsw, fun G H σ ρ E s q => qt G H σ ρ _ s (RSN.told (k := kx X T) s q fun d ρ1 G1 H1 v q1 s1 r => ?_)⟩
  unfold tname at q1
  by_cases hi : isIo ρ1[i]? = true
  · simp only [hi, if_true] at q1; exact q1.elim
  · simp only [hi, if_false] at q1
    exact q1 G1 _ _ (SR.put (k := kx X T) s1 (by simpa using hi) r)
end
end PL
namespace PL
open PySem PySem.Spec PyProof.Rows L2 RZ
open PySem.W (Frag)
/-! ### [e for tg in iter if c for tg2 in iter2 if c2] -/
def iloop (vs : List Nat) (f : TgF) (c : M Bool) (e : M D) : List D → List D → M (List D)
  | [], acc => fun ρ => .ok acc ρ
  | d :: r, acc => fun ρ => match f d ρ with
    | none => .bad
    | some ρ1 => match c ρ1 with
      | .ok true ρ2 => (match e ρ2 with
        | .ok y ρ3 => if acc.length < sizeLine then iloop vs f c e r (acc ++ [y]) (wipeD ρ3 vs) else .bad
        | _ => .bad)
      | .ok false ρ2 => iloop vs f c e r acc (wipeD ρ2 vs)
      | _ => .bad
def oloop (vs : List Nat) (f : TgF) (c : M Bool) (m2 : M (List D)) (vs1 : List Nat) (f1 : TgF) (c1 : M Bool) (e : M D) : List D → List D → M (List D)
  | [], acc => fun ρ => .ok acc ρ
  | d :: r, acc => fun ρ => match f d ρ with
    | none => .bad
    | some ρ1 => match c ρ1 with
      | .ok true ρ2 => (match m2 ρ2 with
        | .ok ds2 ρ3 => if calmAt ρ3 vs1 = true then (match iloop vs1 f1 c1 e ds2 acc (wipeD ρ3 vs1) with
          | .ok acc' ρ4 => oloop vs f c m2 vs1 f1 c1 e r acc' (wipeD ρ4 vs)
          | _ => .bad) else .bad
        | _ => .bad)
      | .ok false ρ2 => oloop vs f c m2 vs1 f1 c1 e r acc (wipeD ρ2 vs)
      | _ => .bad
def mcompB2 (vs : List Nat) (f : TgF) (c : M Bool) (m2 : M (List D)) (vs1 : List Nat) (f1 : TgF) (c1 : M Bool) (e : M D) (ds : List D) : M D := fun ρ => if calmAt ρ vs = true then (match oloop vs f c m2 vs1 f1 c1 e ds [] (wipeD ρ vs) with
  | .ok acc ρ' => .ok (.list acc) (restD ρ ρ' vs)
  | _ => .bad) else .bad
def mcompB (mi : M (List D)) (vs : List Nat) (f : TgF) (c : M Bool) (m2 : M (List D)) (vs1 : List Nat) (f1 : TgF) (c1 : M Bool) (e : M D) : M D := mbind mi (mcompB2 vs f c m2 vs1 f1 c1 e)
section
variable {ι : Type} (F : ι → Cx)
def piUU (tg e : Expr) : TI := fun σ H R => ∀ i, ∃ wi, PI (F i) tg e wi ∧ wi σ H R
theorem piUU_ok (tg e : Expr) (i : ι) : PI (F i) tg e (piUU F tg e) := ⟨fun pins s σ H R I h => by
  obtain ⟨wi, hw, q⟩ := h i
  exact hw.run pins s σ H R I q⟩
end
theorem wipe_sub {σ : L2.St} {vs us : List Nat} (h : ∀ i ∈ us, i ∈ vs) : wipe (wipe σ us) vs = wipe σ vs := by
  apply List.ext_getElem?
  intro j
  rw [wipe_get, wipe_get, wipe_get]
  by_cases e : j ∈ vs
  · rw [if_pos e, if_pos e]
    by_cases e2 : j ∈ us <;> simp [e2, Option.map_map, Function.comp_def]
  · rw [if_neg e, if_neg e, if_neg (fun z => e (h j z))]
section
variable {K : Frag} {T : Tb} {G H G' H' : Hp} {σ σ' : L2.St} {ρ ρ' : DEnv} {vs : List Nat}
theorem After.wipeStep (s : SR K T G H σ ρ) (c : calmAt ρ vs = true) : After K T G H σ ρ G H (wipe σ vs) (wipeD ρ vs) :=
  ⟨Sub.refl G, s.wiped vs, fun b o h nt no => ⟨h, fun z => no (own_wiped z)⟩, fun b o h nt g no => g, fun i d h => by
    have ni : i ∉ vs := fun z => calmAt_mine c z h rfl
    exact ⟨by rw [wipe_get, if_neg ni], d, by rw [wipeD_get, if_neg ni]; exact h⟩, fun b o h n => ⟨o, h, n⟩⟩
end
section
variable {J : It} {n : Nat} {Gd : Hp → Prop} {Y : Nat → Hp → V → Hp → Prop}
/-- a loop over things told -/
theorem lc_any (w : Walk J n Gd Y) {H0 : Hp} {B : (Hp → Prop) → V → Hp → Prop} {Qd : Hp → Prop} (Pv : Nat → Hp → Prop) (h0 : Pv 0 H0) (hG : ∀ i H, i ≤ n → Pv i H → Gd H)
    (hs : ∀ i x H H', i < n → Pv i H → Y i H x H' → B (Pv (i + 1)) x H') (hd : ∀ H, Pv n H → Qd H) :
    ∃ W : Nat → Nat → Hp → Prop, (∃ m, W 0 m H0) ∧ ∀ i m H, W i m H →
      (J.stop i H ∧ Qd H) ∨ (J.go i H ∧ ∃ Nx : Hp → Prop, (∀ H', Nx H' → ∃ m', m' < m ∧ W (i + 1) m' H') ∧ ∀ x H', J.yld i H x H' → B Nx x H') := by
  refine ⟨fun i m H => m = n - i ∧ i ≤ n ∧ Pv i H, ⟨n, by simp, Nat.zero_le _, h0⟩, ?_⟩
  rintro i m H ⟨rfl, hi, p⟩
  have q := hG i H hi p
  by_cases hlt : i < n
  · refine .inr ⟨w.goes i H hlt q, Pv (i + 1), fun H' p' => ⟨n - (i + 1), by omega, rfl, hlt, p'⟩, fun x H' y => hs i x H H' hlt p (w.yields i H x H' hlt q y)⟩
  · have e : i = n := by omega
    subst e
    exact .inl ⟨w.stops H q, hd H p⟩
end
section
variable {X : Cx} {T : Tb} {W : WX}
/-- the list that grows: at Dd, told nowhere, no slot's -/
structure Gro (K : Frag) (T : Tb) (G0 H0 : Hp) (σ0 : L2.St) (ρ0 : DEnv) (Dd : Addr) (G H : Hp) (σ : L2.St) (ρ : DEnv) (accD : List D) (accV : List V) : Prop where
  a : After K T G0 H0 σ0 ρ0 G H σ ρ
  le : Le ρ0 ρ
  at' : H Dd = some (.lst accV)
  no : G Dd = none
  r : Rps K G accV accD
  sz : accV.length ≤ sizeLine
  nm : ¬ OwnAt σ ρ Dd
section
variable {K : Frag} {G0 H0 G H G' H' : Hp} {σ0 σ σ' : L2.St} {ρ0 ρ ρ' : DEnv} {Dd : Addr} {accD : List D} {accV : List V}
theorem nl {accV : List V} : ∀ ps, HO.lst accV ≠ .tbl ps := fun ps z => by cases z
theorem Gro.step (g : Gro K T G0 H0 σ0 ρ0 Dd G H σ ρ accD accV) (A : After K T G H σ ρ G' H' σ' ρ') (l : Le ρ ρ') : Gro K T G0 H0 σ0 ρ0 Dd G' H' σ' ρ' accD accV := by
  obtain ⟨h1, n1⟩ := A.fr Dd _ g.at' nl g.nm
  exact ⟨g.a.trans A, fun i t d hi m => by
    obtain ⟨u, e, h2, m2⟩ := l i t d hi m
    exact g.le i u e h2 m2, h1, A.gn Dd _ g.at' nl g.no g.nm, g.r.mono A.gs, g.sz, n1⟩
theorem Gro.wipe (g : Gro K T G0 H0 σ0 ρ0 Dd G H σ ρ accD accV) {vs : List Nat} (hw : wipe σ vs = σ0) (bl : Blank ρ0 vs) : Gro K T G0 H0 σ0 ρ0 Dd G H σ0 (wipeD ρ vs) accD accV :=
  ⟨g.a.rewipe hw bl, g.le.rewipe vs, g.at', g.no, g.r, g.sz, fun z => g.nm (by rw [← hw] at z; exact own_wiped z)⟩
theorem Gro.put (g : Gro K T G0 H0 σ0 ρ0 Dd G H σ ρ accD accV) (f : Fre H0 Dd) {v : V} {d : D} (rv : Rp K G v d) (hz : accV.length < sizeLine) : Gro K T G0 H0 σ0 ρ0 Dd G (upd H Dd (.lst (accV ++ [v]))) σ ρ (accD ++ [d]) (accV ++ [v]) :=
  ⟨g.a.poke f g.at' g.no g.nm, g.le, upd_same, g.no, g.r.append (.cons rv .nil), by rw [List.length_append]; exact hz, g.nm⟩
end
theorem le_refl (ρ : DEnv) : Le ρ ρ := fun _ t d h m => ⟨t, d, h, m⟩
theorem pn_comp2 {elt tg iter tg1 iter1 : Expr} {ifs ifs1 : List Expr} {scope : Scope} {own : List (Str × Nat)} {vs1 : List Nat} {pos : Pos} {mi m2 : M (List D)} {f f1 : TgF} {ws ws1 : List Nat} {c c1 : M Bool} {e : M D} (hc : X.calm = true) (hN : X.N.Nodup) (hi : PDI X T W tg iter mi) (ok : BlkOk X.N X.env.scope scope own) (hv : ∀ i ∈ vs1, i ∈ own.map (·.2))
    (hg : ∀ i, PTg (Bk X scope i) T tg f ws) (hws : ∀ i ∈ ws, i ∈ own.map (·.2)) (ht : ∀ i, PTsD (Bk X scope i) T W0 ifs c) (hi1 : ∀ i, PDI (Bk X scope i) T W0 tg1 iter1 m2) (hg1 : ∀ i, PTg (Bk X scope i) T tg1 f1 ws1) (hws1 : ∀ i ∈ ws1, i ∈ vs1) (ht1 : ∀ i, PTsD (Bk X scope i) T W0 ifs1 c1) (he : ∀ i, PD (Bk X scope i) T W0 elt e)
    (hs : ∀ x, foldedSetIterable iter X.env x = pure x := by intro _; rfl) (hs1 : ∀ env x, foldedSetIterable iter1 env x = pure x := by intro _ _; rfl) :
    PNL X T W (.ListComp elt [⟨tg, iter, ifs, 0⟩, ⟨tg1, iter1, ifs1, 0⟩] scope pos) (mcompB mi (own.map (·.2)) f c m2 vs1 f1 c1 e) := by
  obtain ⟨wi, ei, qi⟩ := hi
  refine ⟨_, ⟨pe_lc2 hc hN ei ok hv (fun s H C cl fp => gU_ok (Bk X scope) tg ⟨s, H, C, cl, fp⟩) (fun s H C cl fp => tsU_ok (Bk X scope) ifs ⟨s, H, C, cl, fp⟩) (fun s H C cl fp => piUU_ok (Bk X scope) tg1 iter1 ⟨s, H, C, cl, fp⟩) (fun s H C cl fp => gU_ok (Bk X scope) tg1 ⟨s, H, C, cl, fp⟩) (fun s H C cl fp => tsU_ok (Bk X scope) ifs1 ⟨s, H, C, cl, fp⟩) (fun s H C cl fp => eU_ok (Bk X scope) elt ⟨s, H, C, cl, fp⟩) hs hs1,
    fun i y py spos hy hyl hsw => ps_setLc2 hc hN hy hyl hsw ei ok hv (fun s H C cl fp => gU_ok (Bk X scope) tg ⟨s, H, C, cl, fp⟩) (fun s H C cl fp => tsU_ok (Bk X scope) ifs ⟨s, H, C, cl, fp⟩) (fun s H C cl fp => piUU_ok (Bk X scope) tg1 iter1 ⟨s, H, C, cl, fp⟩) (fun s H C cl fp => gU_ok (Bk X scope) tg1 ⟨s, H, C, cl, fp⟩) (fun s H C cl fp => tsU_ok (Bk X scope) ifs1 ⟨s, H, C, cl, fp⟩) (fun s H C cl fp => eU_ok (Bk X scope) elt ⟨s, H, C, cl, fp⟩) hs hs1⟩, fun G H σ ρ Q s q => qi G H σ ρ _ s ((RWN.bind (k := kx X T) s q).mono fun ds ρ1 G1 H1 a1 q1 hl J wd => ?_)⟩
  generalize hvs : own.map (·.2) = vs at *
  obtain ⟨n, Gd, Y, wk, hn, hG, hY⟩ := wd
  subst hn
  unfold mcompB2 at q1
  have hcm : calmAt ρ1 vs = true := by
    cases hcm : calmAt ρ1 vs with
    | true => rfl
    | false => rw [hcm] at q1; exact q1.elim
  rw [if_pos hcm] at q1
  intro Dd hD
  cases hcl : oloop vs f c m2 vs1 f1 c1 e ds [] (wipeD ρ1 vs) with
  | bad => rw [hcl] at q1; exact q1.elim
  | err _ _ => rw [hcl] at q1; exact q1.elim
  | ok acc ρf =>
  rw [hcl] at q1
  have sw := a1.sr.wiped vs
  have fD : Fre H1 Dd := Fre.of hD
  have bw := blank_wipe ρ1 vs
  have g0 : Gro X.K T G1 H1 (wipe σ vs) (wipeD ρ1 vs) Dd G1 (upd H1 Dd (.lst [])) (wipe σ vs) (wipeD ρ1 vs) [] [] :=
    ⟨sw.after (Grow.hid sw.sub hD), le_refl _, upd_same, a1.sr.sub.isNone hD, .nil, Nat.zero_le _, fD.notOwn sw⟩
  refine lc_any wk (fun i Hc => ∃ G' ρ' accD accV, Gro X.K T G1 H1 (wipe σ vs) (wipeD ρ1 vs) Dd G' Hc (wipe σ vs) ρ' accD accV ∧ oloop vs f c m2 vs1 f1 c1 e (ds.drop i) accD ρ' = .ok acc ρf)
    ⟨G1, _, [], [], g0, hcl⟩ (fun i Hc _ ⟨G', ρ', _, _, g, _⟩ => hG Hc (g.a.gs.trans g.a.sr.sub)) ?_ ?_
  · rintro i x Hc H2 hi' ⟨G', ρ', accD, accV, g', hrun⟩ y
    obtain ⟨d, hd, hdr⟩ := drop_cons hi'
    obtain ⟨G2, gr, rx⟩ := hY i d Hc x H2 G' hd g'.a.gs g'.a.sr.sub y
    have g2 := g'.step (g'.a.sr.after gr) (le_refl _)
    rw [hdr] at hrun
    have hrun : (match f d ρ' with
      | none => .bad
      | some ρ1 => match c ρ1 with
        | .ok true ρ2 => (match m2 ρ2 with
          | .ok ds2 ρ3 => if calmAt ρ3 vs1 = true then (match iloop vs1 f1 c1 e ds2 accD (wipeD ρ3 vs1) with
            | .ok acc' ρ4 => oloop vs f c m2 vs1 f1 c1 e (ds.drop (i + 1)) acc' (wipeD ρ4 vs)
            | _ => .bad) else .bad
          | _ => .bad)
        | .ok false ρ2 => oloop vs f c m2 vs1 f1 c1 e (ds.drop (i + 1)) accD (wipeD ρ2 vs)
        | _ => .bad) = Res.ok acc ρf := hrun
    cases hf : f d ρ' with
    | none => rw [hf] at hrun; cases hrun
    | some ρ3 =>
    rw [hf] at hrun
    intro ib
    obtain ⟨lf, g, eg, qg⟩ := hg ib
    refine ⟨g, eg, qg G2 H2 (wipe σ vs) ρ' d x ρ3 _ g2.a.sr rx hf fun σ3 a3 on => ?_⟩
    have hw : wipe σ3 vs = wipe σ vs := by
      have on' : Only vs (wipe σ vs) σ3 := ⟨on.1, fun j hj => on.2 j fun z => hj (hws j z)⟩
      rw [wipe_eq on', wipe_wipe]
    have g3 := g2.step a3 (lf d ρ' ρ3 hf)
    refine ⟨hw, fun ic => ?_⟩
    obtain ⟨t, et, qt⟩ := ht ic
    refine ⟨t, et, qt G2 H2 σ3 ρ3 _ a3.sr ?_⟩
    cases hcc : c ρ3 with
    | bad => simp only [hcc] at hrun; cases hrun
    | err _ _ => simp only [hcc] at hrun; cases hrun
    | ok k ρ4 =>
    simp only [hcc] at hrun
    intro G4 H4 a4
    have g4 := g3.step a4.a a4.le
    cases k with
    | false => exact ⟨G4, _, accD, accV, g4.wipe hw bw, hrun⟩
    | true =>
      intro id
      obtain ⟨wi1, ei1, qi1⟩ := hi1 id
      refine ⟨wi1, ei1, qi1 G4 H4 σ3 ρ4 _ a4.sr ?_⟩
      cases hm2 : m2 ρ4 with
      | bad => simp only [hm2] at hrun; cases hrun
      | err _ _ => simp only [hm2] at hrun; cases hrun
      | ok ds2 ρ5 =>
      simp only [hm2] at hrun
      have hcm2 : calmAt ρ5 vs1 = true := by
        cases hcm2 : calmAt ρ5 vs1 with
        | true => rfl
        | false => rw [hcm2] at hrun; cases hrun
      rw [if_pos hcm2] at hrun
      cases hil : iloop vs1 f1 c1 e ds2 accD (wipeD ρ5 vs1) with
      | bad => simp only [hil] at hrun; cases hrun
      | err _ _ => simp only [hil] at hrun; cases hrun
      | ok accD' ρ6 =>
      simp only [hil] at hrun
      intro G5 H5 a5 hl2 J1 wd1
      obtain ⟨n1, Gd1, Y1, wk1, hn1, hG1, hY1⟩ := wd1
      subst hn1
      have g5 := g4.step a5.a a5.le
      have g6 := g5.step (After.wipeStep a5.sr hcm2) ((le_refl ρ5).rewipe vs1)
      have sub0 : Sub G5 G5 := Sub.refl _
      refine lc_any wk1 (fun j Hj => ∃ G' ρ' aD aV, Gro X.K T G1 H1 (wipe σ vs) (wipeD ρ1 vs) Dd G' Hj (wipe σ3 vs1) ρ' aD aV ∧ Sub G5 G' ∧ Blank ρ' vs1 ∧ iloop vs1 f1 c1 e (ds2.drop j) aD ρ' = .ok accD' ρ6)
        ⟨G5, _, accD, accV, g6, sub0, blank_wipe _ _, hil⟩ (fun j Hj _ ⟨G', ρ', _, _, gj, sj, _⟩ => hG1 Hj (sj.trans gj.a.sr.sub)) ?_ ?_
      · rintro j x1 Hj H6 hj ⟨Gj, ρj, aD, aV, gj, sj, bj, hrj⟩ y1
        obtain ⟨d1, hd1, hdr1⟩ := drop_cons hj
        obtain ⟨G6, gr1, rx1⟩ := hY1 j d1 Hj x1 H6 Gj hd1 sj gj.a.sr.sub y1
        have k1 := gj.step (gj.a.sr.after gr1) (le_refl _)
        rw [hdr1] at hrj
        have hrj : (match f1 d1 ρj with
          | none => .bad
          | some ρ1 => match c1 ρ1 with
            | .ok true ρ2 => (match e ρ2 with
              | .ok y ρ3 => if aD.length < sizeLine then iloop vs1 f1 c1 e (ds2.drop (j + 1)) (aD ++ [y]) (wipeD ρ3 vs1) else .bad
              | _ => .bad)
            | .ok false ρ2 => iloop vs1 f1 c1 e (ds2.drop (j + 1)) aD (wipeD ρ2 vs1)
            | _ => .bad) = Res.ok accD' ρ6 := hrj
        cases hf1 : f1 d1 ρj with
        | none => rw [hf1] at hrj; cases hrj
        | some ρ7 =>
        rw [hf1] at hrj
        intro ie
        obtain ⟨lf1, gg, eg1, qg1⟩ := hg1 ie
        refine ⟨gg, eg1, qg1 G6 H6 (wipe σ3 vs1) ρj d1 x1 ρ7 _ k1.a.sr rx1 hf1 fun σ7 a7 on1 => ?_⟩
        have hw1 : wipe σ7 vs1 = wipe σ3 vs1 := by
          have on' : Only vs1 (wipe σ3 vs1) σ7 := ⟨on1.1, fun l hl => on1.2 l fun z => hl (hws1 l z)⟩
          rw [wipe_eq on', wipe_wipe]
        have k2 := k1.step a7 (lf1 d1 ρj ρ7 hf1)
        refine ⟨hw1, fun ig => ?_⟩
        obtain ⟨t1, et1, qt1⟩ := ht1 ig
        refine ⟨t1, et1, qt1 G6 H6 σ7 ρ7 _ a7.sr ?_⟩
        -- a turn's end: the second clause's names are forgotten
        have back : ∀ {G8 H8 ρ8 aD8 aV8}, Gro X.K T G1 H1 (wipe σ vs) (wipeD ρ1 vs) Dd G8 H8 σ7 ρ8 aD8 aV8 → After X.K T G6 H6 (wipe σ3 vs1) ρj G8 H8 σ7 ρ8 → Gro X.K T G1 H1 (wipe σ vs) (wipeD ρ1 vs) Dd G8 H8 (wipe σ3 vs1) (wipeD ρ8 vs1) aD8 aV8 := fun {G8 H8 ρ8 aD8 aV8} g8 A8 => by
          have R := A8.rewipe hw1 bj
          refine ⟨⟨g8.a.gs, R.sr, fun b o hb nt no => ?_, g8.a.gn, fun l dd hl => ?_, g8.a.tr⟩, g8.le.rewipe vs1, g8.at', g8.no, g8.r, g8.sz, fun z => g8.nm (by rw [← hw1] at z; exact own_wiped z)⟩
          · obtain ⟨h1, n1⟩ := g8.a.fr b o hb nt no
            exact ⟨h1, fun z => n1 (by rw [← hw1] at z; exact own_wiped z)⟩
          · obtain ⟨e1, d2, h2⟩ := k1.a.io l dd hl
            obtain ⟨e2, d3, h3⟩ := R.io l d2 h2
            exact ⟨e2.trans e1, d3, h3⟩
        cases hcc1 : c1 ρ7 with
        | bad => simp only [hcc1] at hrj; cases hrj
        | err _ _ => simp only [hcc1] at hrj; cases hrj
        | ok k' ρ8 =>
        simp only [hcc1] at hrj
        intro G8 H8 a8
        have k3 := k2.step a8.a a8.le
        have s8 : Sub G5 G8 := sj.trans (gr1.gs.trans (a7.gs.trans a8.gs))
        cases k' with
        | false => exact ⟨G8, _, aD, aV, back k3 (a7.trans a8.a), s8, blank_wipe _ _, hrj⟩
        | true =>
          intro ih
          obtain ⟨t', et', qt'⟩ := he ih
          refine ⟨t', et', qt' G8 H8 σ7 ρ8 _ a8.sr ?_⟩
          cases hee : e ρ8 with
          | bad => simp only [hee] at hrj; cases hrj
          | err _ _ => simp only [hee] at hrj; cases hrj
          | ok z ρ9 =>
          simp only [hee] at hrj
          have hz : aD.length < sizeLine := by
            by_cases hz : aD.length < sizeLine
            · exact hz
            · rw [if_neg hz] at hrj; cases hrj
          rw [if_pos hz] at hrj
          intro G9 H9 a9 v rv
          have k4 := k3.step a9.a a9.le
          have hz' : aV.length < sizeLine := by rw [k4.r.length]; exact hz
          exact ⟨aV, k4.at', hz', G9, _, aD ++ [z], aV ++ [v], (back k4 ((a7.trans a8.a).trans a9.a)).put fD rv hz', s8.trans a9.gs, blank_wipe _ _, hrj⟩
      · rintro Hj ⟨Gj, ρj, aD, aV, gj, sj, bj, hrj⟩
        rw [List.drop_length] at hrj
        cases hrj
        have hww : wipe (wipe σ3 vs1) vs = wipe σ vs := by rw [wipe_sub hv, hw]
        exact ⟨Gj, _, _, aV, gj.wipe hww bw, hrun⟩
  · rintro Hc ⟨G', ρ', accD, accV, g', hrun⟩
    rw [List.drop_length] at hrun
    cases hrun
    have U := After.unwipe a1.sr hcm g'.a g'.le
    exact q1 G' Hc Dd _ U fD g'.at' g'.no (.lst g'.sz g'.r)
end
end PL
namespace PL
open PySem PySem.Spec PyProof.Rows L2 RZ
open PySem.W (Frag)
/-! ### defs -/
/-- what a def leaves of its arguments -/
def outs : DEnv → DEnv → DEnv
  | [], _ => []
  | .io _ :: r, ρ => ((ρ[0]?).getD .un) :: outs r (ρ.drop 1)
  | s :: r, ρ => s :: outs r (ρ.drop 1)
theorem outs_length : ∀ (a ρ : DEnv), (outs a ρ).length = a.length
  | [], _ => rfl
  | .io _ :: r, ρ => by simp [outs, outs_length r]
  | .un :: r, ρ => by simp [outs, outs_length r]
  | .val _ :: r, ρ => by simp [outs, outs_length r]
  | .own _ :: r, ρ => by simp [outs, outs_length r]
theorem outs_io : ∀ (a ρ : DEnv) (i : Nat) (d : D), a[i]? = some (.io d) → (outs a ρ)[i]? = some ((ρ[i]?).getD .un)
  | [], _, _, _, h => by simp at h
  | s :: r, ρ, 0, d, h => by
    simp at h; subst h; rfl
  | s :: r, ρ, i + 1, d, h => by
    have q := outs_io r (ρ.drop 1) i d (by simpa using h)
    rw [List.getElem?_drop, Nat.add_comm 1 i] at q
    cases s <;> simpa [outs] using q
theorem outs_no : ∀ (a ρ : DEnv) (i : Nat) (s : Slot), a[i]? = some s → (∀ d, s ≠ .io d) → (outs a ρ)[i]? = some s
  | [], _, _, _, h, _ => by simp at h
  | t :: r, ρ, 0, s, h, n => by
    simp at h; subst h
    cases t with
    | io d => exact absurd rfl (n d)
    | _ => rfl
  | t :: r, ρ, i + 1, s, h, n => by
    have q := outs_no r (ρ.drop 1) i s (by simpa using h) n
    cases t <;> simpa [outs] using q
/-- the slots of a def's arguments -/
def argOk : DEnv → Prop := fun a => ∀ s ∈ a, (∃ d, s = .val d) ∨ ∃ d, s = .io d
def spD (k : Kx) (n : Nat) (F : DEnv → Res D) : Sp := fun vs H Q E => ∃ G args, SR k.K k.T G H (vs.map some) args ∧ argOk args ∧ args.length = n ∧
  match F args with
  | .ok d ρ' => ∀ G' H' v, k.Aft G H (vs.map some) args G' H' (vs.map some) ρ' → Rp k.K G' v d → Q v H'
  | .err c ρ' => ∀ G' H' C, k.Aft G H (vs.map some) args G' H' (vs.map some) ρ' → k.mg c = some (.ref C) → E (.ref C) none H'
  | .bad => False
def runDef (m : Nat) (b : MS) : DEnv → Res D := fun args => match b (args ++ List.replicate m .un) with
  | .ret d ρ => .ok d (outs args ρ)
  | .next ρ => .ok .none (outs args ρ)
  | .err c ρ => .err c (outs args ρ)
  | _ => .bad
section
variable {k : Kx} {G H G' H' : Hp} {vs : List V} {args : DEnv} {m : Nat} {σ' : L2.St} {ρ' : DEnv}
theorem start_get (N : List Str) (vs : List V) (i : Nat) (h : i < vs.length) : (L2.start N vs)[i]? = (vs.map some)[i]? := by
  unfold L2.start
  rw [List.getElem?_append_left (by simpa using h)]
theorem SR.entry {N : List Str} (s : SR k.K k.T G H (vs.map some) args) (hm : m + vs.length = N.length) : SR k.K k.T G H (L2.start N vs) (args ++ List.replicate m .un) := by
  have hl : vs.length = args.length := by have := s.len; rwa [List.length_map] at this
  have og : ∀ {i : Nat} {t : Slot}, (args ++ List.replicate m Slot.un)[i]? = some t → t = .un ∨ (i < vs.length ∧ args[i]? = some t) := fun {i t} h => by
    by_cases hi : i < args.length
    · rw [List.getElem?_append_left hi] at h
      exact .inr ⟨by omega, h⟩
    · rw [List.getElem?_append_right (by omega), List.getElem?_replicate] at h
      split at h
      · exact .inl (Option.some.inj h).symm
      · cases h
  refine ⟨s.sub, ?_, fun i t h => ?_, fun i j t u d e a h1 h2 m1 m2 e1 e2 => ?_, s.tab⟩
  · unfold L2.start
    simp only [List.length_append, List.length_map, List.length_replicate]
    omega
  · rcases og h with rfl | ⟨hi, h⟩
    · trivial
    · rw [start_get N vs i hi]; exact s.sl i t h
  · rcases og h1 with rfl | ⟨hi, h1⟩
    · cases m1
    · rcases og h2 with rfl | ⟨hj, h2⟩
      · cases m2
      · rw [start_get N vs i hi] at e1
        rw [start_get N vs j hj] at e2
        exact s.ne i j t u d e a h1 h2 m1 m2 e1 e2
theorem After.exit {N : List Str} (s : SR k.K k.T G H (vs.map some) args) (ok : argOk args) (A : k.Aft G H (L2.start N vs) (args ++ List.replicate m .un) G' H' σ' ρ') : k.Aft G H (vs.map some) args G' H' (vs.map some) (outs args ρ') := by
  have hl : vs.length = args.length := by have := s.len; rwa [List.length_map] at this
  have ent : ∀ {i : Nat} {t : Slot}, args[i]? = some t → i < vs.length ∧ (args ++ List.replicate m Slot.un)[i]? = some t := fun {i t} h => by
    have hi := (List.getElem?_eq_some_iff.mp h).1
    exact ⟨by omega, by rw [List.getElem?_append_left hi]; exact h⟩
  have ow1 : ∀ {a : Addr}, OwnAt (L2.start N vs) (args ++ List.replicate m Slot.un) a → OwnAt (vs.map some) args a := fun {a} ⟨i, t, d, hi, mm, e⟩ => by
    by_cases hlt : i < args.length
    · rw [List.getElem?_append_left hlt] at hi
      rw [start_get N vs i (by omega)] at e
      exact ⟨i, t, d, hi, mm, e⟩
    · rw [List.getElem?_append_right (by omega), List.getElem?_replicate] at hi
      split at hi
      · cases hi; cases mm
      · cases hi
  -- an io argument at the end
  have ioe : ∀ {i : Nat} {d : D}, args[i]? = some (.io d) → ∃ d', (outs args ρ')[i]? = some (.io d') ∧ ρ'[i]? = some (.io d') ∧ σ'[i]? = (vs.map some)[i]? := fun {i d} h => by
    obtain ⟨hi, h'⟩ := ent h
    obtain ⟨e1, d', h1⟩ := A.io i d h'
    refine ⟨d', ?_, h1, ?_⟩
    · rw [outs_io args ρ' i d h, h1]; rfl
    · rw [e1, start_get N vs i hi]
  have at' : ∀ {i : Nat} {t : Slot}, (outs args ρ')[i]? = some t → ∃ u, args[i]? = some u := fun {i t} h => by
    have hi := (List.getElem?_eq_some_iff.mp h).1
    rw [outs_length] at hi
    exact ⟨args[i], by simp [hi]⟩
  have mo : ∀ {i : Nat} {t : Slot} {d : D}, (outs args ρ')[i]? = some t → t.mine = some d → ρ'[i]? = some t ∧ σ'[i]? = (vs.map some)[i]? ∧ ∃ d0, args[i]? = some (.io d0) := fun {i t d} h mm => by
    obtain ⟨u, hu⟩ := at' h
    rcases ok u (List.mem_of_getElem? hu) with ⟨x, rfl⟩ | ⟨x, rfl⟩
    · rw [outs_no args ρ' i _ hu (fun d z => by cases z)] at h
      cases h; cases mm
    · obtain ⟨d', h1, h2, h3⟩ := ioe hu
      rw [h1] at h
      cases h
      exact ⟨h2, h3, x, hu⟩
  refine ⟨A.gs, ⟨A.sr.sub, by rw [outs_length]; exact s.len, fun i t h => ?_, fun i j t u d e a h1 h2 m1 m2 e1 e2 => ?_, A.sr.tab⟩, fun b o hb nt no => ?_, fun b o hb nt g no => A.gn b o hb nt g fun z => no (ow1 z), fun i d h => ?_, A.tr⟩
  · obtain ⟨u, hu⟩ := at' h
    rcases ok u (List.mem_of_getElem? hu) with ⟨x, rfl⟩ | ⟨x, rfl⟩
    · rw [outs_no args ρ' i _ hu (fun d z => by cases z)] at h
      cases h
      obtain ⟨v, e, r⟩ := s.sl i _ hu
      exact ⟨v, e, r.mono A.gs⟩
    · obtain ⟨d', h1, h2, h3⟩ := ioe hu
      rw [h1] at h
      cases h
      rw [← h3]
      exact A.sr.sl i _ h2
  · obtain ⟨p1, q1, _⟩ := mo h1 m1
    obtain ⟨p2, q2, _⟩ := mo h2 m2
    exact A.sr.ne i j t u d e a p1 p2 m1 m2 (q1.trans e1) (q2.trans e2)
  · obtain ⟨h1, n1⟩ := A.fr b o hb nt fun z => no (ow1 z)
    refine ⟨h1, fun ⟨i, t, d, hi, mm, e⟩ => n1 ?_⟩
    obtain ⟨p1, q1, _⟩ := mo hi mm
    exact ⟨i, t, d, p1, mm, q1.trans e⟩
  · obtain ⟨d', h1, _⟩ := ioe h
    exact ⟨rfl, d', h1⟩
end
/-- what a def hands to whoever catches: the class, the heap -/
abbrev Wd (E : XK) : WX := fun cls d _ H => E cls d H
section
variable {P : Program} {w : World} {K : Frag} {mg : Str → Option Value} {base : Heap} {T : Tb}
theorem fn_D {x qual : Str} {st : Stmt} {f : Addr} {fd : FuncData} {N ps : List Str} {k : Nat} {b : MS} (F : Fun K x qual st f fd) (S : FnScope N ps (defScope st)) (m : Nat) (hm : m + ps.length = N.length)
    (hbody : ∀ (cdv : Value) (A : Around) (outer : List Env) (s : Shared) (H : Hp) (E : XK), Room k (A.deeper (envOfC qual (defScope st) s.heap.objs.size f cdv)) →
      PDss (cxOf (L2.CX P w) P w K mg base N qual (defScope st) f cdv A outer s H E) T (Wd E) (defBody st) b) :
    FnOk P w K mg base (L2.CX P w) (k + 1) f fd ps (spD ⟨K, T, mg⟩ ps.length (runDef m b)) := by
  refine F.okX S (fun vs H Q E h => ?_) (fun cdv A outer s H vs Q E hr h => ?_)
  · obtain ⟨G, args, sr, _, hl, _⟩ := h
    have := sr.len
    rw [List.length_map] at this
    omega
  · obtain ⟨G, args, sr, ok, hl, h⟩ := h
    obtain ⟨t, et, qt⟩ := hbody cdv A outer s H E hr
    have hlen : vs.length = args.length := by have := sr.len; rwa [List.length_map] at this
    refine ⟨t, et, qt G H (L2.start N vs) (args ++ List.replicate m Slot.un) _ (SR.entry (k := ⟨K, T, mg⟩) (m := m) (N := N) sr (by omega)) ?_⟩
    have ex : ∀ {G' H' σ' ρ'}, Kx.Aft ⟨K, T, mg⟩ G H (L2.start N vs) (args ++ List.replicate m .un) G' H' σ' ρ' → Kx.Aft ⟨K, T, mg⟩ G H (vs.map some) args G' H' (vs.map some) (outs args ρ') := fun a => After.exit (k := ⟨K, T, mg⟩) sr ok a
    unfold runDef at h
    cases hb : b (args ++ List.replicate m .un) with
    | next ρ' => rw [hb] at h; exact fun G' H' σ' a => h G' H' .non (ex a) .non
    | ret d ρ' => rw [hb] at h; exact fun G' H' σ' v a rv => h G' H' v (ex a) rv
    | err c ρ' => rw [hb] at h; exact fun G' H' σ' C a e => h G' H' C (ex a) e
    | brk ρ' => rw [hb] at h; exact h.elim
    | cont ρ' => rw [hb] at h; exact h.elim
    | bad => rw [hb] at h; exact h.elim
end
/-! ### a call -/
section
variable {X : Cx} {T : Tb} {W : WX}
def mcallF (F : DEnv → Res D) (ms : M (List D)) : M D := mbind ms fun ds ρ => match F (ds.map .val) with
  | .ok d _ => .ok d ρ
  | .err c _ => .err c ρ
  | .bad => .bad
theorem noMine {ds : List D} {i : Nat} {t : Slot} {d : D} (h : (ds.map Slot.val)[i]? = some t) (m : t.mine = some d) : False := by
  rw [List.getElem?_map] at h
  obtain ⟨x, _, rfl⟩ := Option.map_eq_some_iff.mp h
  cases m
theorem args_sr {K : Frag} {G H : Hp} {vs : List V} {ds : List D} (sub : Sub G H) (tab : LamX.Tabs T H ∧ ∀ b ps, G b ≠ some (.tbl ps)) (r : Rps K G vs ds) : SR K T G H (vs.map some) (ds.map .val) := by
  refine ⟨sub, by rw [List.length_map, List.length_map]; exact r.length, fun i t h => ?_, fun i j t u d e a h1 h2 m1 m2 _ _ => (noMine h1 m1).elim, tab⟩
  rw [List.getElem?_map] at h
  obtain ⟨x, hx, rfl⟩ := Option.map_eq_some_iff.mp h
  obtain ⟨v, hv, rv⟩ := r.get hx
  exact ⟨v, by rw [List.getElem?_map, hv]; rfl, rv⟩
theorem args_ok {ds : List D} : argOk (ds.map .val) := fun s hs => by
  obtain ⟨d, _, rfl⟩ := List.mem_map.mp hs
  exact .inl ⟨d, rfl⟩
/-- back from a call that got told values alone -/
theorem back_call {k : Kx} {G H G' H' : Hp} {σ : L2.St} {ρ : DEnv} {vs : List V} {ds : List D} {ρ' : DEnv} (s : SR k.K k.T G H σ ρ) (A : k.Aft G H (vs.map some) (ds.map .val) G' H' (vs.map some) ρ') : k.AftE G H σ ρ G' H' ρ := by
  have no : ∀ a, ¬ OwnAt (vs.map some) (ds.map Slot.val) a := fun a ⟨i, t, d, hi, m, _⟩ => noMine hi m
  refine ⟨⟨A.gs, ⟨A.sr.sub, s.len, fun i t h => ?_, s.ne, A.sr.tab⟩, fun b o h nt n => ⟨(A.fr b o h nt (no b)).1, n⟩, fun b o h nt g _ => A.gn b o h nt g (no b), fun i d h => ⟨rfl, d, h⟩, A.tr⟩, fun i t d h m => ⟨t, d, h, m⟩⟩
  have q := s.sl i t h
  cases t with
  | un => trivial
  | val d => obtain ⟨v, e, r⟩ := q; exact ⟨v, e, r.mono A.gs⟩
  | own d =>
    obtain ⟨a, o, e, h1, h2, r⟩ := q
    exact ⟨a, o, e, (A.fr a o h1 r.notbl (no a)).1, A.gn a o h1 r.notbl h2 (no a), r.mono A.gs⟩
  | io d =>
    obtain ⟨a, o, e, h1, h2, r⟩ := q
    exact ⟨a, o, e, (A.fr a o h1 r.notbl (no a)).1, A.gn a o h1 r.notbl h2 (no a), r.mono A.gs⟩
/-- how many arguments come -/
def MLen (ms : M (List D)) (n : Nat) : Prop := ∀ ρ ds ρ', ms ρ = .ok ds ρ' → ds.length = n
theorem ml_nil : MLen mnil 0 := fun ρ ds ρ' h => by cases h; rfl
theorem ml_cons {m : M D} {ms : M (List D)} {n : Nat} (h : MLen ms n) : MLen (mcons m ms) (n + 1) := fun ρ ds ρ' e => by
  unfold mcons mbind at e
  cases e1 : m ρ with
  | ok d ρ1 =>
    rw [e1] at e
    cases e2 : ms ρ1 with
    | ok ds' ρ2 =>
      simp only [e2] at e
      cases e
      show ds'.length + 1 = n + 1
      rw [h ρ1 ds' _ e2]
    | err _ _ => simp only [e2] at e; cases e
    | bad => simp only [e2] at e; cases e
  | err _ _ => rw [e1] at e; cases e
  | bad => rw [e1] at e; cases e
theorem pd_call {x : Str} {e : Expr} {es : List Expr} {p pos : Pos} {k : Nat} {f : Addr} {fd : FuncData} {ps : List Str} {F : DEnv → Res D} {ms : M (List D)} (hF : FnOk X.prog X.w X.K X.mg X.base (L2.CX X.prog X.w) k f fd ps (spD (kx X T) (e :: es).length F)) (hr : Room k X.A) (hg : Gl X x) (hm : X.mg x = some (.ref f)) (hk : PySem.W.keepIn X.K (.ref f) = true) (hb : Binds X.K fd ps [])
    (hx : ∀ σ, PassesAt (L2.CX X.prog X.w) X σ (WE W σ)) (ha : PAs X T W (e :: es) ms) (hdb : (x == ("__debug__" : Str)) = false := by decide) (he : starEach (e :: es) X.env = (false, eval e X.env) :: starEach es X.env := by rfl) (hpl : (backTo pos (starEach es X.env)).any (·.1) = false := by rfl)
    (hn : ∀ ρ ds ρ', ms ρ = .ok ds ρ' → ds.length = (e :: es).length := by first | exact ml_cons ml_nil | exact ml_cons (ml_cons ml_nil) | exact ml_cons (ml_cons (ml_cons ml_nil)) | exact ml_cons (ml_cons (ml_cons (ml_cons ml_nil))) | exact ml_cons (ml_cons (ml_cons (ml_cons (ml_cons ml_nil))))) :
    PD X T W (.Call (.Name x p) (e :: es) [] pos) (mcallF F ms) := by
  obtain ⟨t, et, qt⟩ := ha
  refine ⟨_, pe_callS hF hr hg hm hk hb hx et hdb he hpl, fun G H σ ρ Q s q => ?_⟩
  unfold mcallF mbind at q
  refine qt G H σ ρ _ s ?_
  cases hms : ms ρ with
  | bad => rw [hms] at q; exact q.elim
  | err c ρ' => rw [hms] at q; exact q
  | ok ds ρ1 =>
    rw [hms] at q
    intro G1 H1 a1 vs rv
    refine ⟨G1, ds.map .val, args_sr a1.sr.sub a1.sr.tab rv, args_ok, by rw [List.length_map]; exact hn ρ ds ρ1 hms, ?_⟩
    cases hFr : F (ds.map .val) with
    | bad => simp only [hFr] at q; exact q.elim
    | err c ρ' => simp only [hFr] at q; exact fun G' H' C A ec => q G' H' C (a1.trans (back_call (k := kx X T) a1.sr A)) ec
    | ok d ρ' => simp only [hFr] at q; exact fun G' H' v A r => q G' H' (a1.trans (back_call (k := kx X T) a1.sr A)) v r
/-! ### a call that gets something of ours first -/
def mcallIo2 (F : DEnv → Res D) (i : Nat) (ds : List D) : M D := fun ρ => match mineAt ρ i with
  | some (t, c) => (match F (.io c :: ds.map .val) with
    | .ok d (.io c' :: _) => .ok d (ρ.set i (t.put c'))
    | .err e (.io c' :: _) => .err e (ρ.set i (t.put c'))
    | _ => .bad)
  | none => .bad
def mcallIo (F : DEnv → Res D) (i : Nat) (ms : M (List D)) : M D := fun ρ => match mineAt ρ i with
  | some _ => mbind ms (mcallIo2 F i) ρ
  | none => .bad
theorem io_sr {K : Frag} {G H : Hp} {vs : List V} {ds : List D} {a : Addr} {o : HO} {c : D} (sub : Sub G H) (tab : LamX.Tabs T H ∧ ∀ b ps, G b ≠ some (.tbl ps)) (r : Rps K G vs ds) (h : H a = some o) (g : G a = none) (ro : HoR K G o c) : SR K T G H ((.ref a :: vs).map some) (.io c :: ds.map .val) := by
  refine ⟨sub, by simp [r.length], fun i t h' => ?_, fun i j t u d e a h1 h2 m1 m2 _ _ => ?_, tab⟩
  · cases i with
    | zero => simp at h'; subst h'; exact ⟨a, o, rfl, h, g, ro⟩
    | succ i =>
      have h' : (ds.map Slot.val)[i]? = some t := by simpa using h'
      rw [List.getElem?_map] at h'
      obtain ⟨x, hx, rfl⟩ := Option.map_eq_some_iff.mp h'
      obtain ⟨v, hv, rv⟩ := r.get hx
      exact ⟨v, by simp [hv], rv⟩
  · have z : ∀ {l : Nat} {t : Slot} {d : D}, (Slot.io c :: ds.map Slot.val)[l]? = some t → t.mine = some d → l = 0 := fun {l t d} hl m => by
      cases l with
      | zero => rfl
      | succ l => exact (noMine (ds := ds) (i := l) (by simpa using hl) m).elim
    rw [z h1 m1, z h2 m2]
theorem back_io {k : Kx} {G H G' H' : Hp} {σ : L2.St} {ρ : DEnv} {vs : List V} {ds : List D} {r' : DEnv} {i : Nat} {t : Slot} {c c' : D} {a : Addr} (s : SR k.K k.T G H σ ρ) (hi : ρ[i]? = some t) (ht : t.mine = some c) (e : σ[i]? = some (some (.ref a)))
    (A : k.Aft G H ((.ref a :: vs).map some) (.io c :: ds.map .val) G' H' ((.ref a :: vs).map some) (.io c' :: r')) : k.AftE G H σ ρ G' H' (ρ.set i (t.put c')) := by
  have mp : (t.put c').mine = some c' := by cases t <;> first | rfl | cases ht
  have ow : ∀ b, OwnAt ((.ref a :: vs).map some) (.io c :: ds.map Slot.val) b → b = a := fun b ⟨j, u, d, hj, m, ej⟩ => by
    cases j with
    | zero => simp at ej; exact ej.symm
    | succ j => exact (noMine (ds := ds) (i := j) (by simpa using hj) m).elim
  obtain ⟨a1, o1, e1, h1, g1, r1⟩ := A.sr.sl 0 (.io c') (by simp)
  obtain rfl : a = a1 := by simpa using e1
  have og : ∀ {j : Nat} {u : Slot}, (ρ.set i (t.put c'))[j]? = some u → (j = i ∧ u = t.put c') ∨ (j ≠ i ∧ ρ[j]? = some u) := fun {j u} hj => by
    rw [get_set hi] at hj
    split at hj
    · cases hj; exact .inl ⟨‹_›, rfl⟩
    · exact .inr ⟨‹_›, hj⟩
  have om : ∀ {j : Nat} {u : Slot} {x : D}, (ρ.set i (t.put c'))[j]? = some u → u.mine = some x → ∃ (u' : Slot) (x' : D), ρ[j]? = some u' ∧ u'.mine = some x' := fun {j u x} hj hu => by
    rcases og hj with ⟨rfl, _⟩ | ⟨_, h⟩
    · exact ⟨t, c, hi, ht⟩
    · exact ⟨u, x, h, hu⟩
  have ow2 : ∀ b, OwnAt σ (ρ.set i (t.put c')) b → OwnAt σ ρ b := fun b ⟨j, u, x, hj, hu, hs⟩ => by
    obtain ⟨u', x', h, m⟩ := om hj hu
    exact ⟨j, u', x', h, m, hs⟩
  have oa : OwnAt σ ρ a := ⟨i, t, c, hi, ht, e⟩
  have stay : ∀ {j : Nat} {u : Slot} {x : D} {b : Addr} {o : HO}, j ≠ i → ρ[j]? = some u → u.mine = some x → σ[j]? = some (some (.ref b)) → H b = some o → G b = none → HoR k.K G o x → H' b = some o ∧ G' b = none := fun {j u x b o} nj hj hu eb hb gb rb => by
    have nb : b ≠ a := fun z => nj (s.ne j i u t x c a hj hi hu ht (by rw [← z]; exact eb) e)
    have no : ¬ OwnAt ((.ref a :: vs).map some) (.io c :: ds.map Slot.val) b := fun z => nb (ow b z)
    exact ⟨(A.fr b o hb rb.notbl no).1, A.gn b o hb rb.notbl gb no⟩
  refine ⟨⟨A.gs, ⟨A.sr.sub, by rw [List.length_set]; exact s.len, fun j u hj => ?_, fun j l u u2 x y b hj hl hu hu2 e1 e2 => ?_, A.sr.tab⟩, fun b o hb nt n => ?_, fun b o hb nt gb n => A.gn b o hb nt gb fun z => n (ow b z ▸ oa), fun j x hj => ?_, A.tr⟩, fun j u x hj hu => om hj hu⟩
  · rcases og hj with ⟨rfl, rfl⟩ | ⟨ne, h⟩
    · cases t with
      | own _ => exact ⟨a, o1, e, h1, g1, r1⟩
      | io _ => exact ⟨a, o1, e, h1, g1, r1⟩
      | _ => cases ht
    · have q := s.sl j u h
      cases u with
      | un => trivial
      | val x => obtain ⟨v, ev, rv⟩ := q; exact ⟨v, ev, rv.mono A.gs⟩
      | own x =>
        obtain ⟨b, o, eb, hb, gb, rb⟩ := q
        obtain ⟨h', g'⟩ := stay ne h rfl eb hb gb rb
        exact ⟨b, o, eb, h', g', rb.mono A.gs⟩
      | io x =>
        obtain ⟨b, o, eb, hb, gb, rb⟩ := q
        obtain ⟨h', g'⟩ := stay ne h rfl eb hb gb rb
        exact ⟨b, o, eb, h', g', rb.mono A.gs⟩
  · obtain ⟨u', x', h, m⟩ := om hj hu
    obtain ⟨u2', y', h2, m2⟩ := om hl hu2
    exact s.ne j l u' u2' x' y' b h h2 m m2 e1 e2
  · have no : ¬ OwnAt ((.ref a :: vs).map some) (.io c :: ds.map Slot.val) b := fun z => n (ow b z ▸ oa)
    exact ⟨(A.fr b o hb nt no).1, fun z => n (ow2 b z)⟩
  · refine ⟨rfl, ?_⟩
    rw [get_set hi]
    by_cases ej : j = i
    · rw [if_pos ej]
      rw [ej, hi] at hj; cases hj
      exact ⟨c', rfl⟩
    · rw [if_neg ej]; exact ⟨x, hj⟩
theorem pd_callIo {x y : Str} {es : List Expr} {p py pos : Pos} {k i : Nat} {f : Addr} {fd : FuncData} {ps : List Str} {F : DEnv → Res D} {ms : M (List D)} (hF : FnOk X.prog X.w X.K X.mg X.base (L2.CX X.prog X.w) k f fd ps (spD (kx X T) (Expr.Name y py :: es).length F)) (hr : Room k X.A) (hg : Gl X x) (hm : X.mg x = some (.ref f)) (hk : PySem.W.keepIn X.K (.ref f) = true) (hb : Binds X.K fd ps [])
    (hx : ∀ σ, PassesAt (L2.CX X.prog X.w) X σ (WE W σ)) (hy : PE X (.Name y py) (tVar i)) (ha : PAs X T W es ms) (hn : MLen ms es.length) (hdb : (x == ("__debug__" : Str)) = false := by decide)
    (hst : starEach (.Name y py :: es) X.env = (false, eval (.Name y py) X.env) :: starEach es X.env := by rfl) (hpl : (backTo pos (starEach es X.env)).any (·.1) = false := by rfl) :
    PD X T W (.Call (.Name x p) (.Name y py :: es) [] pos) (mcallIo F i ms) := by
  obtain ⟨t, et, qt⟩ := ha
  refine ⟨_, pe_callS hF hr hg hm hk hb hx (pa_cons hy et hst) hdb hst hpl, fun G H σ ρ Q s q => ?_⟩
  unfold mcallIo at q
  cases hm0 : mineAt ρ i with
  | none => simp only [hm0] at q; exact q.elim
  | some tc0 =>
  obtain ⟨t0, c0⟩ := tc0
  simp only [hm0] at q
  obtain ⟨hi0, ht0⟩ := mineAt_of hm0
  obtain ⟨a, _, e0, _⟩ := SR.slot_mine (k := kx X T) s hi0 ht0
  refine ⟨.ref a, e0, qt G H σ ρ _ s ?_⟩
  unfold mbind at q
  cases hms : ms ρ with
  | bad => rw [hms] at q; exact q.elim
  | err c ρ' => rw [hms] at q; exact q
  | ok ds ρ1 =>
  rw [hms] at q
  intro G1 H1 a1 vs rv
  unfold mcallIo2 at q
  cases hm1 : mineAt ρ1 i with
  | none => simp only [hm1] at q; exact q.elim
  | some tc1 =>
  obtain ⟨t1, c1⟩ := tc1
  simp only [hm1] at q
  obtain ⟨hi1, ht1⟩ := mineAt_of hm1
  obtain ⟨a', o1, e1, h1, g1, r1⟩ := SR.slot_mine (k := kx X T) a1.sr hi1 ht1
  rw [e0] at e1; cases e1
  refine ⟨G1, .io c1 :: ds.map .val, io_sr a1.sr.sub a1.sr.tab rv h1 g1 r1, ?_, ?_, ?_⟩
  · intro s' hs'
    rcases List.mem_cons.mp hs' with rfl | hs'
    · exact .inr ⟨_, rfl⟩
    · exact args_ok s' hs'
  · rw [List.length_cons, List.length_map, hn ρ ds ρ1 hms]; rfl
  · cases hFr : F (.io c1 :: ds.map .val) with
    | bad => simp only [hFr] at q; exact q.elim
    | err c ρ' =>
      simp only [hFr] at q
      split at q
      · rename_i heq; cases heq
      · rename_i heq
        cases heq
        exact fun G' H' C A ec => q G' H' C (a1.trans (back_io (k := kx X T) a1.sr hi1 ht1 e0 A)) ec
      · exact q.elim
    | ok d ρ' =>
      simp only [hFr] at q
      split at q
      · rename_i heq
        cases heq
        exact fun G' H' v A r => q G' H' (a1.trans (back_io (k := kx X T) a1.sr hi1 ht1 e0 A)) v r
      · rename_i heq; cases heq
      · exact q.elim
end
end PL
namespace PL
open PySem PySem.Spec PyProof.Rows L2 RZ
open PySem.W (Frag)
/-! ### the primitives, by data -/
def opAdd : D → D → Option D
  | .int i, .int j => some (.int (i + j))
  | .tuple xs, .tuple ys => if xs.length + ys.length ≤ sizeLine then some (.tuple (xs ++ ys)) else none
  | .list xs, .list ys => if xs.length + ys.length ≤ sizeLine then some (.list (xs ++ ys)) else none
  | .str x, .str y => if x.length + y.length ≤ sizeLine then some (.str (x ++ y)) else none
  | _, _ => none
def opSub : D → D → Option D
  | .int i, .int j => some (.int (i - j))
  | _, _ => none
def smallMul (i j : Int) : Bool := (decide (-(2 ^ 64) < i) && decide (i < 2 ^ 64)) || (decide (-(2 ^ 64) < j) && decide (j < 2 ^ 64))
def repD (n : Nat) (xs : List D) : List D := (List.replicate n xs).flatten
def opMul : D → D → Option D
  | .int i, .int j => if smallMul i j = true then some (.int (i * j)) else none
  | .tuple xs, .int k => if xs ≠ [] ∧ 1 ≤ k ∧ k ≤ 1000 ∧ xs.length ≤ 1000 then some (.tuple (repD k.toNat xs)) else none
  | .list xs, .int k => if -(2 ^ 63) ≤ k ∧ k < 2 ^ 63 ∧ xs.length * k.toNat ≤ sizeLine then some (.list (repD k.toNat xs)) else none
  | _, _ => none
def opFdiv : D → D → Option D
  | .int i, .int j => if 0 < j ∧ j < 1073741824 then some (.int (i / j)) else none
  | _, _ => none
def opMod : D → D → Option D
  | .int i, .int j => if 0 < j then some (.int (i % j)) else none
  | _, _ => none
def opPow : D → D → Option D
  | .int i, .int j => if 0 ≤ j ∧ j ≤ 1000000 ∧ i.natAbs < 2 ^ 64 then some (.int (i ^ j.toNat)) else none
  | _, _ => none
def cmpLt : D → D → Option D
  | .int i, .int j => some (.bool (decide (i < j)))
  | _, _ => none
def cmpLe : D → D → Option D
  | .int i, .int j => some (.bool (decide (i ≤ j)))
  | _, _ => none
def cmpGt : D → D → Option D
  | .int i, .int j => some (.bool (decide (j < i)))
  | _, _ => none
def cmpGe : D → D → Option D
  | .int i, .int j => some (.bool (decide (j ≤ i)))
  | _, _ => none
def cmpEq (d e : D) : Option D := if SeqAt.shaped d = true ∧ SeqAt.shaped e = true then some (.bool (PyData.eqv d e)) else none
def cmpNe (d e : D) : Option D := if SeqAt.shaped d = true ∧ SeqAt.shaped e = true then some (.bool (!PyData.eqv d e)) else none
def isNone : D → Bool
  | .none => true
  | _ => false
def cmpIs : D → D → Option D
  | d, .none => some (.bool (isNone d))
  | .bool a, .bool b => some (.bool (decide (a = b)))
  | _, _ => none
def cmpIsNot : D → D → Option D
  | d, .none => some (.bool (!isNone d))
  | .bool a, .bool b => some (.bool (!decide (a = b)))
  | _, _ => none
def flatD : D → Bool
  | .none => true
  | .bool _ => true
  | .int _ => true
  | .str _ => true
  | _ => false
def inD (d : D) : D → Option Bool
  | .list es => if SeqAt.shaped d = true ∧ SeqAt.shaped (.list es) = true then some (es.any fun z => PyData.eqv z d) else none
  | .tuple es => if flatD d = true ∧ es.all flatD = true then some (es.any fun z => PyData.eqv z d) else none
  | _ => none
def cmpIn (d e : D) : Option D := (inD d e).map .bool
def cmpNotIn (d e : D) : Option D := (inD d e).map fun b => .bool !b
section
variable {X : Cx}
theorem rp_int {K : Frag} {G : Hp} {v : V} {i : Int} (r : Rp K G v (.int i)) : v = .int i := by cases r; rfl
theorem rp_bl {K : Frag} {G : Hp} {v : V} {b : Bool} (r : Rp K G v (.bool b)) : v = .bl b := by cases r; rfl
theorem rp_str {K : Frag} {G : Hp} {v : V} {x : Str} (r : Rp K G v (.str x)) : v = .str x := by cases r; rfl
theorem rp_non {K : Frag} {G : Hp} {v : V} (r : Rp K G v .none) : v = .non := by cases r; rfl
theorem rps_nil_iff {K : Frag} {G : Hp} {vs : List V} {ds : List D} (r : Rps K G vs ds) : vs = [] ↔ ds = [] := by cases r <;> simp
theorem ox_add : OpX X (binaryOp .Add) opAdd := by
  intro d e z h
  unfold opAdd at h
  split at h
  · cases h
    exact ⟨_, op_add, fun G H x y Q su rx ry use => by rw [rp_int rx, rp_int ry]; exact ⟨_, _, rfl, rfl, use _ _ _ (Grow.refl su) (.int _)⟩⟩
  · rename_i xs ys
    obtain ⟨hl, e⟩ := if_some h
    subst e
    refine ⟨_, op_catA, fun G H x y Q su rx ry use => ?_⟩
    cases rx with
    | tup h1 z1 r1 =>
      cases ry with
      | tup h2 z2 r2 =>
        rename_i a us b ws
        have hs : us.length + ws.length ≤ sizeLine := by rw [r1.length, r2.length]; exact hl
        refine ⟨a, b, us, ws, rfl, rfl, su.sqt h1, su.sqt h2, hs, fun e => ?_, fun _ e => ?_, fun _ _ p hp => ?_⟩
        · have e' := (rps_nil_iff r1).mp e
          subst e'
          exact use _ _ _ (Grow.refl su) (.tup h2 z2 r2)
        · have e' := (rps_nil_iff r2).mp e
          subst e'
          rw [List.append_nil] at use
          exact use _ _ _ (Grow.refl su) (.tup h1 z1 r1)
        · have g := Grow.new (o := .tup (us ++ ws)) su hp
          exact use _ _ _ g (.tup (SqT.of upd_same) (by rw [List.length_append]; exact hs) ((r1.mono g.gs).append (r2.mono g.gs)))
  · rename_i xs ys
    obtain ⟨hl, e⟩ := if_some h
    subst e
    refine ⟨_, op_cat, fun G H x y Q su rx ry use => ?_⟩
    cases rx with
    | lst h1 z1 r1 =>
      cases ry with
      | lst h2 z2 r2 =>
        rename_i a us b ws
        have hs : us.length + ws.length ≤ sizeLine := by rw [r1.length, r2.length]; exact hl
        refine ⟨a, b, us, ws, rfl, rfl, su _ _ h1, su _ _ h2, hs, fun p hp => ?_⟩
        have g := Grow.new (o := .lst (us ++ ws)) su hp
        exact use _ _ _ g (.lst upd_same (by rw [List.length_append]; exact hs) ((r1.mono g.gs).append (r2.mono g.gs)))
  · obtain ⟨hl, e⟩ := if_some h
    subst e
    exact ⟨_, op_add_str, fun G H x y Q su rx ry use => by rw [rp_str rx, rp_str ry]; exact ⟨_, _, rfl, rfl, hl, use _ _ _ (Grow.refl su) (.str _)⟩⟩
  · cases h
theorem ox_sub : OpX X (binaryOp .Sub) opSub := by
  intro d e z h
  unfold opSub at h
  split at h
  · cases h
    exact ⟨_, op_sub, fun G H x y Q su rx ry use => by rw [rp_int rx, rp_int ry]; exact ⟨_, _, rfl, rfl, use _ _ _ (Grow.refl su) (.int _)⟩⟩
  · cases h
theorem ox_fdiv : OpX X (binaryOp .FloorDiv) opFdiv := by
  intro d e z h
  unfold opFdiv at h
  split at h
  · obtain ⟨hc, e⟩ := if_some h
    subst e
    exact ⟨_, op_fdiv, fun G H x y Q su rx ry use => by rw [rp_int rx, rp_int ry]; exact ⟨_, _, rfl, rfl, hc, use _ _ _ (Grow.refl su) (.int _)⟩⟩
  · cases h
theorem ox_mod : OpX X (binaryOp .Mod) opMod := by
  intro d e z h
  unfold opMod at h
  split at h
  · obtain ⟨hc, e⟩ := if_some h
    subst e
    exact ⟨_, op_mod, fun G H x y Q su rx ry use => by rw [rp_int rx, rp_int ry]; exact ⟨_, _, rfl, rfl, hc, use _ _ _ (Grow.refl su) (.int _)⟩⟩
  · cases h
theorem ox_pow : OpX X (binaryOp .Pow) opPow := by
  intro d e z h
  unfold opPow at h
  split at h
  · obtain ⟨hc, e⟩ := if_some h
    subst e
    exact ⟨_, op_pow, fun G H x y Q su rx ry use => by rw [rp_int rx, rp_int ry]; exact ⟨_, _, rfl, rfl, hc, use _ _ _ (Grow.refl su) (.int _)⟩⟩
  · cases h
/-- t * 1 -/
theorem tuple_mul1 (l : Addr) (items : Array Value) (n : Nat) (dd : Option Addr) (sl : Array (Option Value)) (u : Tok) :
    Meets (Builtin.«tuple.__mul__» ⟨[.ref l, .int 1 u], []⟩) (fun _ R s => s.heap.get? l = some { cls := .type "tuple", dict := dd, data := .seq items n, slots := sl } ∧ R (.ok (.ret (Value.ref l))) s) :=
  .of_wp fun prog w A R s h => by
    obtain ⟨hp, g, d, tk, os⟩ := s
    obtain ⟨hl, h⟩ := h
    have f1 := AutoSeq1.idx_int
    have c1 : (items.isEmpty || (1 : Int) == 1) = true := by simp
    wp_walk using wpAny_loadPart' hl
    repeat (first
      | (refine wpAny_ite_false (decide_eq_false (by decide)) ?_; wp_walk using wpAny_loadPart' hl)
      | (refine wpAny_ite_true (decide_eq_true (by rw [c1])) ?_; wp_walk using wpAny_loadPart' hl))
    exact ⟨_, rfl, h⟩
end
end PL
namespace PL
open PySem PySem.Spec PyProof.Rows L2 RZ
open PySem.W (Frag)
section
variable {X : Cx} {T : Tb} {W : WX}
/-- t * 1 is t -/
def rRep1 (K : Frag) : R2 := fun x y H Q => ∃ l xs, x = .ref l ∧ y = .int 1 ∧ SqT K H l xs ∧ Q (.ref l) H
theorem op_rep1 : OpR X (binaryOp .Mult) (rRep1 X.K) := by
  intro pins s σ H x y v u Q I rx ry h
  obtain ⟨l, xs, rfl, rfl, hT, q⟩ := h
  cases rx
  obtain ⟨t, rfl⟩ := ry
  obtain ⟨its, r, ⟨⟨cls, dd, data, sl⟩, ho, hc, n, hd⟩, hs⟩ := I.tuple hT
  simp only at hc hd
  subst hc hd
  refine wpAny_binaryOp_repeat_ref (T := "tuple") (U := "int") (by decide) ⟨_, ho, rfl⟩ (fun s' => typeIs_int s' 1 t) noFill_tuple_mul F.fills_int_mul F.slot_int_rmul repeat_tuple F.slot_int_index.lookup
    (call_meets F.slot_int_rmul (typeIs_int s 1 t) F.entry_int_rmul (F.args_int_rmul_2 _ _) (int_rmul_tuple 1 t l its.toArray n dd sl)
      ⟨ho, rfl, ⟨_, ho, rfl⟩, call_meets F.slot_tuple_mul ⟨_, ho, rfl⟩ F.entry_tuple_mul (F.args_tuple_mul_2 _ _) (tuple_mul1 l its.toArray n dd sl t) ⟨ho, ?_⟩⟩)
  exact ⟨.ref l, H, I, rfl, q⟩
theorem rps_rep {K : Frag} {G : Hp} {vs : List V} {ds : List D} (r : Rps K G vs ds) : ∀ n, Rps K G (List.replicate n vs).flatten (repD n ds)
  | 0 => .nil
  | n + 1 => by
    have e1 : (List.replicate (n + 1) vs).flatten = vs ++ (List.replicate n vs).flatten := by rw [List.replicate_succ, List.flatten_cons]
    have e2 : repD (n + 1) ds = ds ++ repD n ds := by unfold repD; rw [List.replicate_succ, List.flatten_cons]
    rw [e1, e2]
    exact r.append (rps_rep r n)
theorem flat_len {α : Type} (n : Nat) (xs : List α) : (List.replicate n xs).flatten.length = n * xs.length := by
  induction n with
  | zero => simp
  | succ n ih => rw [List.replicate_succ, List.flatten_cons, List.length_append, ih, Nat.succ_mul]; omega
theorem ox_mul : OpX X (binaryOp .Mult) opMul := by
  intro d e z h
  unfold opMul at h
  split at h
  · rename_i i j
    obtain ⟨hc, e⟩ := if_some h
    subst e
    have hc' : CMul i j := by
      unfold smallMul at hc
      simp only [Bool.or_eq_true, Bool.and_eq_true, decide_eq_true_eq] at hc
      exact hc
    exact ⟨_, op_mul, fun G H x y Q su rx ry use => by rw [rp_int rx, rp_int ry]; exact ⟨_, _, rfl, rfl, hc', use _ _ _ (Grow.refl su) (.int _)⟩⟩
  · rename_i xs k
    obtain ⟨⟨h0, h1, h2, h3⟩, e⟩ := if_some h
    subst e
    by_cases hk : k = 1
    · subst hk
      refine ⟨_, op_rep1, fun G H x y Q su rx ry use => ?_⟩
      cases rx with
      | tup ht hz r =>
        rw [rp_int ry]
        have e1 : repD (Int.toNat 1) xs = xs := by unfold repD; simp
        rw [e1] at use
        exact ⟨_, _, rfl, rfl, su.sqt ht, use _ _ _ (Grow.refl su) (.tup ht hz r)⟩
    · refine ⟨_, op_repT, fun G H x y Q su rx ry use => ?_⟩
      cases rx with
      | tup ht hz r =>
        rename_i a us
        rw [rp_int ry]
        have hus : us ≠ [] := fun z => h0 ((rps_nil_iff r).mp z)
        refine ⟨a, k, us, rfl, rfl, su.sqt ht, hus, by omega, h2, by rw [r.length]; exact h3, fun p hp => ?_⟩
        have g := Grow.new (o := .tup (List.replicate k.toNat us).flatten) su hp
        have hle : (List.replicate k.toNat us).flatten.length ≤ sizeLine := by
          rw [flat_len, r.length, sizeLine_eq]
          have a1 : k.toNat * xs.length ≤ 1000 * 1000 := Nat.mul_le_mul (by omega) h3
          omega
        exact use _ _ _ g (.tup (SqT.of upd_same) hle ((rps_rep r k.toNat).mono g.gs))
  · rename_i xs k
    obtain ⟨⟨h1, h2, h3⟩, e⟩ := if_some h
    subst e
    refine ⟨_, op_rep, fun G H x y Q su rx ry use => ?_⟩
    cases rx with
    | lst ht hz r =>
      rename_i a us
      rw [rp_int ry]
      refine ⟨a, k, us, rfl, rfl, su _ _ ht, h1, h2, by rw [r.length]; exact h3, fun p hp => ?_⟩
      have g := Grow.new (o := .lst (List.replicate k.toNat us).flatten) su hp
      have hle : (List.replicate k.toNat us).flatten.length ≤ sizeLine := by
        rw [flat_len, r.length, Nat.mul_comm]; exact h3
      exact use _ _ _ g (.lst upd_same hle ((rps_rep r k.toNat).mono g.gs))
  · cases h
/-! ### comparisons -/
theorem ox_cmpI {op : CmpOp} {p : Int → Int → Bool} (h : OpR X (compareOp op) (rI0 fun i j => .bl (p i j))) {f : D → D → Option D} (hf : ∀ d e z, f d e = some z → ∃ i j, d = .int i ∧ e = .int j ∧ z = .bool (p i j)) : OpX X (compareOp op) f := by
  intro d e z hz
  obtain ⟨i, j, rfl, rfl, rfl⟩ := hf d e z hz
  exact ⟨_, h, fun G H x y Q su rx ry use => by rw [rp_int rx, rp_int ry]; exact ⟨_, _, rfl, rfl, use _ _ _ (Grow.refl su) (.bl _)⟩⟩
theorem ox_lt : OpX X (compareOp .Lt) cmpLt := ox_cmpI op_lt fun d e z h => by
  unfold cmpLt at h
  split at h
  · cases h; exact ⟨_, _, rfl, rfl, rfl⟩
  · cases h
theorem ox_le : OpX X (compareOp .LtE) cmpLe := ox_cmpI op_le fun d e z h => by
  unfold cmpLe at h
  split at h
  · cases h; exact ⟨_, _, rfl, rfl, rfl⟩
  · cases h
theorem ox_gt : OpX X (compareOp .Gt) cmpGt := ox_cmpI op_gt fun d e z h => by
  unfold cmpGt at h
  split at h
  · cases h; exact ⟨_, _, rfl, rfl, rfl⟩
  · cases h
theorem ox_ge : OpX X (compareOp .GtE) cmpGe := ox_cmpI op_ge fun d e z h => by
  unfold cmpGe at h
  split at h
  · cases h; exact ⟨_, _, rfl, rfl, rfl⟩
  · cases h
mutual
theorem noD_of_lay : ∀ d : D, d.canLay0 = true → noD d = true
  | .none, _ => rfl
  | .bool _, _ => rfl
  | .int _, _ => rfl
  | .str _, _ => rfl
  | .list xs, h => noDs_of_lay xs h
  | .tuple xs, h => noDs_of_lay xs h
  | .dict _, h => by cases h
theorem noDs_of_lay : ∀ ds : List D, PyData.canLayAll0 ds = true → noDs ds = true
  | [], _ => rfl
  | d :: ds, h => by
    have h' := Bool.and_eq_true_iff.mp h
    show (noD d && noDs ds) = true
    rw [noD_of_lay d h'.1, noDs_of_lay ds h'.2]; rfl
end
theorem shaped_dp {K : Frag} {G H : Hp} (su : Sub G H) {v : V} {d : D} (r : Rp K G v d) (h : SeqAt.shaped d = true) : Dp K H v d := dp_mono su (r.dp (noD_of_lay d (SeqAt.canLay_of_shaped h)))
theorem ox_eq (hu : X.A.units + 64 < cLine) : OpX X (compareOp .Eq) cmpEq := by
  intro d e z h
  obtain ⟨⟨h1, h2⟩, rfl⟩ := if_some h
  exact ⟨_, op_eqD hu, fun G H x y Q su rx ry use => ⟨d, e, shaped_dp su rx h1, shaped_dp su ry h2, h1, h2, use _ _ _ (Grow.refl su) (.bl _)⟩⟩
theorem ox_ne (hu : X.A.units + 64 < cLine) : OpX X (compareOp .NotEq) cmpNe := by
  intro d e z h
  obtain ⟨⟨h1, h2⟩, rfl⟩ := if_some h
  exact ⟨_, op_neD hu, fun G H x y Q su rx ry use => ⟨d, e, shaped_dp su rx h1, shaped_dp su ry h2, h1, h2, use _ _ _ (Grow.refl su) (.bl _)⟩⟩
theorem non_iff {K : Frag} {G : Hp} {v : V} {d : D} (r : Rp K G v d) : decide (v = V.non) = isNone d := by
  cases r <;> first | rfl | exact decide_eq_false (fun z => by cases z)
theorem ox_is : OpX X (compareOp .Is) cmpIs := by
  intro d e z h
  unfold cmpIs at h
  split at h
  · cases h
    exact ⟨_, op_isN, fun G H x y Q su rx ry use => ⟨rp_non ry, by rw [non_iff rx]; exact use _ _ _ (Grow.refl su) (.bl _)⟩⟩
  · cases h
    exact ⟨_, op_is_bl, fun G H x y Q su rx ry use => ⟨_, _, rp_bl rx, rp_bl ry, use _ _ _ (Grow.refl su) (.bl _)⟩⟩
  · cases h
theorem ox_isnot : OpX X (compareOp .IsNot) cmpIsNot := by
  intro d e z h
  unfold cmpIsNot at h
  split at h
  · cases h
    exact ⟨_, op_notN, fun G H x y Q su rx ry use => ⟨rp_non ry, by rw [non_iff rx]; exact use _ _ _ (Grow.refl su) (.bl _)⟩⟩
  · cases h
    exact ⟨_, op_isnot_bl, fun G H x y Q su rx ry use => ⟨_, _, rp_bl rx, rp_bl ry, use _ _ _ (Grow.refl su) (.bl _)⟩⟩
  · cases h
theorem flat_v {K : Frag} {G : Hp} {v : V} {d : D} (r : Rp K G v d) (h : flatD d = true) : flatV v = true := by
  cases r <;> first | rfl | cases h
theorem flats_v {K : Frag} {G : Hp} : ∀ {vs : List V} {ds : List D}, Rps K G vs ds → ds.all flatD = true → vs.all flatV = true
  | _, _, .nil, _ => rfl
  | _, _, .cons a r, h => by
    rw [List.all_cons, Bool.and_eq_true] at h ⊢
    exact ⟨flat_v a h.1, flats_v r h.2⟩
theorem eq_v {K : Frag} {G : Hp} {v w : V} {d e : D} (r : Rp K G v d) (q : Rp K G w e) (h : flatD d = true) (h' : flatD e = true) : eqV v w = PyData.eqv d e := by
  cases d <;> first | exact absurd h Bool.false_ne_true | (cases e <;> first | exact absurd h' Bool.false_ne_true | (cases r; cases q; simp [eqV, PyData.eqv]))
theorem any_v {K : Frag} {G : Hp} {x : V} {d : D} (rx : Rp K G x d) (h : flatD d = true) : ∀ {vs : List V} {ds : List D}, Rps K G vs ds → ds.all flatD = true → (vs.any fun y => eqV y x) = ds.any fun z => PyData.eqv z d
  | _, _, .nil, _ => rfl
  | _, _, .cons a r, hs => by
    rw [List.all_cons, Bool.and_eq_true] at hs
    rw [List.any_cons, List.any_cons, eq_v a rx hs.1 h, any_v rx h r hs.2]
theorem ox_in (hu : X.A.units + 65 < cLine) : OpX X (compareOp .In) cmpIn := by
  intro d e z h
  obtain ⟨b, hb, rfl⟩ := Option.map_eq_some_iff.mp h
  unfold inD at hb
  split at hb
  · rename_i es
    obtain ⟨⟨h1, h2⟩, rfl⟩ := if_some hb
    exact ⟨_, op_inD hu, fun G H x y Q su rx ry use => ⟨d, es, shaped_dp su rx h1, shaped_dp su ry h2, h1, h2, use _ _ _ (Grow.refl su) (.bl _)⟩⟩
  · rename_i es
    obtain ⟨⟨h1, h2⟩, rfl⟩ := if_some hb
    refine ⟨_, op_in_seq, fun G H x y Q su rx ry use => ?_⟩
    cases ry with
    | tup ht hz r =>
      rename_i a us
      refine ⟨a, us, rfl, .inr (su.sqt ht), flat_v rx h1, flats_v r h2, ?_⟩
      show Q (.bl (us.any fun y => eqV y x)) H
      rw [any_v rx h1 r h2]
      exact use _ _ _ (Grow.refl su) (.bl _)
  · cases hb
theorem ox_notin (hu : X.A.units + 65 < cLine) : OpX X (compareOp .NotIn) cmpNotIn := by
  intro d e z h
  obtain ⟨b, hb, rfl⟩ := Option.map_eq_some_iff.mp h
  unfold inD at hb
  split at hb
  · rename_i es
    obtain ⟨⟨h1, h2⟩, rfl⟩ := if_some hb
    exact ⟨_, op_notInD hu, fun G H x y Q su rx ry use => ⟨d, es, shaped_dp su rx h1, shaped_dp su ry h2, h1, h2, use _ _ _ (Grow.refl su) (.bl _)⟩⟩
  · rename_i es
    obtain ⟨⟨h1, h2⟩, rfl⟩ := if_some hb
    refine ⟨_, op_notIn_seq, fun G H x y Q su rx ry use => ?_⟩
    cases ry with
    | tup ht hz r =>
      rename_i a us
      refine ⟨a, us, rfl, .inr (su.sqt ht), flat_v rx h1, flats_v r h2, ?_⟩
      show Q (.bl (!(us.any fun y => eqV y x))) H
      rw [any_v rx h1 r h2]
      exact use _ _ _ (Grow.refl su) (.bl _)
  · cases hb
/-! ### built-in functions -/
def fLen : List D → Option D
  | [.list ds] => some (.int ds.length)
  | [.tuple ds] => some (.int ds.length)
  | [.str x] => if x.length ≤ sizeLine then some (.int x.length) else none
  | _ => none
def bools : List D → Option (List Bool)
  | [] => some []
  | .bool b :: r => (bools r).map (b :: ·)
  | _ => none
def fAll : List D → Option D
  | [.list ds] => (bools ds).map fun bs => .bool (bs.all id)
  | _ => none
def fAny : List D → Option D
  | [.list ds] => (bools ds).map fun bs => .bool (bs.any id)
  | _ => none
def fTuple : List D → Option D
  | [.list ds] => some (.tuple ds)
  | [.tuple ds] => some (.tuple ds)
  | _ => none
def fList : List D → Option D
  | [.list ds] => some (.list ds)
  | [.tuple ds] => some (.list ds)
  | _ => none
def fInt : List D → Option D
  | [.int i] => some (.int i)
  | [.bool b] => some (.int (if b then 1 else 0))
  | _ => none
def fAbs : List D → Option D
  | [.int i] => some (.int (if i < 0 then -i else i))
  | _ => none
theorem bools_map : ∀ {ds : List D} {bs : List Bool}, bools ds = some bs → ds = bs.map PyData.bool
  | [], _, h => by cases h; rfl
  | d :: r, bs, h => by
    cases d with
    | bool b =>
      obtain ⟨cs, hc, rfl⟩ := Option.map_eq_some_iff.mp h
      rw [bools_map hc]; rfl
    | _ => cases h
theorem cx_len : CaX X (.builtin "len") fLen := by
  intro ds z h
  unfold fLen at h
  split at h
  · cases h
    refine ⟨_, call_len_seq, fun G H xs Q su rs use => ?_⟩
    cases rs with
    | cons r rn =>
      cases rn
      cases r with
      | lst h1 hz r =>
        refine ⟨_, _, rfl, .inl (su.lql h1).sq, ?_⟩
        rw [r.length]
        exact use _ _ _ (Grow.refl su) (.int _)
  · cases h
    refine ⟨_, call_len_seq, fun G H xs Q su rs use => ?_⟩
    cases rs with
    | cons r rn =>
      cases rn
      cases r with
      | tup h1 hz r =>
        refine ⟨_, _, rfl, .inr (su.sqt h1), ?_⟩
        rw [r.length]
        exact use _ _ _ (Grow.refl su) (.int _)
  · obtain ⟨hl, rfl⟩ := if_some h
    refine ⟨_, call_len_str, fun G H xs Q su rs use => ?_⟩
    rw [Rps.strs (ns := [_]) rs]
    exact ⟨_, rfl, hl, use _ _ _ (Grow.refl su) (.int _)⟩
  · cases h
theorem cx_all (hc : X.calm = true) : CaX X (.builtin "all") fAll := by
  intro ds z h
  unfold fAll at h
  split at h
  · obtain ⟨bs, hb, rfl⟩ := Option.map_eq_some_iff.mp h
    refine ⟨_, cr_all hc, fun G H xs Q su rs use => ?_⟩
    cases rs with
    | cons r rn =>
      cases rn
      cases r with
      | lst h1 hz r =>
        have e := bools_map hb
        subst e
        have e2 := Rps.bools r
        subst e2
        exact ⟨_, bs, rfl, (su.lql h1).sq, use _ _ _ (Grow.refl su) (.bl _)⟩
  · cases h
theorem cx_any (hc : X.calm = true) : CaX X (.builtin "any") fAny := by
  intro ds z h
  unfold fAny at h
  split at h
  · obtain ⟨bs, hb, rfl⟩ := Option.map_eq_some_iff.mp h
    refine ⟨_, cr_any hc, fun G H xs Q su rs use => ?_⟩
    cases rs with
    | cons r rn =>
      cases rn
      cases r with
      | lst h1 hz r =>
        have e := bools_map hb
        subst e
        have e2 := Rps.bools r
        subst e2
        exact ⟨_, bs, rfl, (su.lql h1).sq, use _ _ _ (Grow.refl su) (.bl _)⟩
  · cases h
theorem cx_tuple : CaX X (.type "tuple") fTuple := by
  intro ds z h
  unfold fTuple at h
  split at h
  · cases h
    refine ⟨_, call_tuple_of, fun G H xs Q su rs use => ?_⟩
    cases rs with
    | cons r rn =>
      cases rn
      cases r with
      | lst h1 hz r =>
        rename_i a us
        refine ⟨a, us, rfl, .inl ⟨(su.lql h1).sq, fun l hl => ?_⟩⟩
        have g := Grow.new (o := .tup us) su hl
        exact use _ _ _ g (.tup (SqT.of upd_same) hz (r.mono g.gs))
  · cases h
    refine ⟨_, call_tuple_of, fun G H xs Q su rs use => ?_⟩
    cases rs with
    | cons r rn =>
      cases rn
      cases r with
      | tup h1 hz r => exact ⟨_, _, rfl, .inr ⟨su.sqt h1, use _ _ _ (Grow.refl su) (.tup h1 hz r)⟩⟩
  · cases h
theorem nx_list : CnX X (.type "list") fList := by
  intro ds z h
  unfold fList at h
  split at h
  · cases h
    refine ⟨_, call_list_of, fun G H xs Q su rs use => ?_⟩
    cases rs with
    | cons r rn =>
      cases rn
      cases r with
      | lst h1 hz r => exact ⟨_, _, rfl, .inl (su.lql h1).sq, fun l hl => use _ _ l _ (Grow.refl su) hl (.lst hz r)⟩
  · cases h
    refine ⟨_, call_list_of, fun G H xs Q su rs use => ?_⟩
    cases rs with
    | cons r rn =>
      cases rn
      cases r with
      | tup h1 hz r => exact ⟨_, _, rfl, .inr (su.sqt h1), fun l hl => use _ _ l _ (Grow.refl su) hl (.lst hz r)⟩
  · cases h
theorem cx_int : CaX X (.type "int") fInt := by
  intro ds z h
  unfold fInt at h
  split at h
  · cases h
    refine ⟨_, call_int1, fun G H xs Q su rs use => ?_⟩
    rw [Rps.ints (ns := [_]) rs]
    exact .inl ⟨_, rfl, use _ _ _ (Grow.refl su) (.int _)⟩
  · cases h
    refine ⟨_, call_int1, fun G H xs Q su rs use => ?_⟩
    rw [Rps.bools (ns := [_]) rs]
    exact .inr ⟨_, rfl, use _ _ _ (Grow.refl su) (.int _)⟩
  · cases h
theorem cx_abs : CaX X (.builtin "abs") fAbs := by
  intro ds z h
  unfold fAbs at h
  split at h
  · cases h
    refine ⟨_, call_abs, fun G H xs Q su rs use => ?_⟩
    rw [Rps.ints (ns := [_]) rs]
    exact ⟨_, rfl, use _ _ _ (Grow.refl su) (.int _)⟩
  · cases h
/-! ### isinstance(x, T), T a built-in class -/
def tyName : D → String
  | .none => "NoneType"
  | .bool _ => "bool"
  | .int _ => "int"
  | .str _ => "str"
  | .list _ => "list"
  | .tuple _ => "tuple"
  | .dict _ => "dict"
def misi (ty : String) (m : M D) : M D := mbind m fun d => mlift ((kitB (tyName d) ty).map .bool)
theorem ty_of {K : Frag} {G H : Hp} (su : Sub G H) {v : V} {d : D} (r : Rp K G v d) : TyX K H v (.type (tyName d)) := by
  cases r with
  | non => exact .base .non
  | bl b => exact .base (.bl b)
  | int i => exact .base (.int i)
  | str x => exact .base (.str x)
  | lst h _ _ => exact .base (.lst (su _ _ h))
  | tup h _ _ =>
    rcases h with (h | ⟨o, h⟩) | ⟨o, its, n, h, hc, _⟩
    · exact .base (.tup (su _ _ h))
    · exact .fTuple (su _ _ h)
    · exact .kTuple h hc
  | dic h _ => exact .base (.dK (su _ _ h))
theorem pd_isi {e : Expr} {ty x : Str} {tyS : String} {p p2 pos : Pos} {m : M D} (he : PD X T W e m) (hg : Gl X "isinstance") (hm : X.mg "isinstance" = none) (ht : PE X (.Name x p2) (tC (.ty tyS)))
    (hst : starEach (e :: [.Name x p2]) X.env = (false, eval e X.env) :: starEach [.Name x p2] X.env := by rfl) (hst2 : starEach (.Name x p2 :: []) X.env = (false, eval (.Name x p2) X.env) :: starEach [] X.env := by rfl) (hpl : (backTo pos (starEach [.Name x p2] X.env)).any (·.1) = false := by rfl) :
    PD X T W (.Call (.Name "isinstance" p) [e, .Name x p2] [] pos) (misi tyS m) := by
  obtain ⟨t, et, qt⟩ := he
  refine ⟨_, pe_callB call_isi hg hm boot_isinstance (pa_cons et (pa_cons ht pa_nil hst2) hst) (by decide) (by decide) hst hpl, fun G H σ ρ Q s q => qt G H σ ρ _ s (q.bind.mono fun d ρ1 G1 H1 a1 q1 v rv => ?_)⟩
  obtain ⟨z, hz, q2⟩ := q1.lift1
  obtain ⟨b, hb, rfl⟩ := Option.map_eq_some_iff.mp hz
  exact ⟨v, .ty tyS, _, _, b, rfl, .ty tyS, ty_of a1.sr.sub rv, kit_ty hb, q2 _ _ (AftE.refl a1.sr) _ (.bl b)⟩
/-! ### x[i] -/
def fIx : D → D → Option D
  | .list ds, .int i => atI ds i
  | .tuple ds, .int i => atI ds i
  | _, _ => none
theorem atI_rp {K : Frag} {G : Hp} {vs : List V} {ds : List D} (r : Rps K G vs ds) {i : Int} {d : D} (h : atI ds i = some d) : ∃ v, atI vs i = some v ∧ Rp K G v d := by
  unfold atI at h ⊢
  obtain ⟨j, hj, e⟩ := Option.bind_eq_some_iff.mp h
  obtain ⟨v, hv, rv⟩ := r.get e
  exact ⟨v, by rw [r.length, hj]; exact hv, rv⟩
theorem ix_seq' : IxX X fIx := by
  intro d e z h
  unfold fIx at h
  split at h
  · refine ⟨_, ix_list, fun G H x y Q su rx ry use => ?_⟩
    cases rx with
    | lst h1 hz r =>
      obtain ⟨v, hv, rv⟩ := atI_rp r h
      exact ⟨_, _, _, v, rfl, rp_int ry, (su.lql h1).sq, hv, use _ _ _ (Grow.refl su) rv⟩
  · refine ⟨_, ix_tup, fun G H x y Q su rx ry use => ?_⟩
    cases rx with
    | tup h1 hz r =>
      obtain ⟨v, hv, rv⟩ := atI_rp r h
      exact ⟨_, _, _, v, rfl, rp_int ry, su.sqt h1, hv, use _ _ _ (Grow.refl su) rv⟩
  · cases h
/-! ### -x -/
def uNeg : D → Option D
  | .int i => some (.int (-i))
  | _ => none
/-! ### x[a:b] -/
def PPart (X : Cx) (T : Tb) (W : WX) (e : Option Expr) (m : M (Option Int)) : Prop := ∃ t, PO X e t ∧ ∀ (G H : Hp) (σ : L2.St) (ρ : DEnv) (Q : Option Int → Hp → Prop), SR X.K T G H σ ρ → RW (kx X T) W G H σ ρ (m ρ) (fun o _ _ H' => Q o H') → t σ H Q
def dInt : D → Option (Option Int)
  | .int i => some (some i)
  | _ => none
def mpart (m : M D) : M (Option Int) := mbind m fun d => mlift (dInt d)
theorem pp_none : PPart X T W none (mret none) := ⟨_, po_none, fun G H σ ρ Q s q => q.ok s⟩
theorem pp_some {e : Expr} {m : M D} (h : PD X T W e m) : PPart X T W (some e) (mpart m) := by
  obtain ⟨t, et, qt⟩ := h
  refine ⟨_, po_some et, fun G H σ ρ Q s q => qt G H σ ρ _ s (q.bind.mono fun d ρ1 G1 H1 a1 q1 v rv => ?_)⟩
  obtain ⟨z, hz, q2⟩ := q1.lift1
  cases d with
  | int i =>
    cases hz
    exact ⟨i, rp_int rv, q2 _ _ (AftE.refl a1.sr)⟩
  | _ => cases hz
def cutD (ds : List D) (lo hi : Option Int) : List D := (ds.drop (HT.sIx ds.length 0 lo)).take (HT.sIx ds.length ds.length hi - HT.sIx ds.length 0 lo)
def fSlice : D → Option Int → Option Int → Option D
  | .tuple ds, lo, hi => some (.tuple (cutD ds lo hi))
  | .list ds, lo, hi => some (.list (cutD ds lo hi))
  | _, _, _ => none
def mslice (m : M D) (lo hi : M (Option Int)) : M D := mbind m fun d => mbind lo fun l => mbind hi fun h => mlift (fSlice d l h)
def slU (X : Cx) : V → Option Int → Option Int → Hp → VK → Prop := fun x lo hi H Q => rSlA X.K x lo hi H Q ∨ rSlL X.K x lo hi H Q
theorem cut_rp {K : Frag} {G : Hp} {vs : List V} {ds : List D} (r : Rps K G vs ds) (lo hi : Option Int) : Rps K G (cutV vs lo hi) (cutD ds lo hi) := by
  unfold cutV cutD
  rw [r.length]
  exact (r.drop _).take _
theorem cutV_le {vs : List V} (lo hi : Option Int) (h : vs.length ≤ sizeLine) : (cutV vs lo hi).length ≤ sizeLine := Nat.le_trans (cutV_length vs lo hi) h
theorem cutV_whole {vs : List V} {lo hi : Option Int} (h : HT.sIx vs.length 0 lo = 0 ∧ HT.sIx vs.length vs.length hi = vs.length) : cutV vs lo hi = vs := by
  unfold cutV
  rw [h.1, h.2]
  simp
theorem pd_slice {e : Expr} {lo hi : Option Expr} {p2 pos : Pos} {m : M D} {ml mh : M (Option Int)} (he : PD X T W e m) (hl : PPart X T W lo ml) (hh : PPart X T W hi mh) : PD X T W (.Subscript e (.Slice lo hi none p2) pos) (mslice m ml mh) := by
  obtain ⟨t, et, qt⟩ := he
  obtain ⟨tl, el, ql⟩ := hl
  obtain ⟨th, eh, qh⟩ := hh
  refine ⟨_, pe_slice (SlR.or sl_tupA sl_list) et el eh, fun G H σ ρ Q s q => qt G H σ ρ _ s (q.bind.mono fun d ρ1 G1 H1 a1 q1 v rv => ql G1 H1 σ ρ1 _ a1.sr (q1.bind.mono fun l ρ2 G2 H2 a2 q2 => qh G2 H2 σ ρ2 _ a2.sr (q2.bind.mono fun u ρ3 G3 H3 a3 q3 => ?_)))⟩
  obtain ⟨z, hz, q4⟩ := q3.lift1
  have su := a3.sr.sub
  have rv := (rv.mono a2.gs).mono a3.gs
  cases d with
  | tuple ds =>
    cases hz
    cases rv with
    | tup h1 hz r =>
      rename_i a us
      refine .inl ⟨a, us, rfl, su.sqt h1, fun hw => ?_, fun hw p hp => ?_⟩
      · have r2 := cut_rp r l u
        rw [cutV_whole hw] at r2
        exact q4 _ _ (AftE.refl a3.sr) _ (.tup h1 hz r2)
      · have g := Grow.new (o := .tup (cutV us l u)) su hp
        exact q4 _ _ (a3.sr.afterE g) _ (.tup (SqT.of upd_same) (cutV_le l u hz) ((cut_rp r l u).mono g.gs))
  | list ds =>
    cases hz
    cases rv with
    | lst h1 hz r =>
      rename_i a us
      refine .inr ⟨a, us, rfl, (su.lql h1).sq, fun p hp => ?_⟩
      have g := Grow.new (o := .lst (cutV us l u)) su hp
      exact q4 _ _ (a3.sr.afterE g) _ (.lst upd_same (cutV_le l u hz) ((cut_rp r l u).mono g.gs))
  | _ => cases hz
end
end PL
namespace PL
open PySem PySem.Spec PyProof.Rows L2 RZ LamX
open PySem.W (Frag)
/-! ### raise C() -/
section
variable {X : Cx} {C : Addr} {bmB : List Value} {B newId initId : String}
theorem pmk_own0 {x : Str} {p pos : Pos} (F : ExcBaseFacts B newId initId bmB) (q : PySem.W.excIn X.K C bmB newId = true) (gC : X.mg x = some (.ref C)) (kC : PySem.W.keepIn X.K (.ref C) = true) (r : Raises X (.ref C)) (hg : Gl X x)
    (hdb : (x == ("__debug__" : Str)) = false := by decide) : PMk X (.Call (.Name x p) [] [] pos) (fun _ H Q => Q (.ref C) none H) := by
  intro pins s σ H Q I h
  refine wpAny_Call_Name_kw (ld_glob I hg gC ?_ hdb)
  refine PySem.W.callWith_K0 I.kIn kC ?_
  show wpAny _ _ (call (.ref C) []) _ _ _
  obtain ⟨bm, N, nm, qn, bs, hdct, sn, sub, ab, col, dd, k0, k1, k2, k3, k5, mN, hC, hN, hni, T⟩ := exc_obj I.kIn q
  obtain ⟨hp1, g1, d1, tk1, os1⟩ := s
  refine wpAny_call_exc_subT F T hC hN hni (fun h' e hm => ?_) (Nat.zero_le _)
  exact mk_of I hm r h (I.hok.gone hm.new)
end
/-- what is known of an own error class without fields at C -/
structure ExcF (K : Frag) (mg : Str → Option Value) (x : Str) (C : Addr) : Prop where
  g : mg x = some (.ref C)
  q : PySem.W.excIn K C [.type "ValueError", .type "Exception", .type "BaseException", .type "object"] "ValueError.__new__" = true
  k : PySem.W.keepIn K (.ref C) = true
  b : PySem.W.subIn K (.ref C) (.type "BaseException") = some true
  t : PySem.W.typeIn K (.ref C) = some (.type "type")
section
variable {X : Cx} {T : Tb} {W : WX}
def sraise (c : Str) : MS := fun ρ => .err c ρ
theorem pds_raise {x : Str} {C : Addr} {p pos pos2 : Pos} (hc : X.calm = true) (tk : Takes X W) (F : ExcF X.K X.mg x C) (hg : Gl X x) (hdb : (x == ("__debug__" : Str)) = false := by decide) : PDs X T W (.Raise (some (.Call (.Name x p) [] [] pos)) none pos2) (sraise x) :=
  ⟨_, ps_raise hc tk (pmk_own0 PySem.F.excBase_ValueError F.q F.g F.k (raises_own F.b F.t) hg hdb), fun G H σ ρ E s q => q G H σ C (After.refl s) F.g⟩
/-! ### a statement without tables is a statement -/
end
/-! ### _law_word(lambda: e) -/
/-- what the clauses make of an error -/
def hW (K : Frag) (hs : List (Addr × Str)) (Q : V → Hp → Prop) : XK := fun cls _ H => match hs with
  | [] => False
  | (C, r) :: t => ∃ b, PySem.W.exmOne K cls (.ref C) = some b ∧ (b = true → Q (.str r) H) ∧ (b = false → hW K t Q cls none H)
def TWord (K : Frag) (l : Str) (hs : List (Addr × Str)) : (XK → Hp → VK → Prop) → Hp → VK → Prop := fun tl H Q => ∀ NX : VK, (∀ v H', Q (.str l) H' → NX v H') → tl (fun cls d H' => hW K hs Q cls d H') H NX
theorem takes_len {X : Cx} {W : WX} (tk : Takes X W) : Takes X (fun c d σ H => σ.length = X.N.length → W c d σ H) := fun u s' ⟨a, B, sI, pins, σ, H, cls, d, e, I, nb, up, sky, na, os, ag, w⟩ =>
  tk u s' ⟨a, B, sI, pins, σ, H, cls, d, e, I, nb, up, sky, na, os, ag, w I.len⟩
/-- the clauses: except x: v = 'r' -/
inductive Hds (X : Cx) (v : Str) : List ExceptHandler → List (Addr × Str) → Prop
  | nil : Hds X v [] []
  | cons {x r : Str} {C : Addr} {j : Nat} {np p1 p2 p3 pos' : Pos} {hds : List ExceptHandler} {l : List (Addr × Str)} (hc : Names X x (.ref C)) (t : Hds X v hds l) :
      Hds X v (.ExceptHandler (some (.Name x np)) none [.Assign [.Name v p1] (.Constant (.str r) j p2) p3] pos' :: hds) ((C, r) :: l)
def tsW (r : Str) : Addr → Value → Option Addr → TS := fun _ _ _ => tAsg (tC (.str r)) (gName 1)
theorem Hds.ok {X : Cx} {v : Str} (hN : X.N.Nodup) (hv : X.N[1]? = some v) (hl : X.env.scope.names.lookup v = some .local) : ∀ {hds : List ExceptHandler} {l : List (Addr × Str)}, Hds X v hds l → HdsOk X hds (l.map fun p => (.ref p.1, tsW p.2))
  | _, _, .nil => .nil
  | _, _, .cons hc t => .cons hc (fun a oe cls d pn _ _ => pss_one (ps_set (i := 1) (X := X.suite a ((a, oe) :: pn)) hN hv (Or.inl hl) pe_str rfl (Or.inr hl))) (Hds.ok hN hv hl t)
theorem wMany_of {K : Frag} {D : Ends} {Q : V → Hp → Prop} {cls : Value} {d : Option Addr} {σ : L2.St} {H : Hp} (hσ : σ.length = 2) (hD : ∀ r σ' H, σ'[1]? = some (some (V.str r)) → Q (.str r) H → D.nx σ' H) : ∀ {l : List (Addr × Str)} {d' : Option Addr}, hW K l Q cls d' H → wMany K (fun _ _ _ _ => False) D (l.map fun p => (.ref p.1, tsW p.2)) cls d σ H
  | [], _, h => h.elim
  | (C, r) :: t, _, h => by
    obtain ⟨b, e, h1, h2⟩ := h
    refine ⟨b, e, fun hb a _ => ?_, fun hb => wMany_of hσ hD (h2 hb)⟩
    exact hD r _ _ (by rw [List.getElem?_set_self (by omega)]) (h1 hb)
theorem word_gives {X : Cx} {x a v l : Str} {sg : Scope} {g : Addr} {cdv : Value} {q : Str} {hds : List ExceptHandler} {h₀ : ExceptHandler} {hl : List (Addr × Str)} {k : Nat} {p1 p2 p3 p4 p5 p6 p7 p8 p9 : Pos} (hv : sg.names.lookup v = some .local) (hnd : ([a, v] : List Str).Nodup)
    (hdv : (v == ("__debug__" : Str)) = false) (hcv : (v == ("__classdict__" : Str)) = false)
    (hh : ∀ s H f, Hds (cxOf C8.CX0 X.prog X.w X.K X.mg X.base [a, v] x sg g cdv X.A X.stack s H f).nox v (h₀ :: hds) hl) :
    GivesTo X [a, v] x sg g cdv [.Assign [.Name v p1] (.Constant (.str l) k p2) p3, .Try [.Expr (.Call (.Name a p4) [] [] p5) p6] (h₀ :: hds) [] [] p7, .Return (some (.Name v p8)) p9] a q (TWord X.K l hl) := by
  intro f c' s H Q tl act hc h
  have hN : (cxOf C8.CX0 X.prog X.w X.K X.mg X.base [a, v] x sg g cdv X.A X.stack s H C8.E0).nox.N.Nodup := hnd
  have tr := ps_try_many (X := (cxOf C8.CX0 X.prog X.w X.K X.mg X.base [a, v] x sg g cdv X.A X.stack s H C8.E0).nox) (pos := p7) (body := [.Expr (.Call (.Name a p4) [] [] p5) p6]) (Wout := fun _ _ _ _ => False) (tb := fun W D σ H => ∃ Ech : XK, (∀ cls d σ' H', Ech cls d H' → σ'.length = 2 → W cls d σ' H') ∧ σ[0]? = some (some (.ref f)) ∧ H c' = some (CodeO c' q) ∧ tl Ech H (fun _ H1 => D.nx σ H1))
      rfl rfl LamX.takes0 (fun W pn xe tk _ => ?_) (Hds.ok hN rfl hv (hh s H C8.E0))
  · have rt : PS (cxOf C8.CX0 X.prog X.w X.K X.mg X.base [a, v] x sg g cdv X.A X.stack s H C8.E0).nox (.Return (some (.Name v p8)) p9) (tRet (tVar 1)) := ps_ret (pe_var rfl (Or.inl hv) hdv hcv)
    have st : PS (cxOf C8.CX0 X.prog X.w X.K X.mg X.base [a, v] x sg g cdv X.A X.stack s H C8.E0).nox (.Assign [.Name v p1] (.Constant (.str l) k p2) p3) (tAsg (tC (.str l)) (gName 1)) := ps_set (i := 1) hN rfl (Or.inl hv) pe_str rfl (Or.inr hv)
    refine ⟨_, pss_cons st (pss_cons tr (pss_one rt)), ?_⟩
    have hD : ∀ (r : Str) (σ' : L2.St) (H : Hp), σ'[1]? = some (some (V.str r)) → Q (.str r) H → tRet (tVar 1) { nx := fun _ H' => Q .non H', rt := Q } σ' H := fun r σ2 H2 e q => ⟨_, e, q⟩
    refine ⟨fun cls d H' => hW X.K hl Q cls d H', fun cls d σ' H' h2 hσ => wMany_of hσ hD h2, rfl, hc, ?_⟩
    have fin : ∀ H1, Q (.str l) H1 → tRet (tVar 1) { nx := fun _ H' => Q .non H', rt := Q } ((L2.start [a, v] [V.ref f]).set 1 (some (.str l))) H1 := fun H1 q => hD l _ H1 rfl q
    exact h _ fun v H' q => fin H' q
  · refine ⟨fun pins s' σ H' D I h' => ?_⟩
    obtain ⟨Ech, hW, h1, h2, h3⟩ := h'
    have hp := act (fun c d σ H => σ.length = 2 → W c d σ H) pn xe Ech p4 p5 (takes_len tk) hW
    have hq := pss_one (ps_expr (pos := p6) hp)
    exact hq.run pins s' σ H' D I ⟨h1, h2, h3⟩
/-! ### _law_word(lambda: e), by data -/
def mword (l : Str) (hs : List (Str × Str)) (m : M D) : M D := fun ρ => match m ρ with
  | .ok _ ρ' => .ok (.str l) ρ'
  | .err c ρ' => (match hs.lookup c with
    | some r => .ok (.str r) ρ'
    | none => .bad)
  | .bad => .bad
/-- the classes at which the clauses' names stand; the others are none of these -/
structure HsOk (k : Kx) (hs : List (Str × Str)) (hl : List (Addr × Str)) : Prop where
  run : ∀ (c r : Str) (C : Addr) (Q : V → Hp → Prop) (H : Hp), k.mg c = some (.ref C) → hs.lookup c = some r → Q (.str r) H → hW k.K hl Q (.ref C) none H
theorem hW_any {K : Frag} {Q : V → Hp → Prop} {cls : Value} {d d' : Option Addr} {H : Hp} : ∀ {hl : List (Addr × Str)}, hW K hl Q cls d H → hW K hl Q cls d' H
  | [], h => h
  | (C, r) :: t, h => h
/-- heaps that part in tables alone -/
theorem SR.lam {k : Kx} {G H H1 : Hp} {σ : L2.St} {ρ : DEnv} (s : SR k.K k.T G H σ ρ) (e : ExtN H H1) (t : Tabs k.T H1) : k.AftE G H σ ρ G H1 ρ := by
  have keep : ∀ b o, H b = some o → (∀ ps, o ≠ .tbl ps) → H1 b = some o := e
  refine ⟨⟨Sub.refl G, ⟨fun b o h => keep b o (s.sub b o h) fun ps z => by subst z; exact s.tab.2 b ps h, s.len, fun i u h => ?_, s.ne, t, s.tab.2⟩, fun b o h nt n => ⟨keep b o h nt, n⟩, fun b o h nt g n => g, fun i d h => ⟨rfl, d, h⟩, fun b o h n => ⟨o, keep b o h n, n⟩⟩, fun i u d h m => ⟨u, d, h, m⟩⟩
  have q := s.sl i u h
  cases u with
  | un => trivial
  | val d => exact q
  | own d =>
    obtain ⟨a, o, e1, h1, h2, r⟩ := q
    exact ⟨a, o, e1, keep a o h1 r.notbl, h2, r⟩
  | io d =>
    obtain ⟨a, o, e1, h1, h2, r⟩ := q
    exact ⟨a, o, e1, keep a o h1 r.notbl, h2, r⟩
/-! ### the rule -/
section
variable {X : Cx} {T : Tb} {W : WX}
abbrev LaI := Around × List Env × Shared × Hp × XK × Addr × Addr
theorem pd_word {x a v l : Str} {g c P : Addr} {k kk : Nat} {pg : Arguments} {sg : Scope} {dV kV doc pm cdv ct oc : Value} {an od : Option Addr} {osl : Array (Option Value)} {hds : List ExceptHandler} {h₀ : ExceptHandler} {hl : List (Addr × Str)} {hs : List (Str × Str)}
    {params : Arguments} {body : Expr} {scope : Scope} {m : M D} {p lpos pos p1 p2 p3 p4 p5 p6 p7 p8 p9 : Pos} (hg : Gl X x) (hm : X.mg x = some (.ref g)) (hk : PySem.W.keepIn X.K (.ref g) = true)
    (lk : X.K.lookup g = some ⟨oc, od, .func (PySem.W.fnOf x x pg [.Assign [.Name v p1] (.Constant (.str l) kk p2) p3, .Try [.Expr (.Call (.Name a p4) [] [] p5) p6] (h₀ :: hds) [] [] p7, .Return (some (.Name v p8)) p9] sg dV kV doc pm an cdv ct), osl⟩) (hcg : PySem.W.codeIn X.K cdv x = true)
    (hb : L2.Binds X.K (PySem.W.fnOf x x pg [.Assign [.Name v p1] (.Constant (.str l) kk p2) p3, .Try [.Expr (.Call (.Name a p4) [] [] p5) p6] (h₀ :: hds) [] [] p7, .Return (some (.Name v p8)) p9] sg dV kV doc pm an cdv ct) [a] []) (Sg : FnScope [a, v] [a] sg) (hva : Vis sg a) (hv : sg.names.lookup v = some .local)
    (hdv : (v == ("__debug__" : Str)) = false) (hcv : (v == ("__classdict__" : Str)) = false)
    (hh : ∀ s H f, Hds (cxOf C8.CX0 X.prog X.w X.K X.mg X.base [a, v] x sg g cdv X.A X.stack s H f).nox v (h₀ :: hds) hl) (ho : HsOk (kx X T) hs hl)
    (TB : TabB X.base X.mg c P) (hcode : X.env.code = .ref c) (hmT : (P, X.env.qual ++ "<lambda>") ∈ T) (hu : ∀ p ∈ T, p.1 = P → p.2 = X.env.qual ++ "<lambda>") (hr : Room (k + 2) X.A) (L : LamS X.env.scope scope) (hdef : defaultsOf params X.env = ([], []))
    (hbind : ∀ (q : Str) (cl : List (Str × Addr)) (pm cv ctv : Value), bindArgs (PySem.W.kla_fn "<lambda>" q params body scope cl pm cv ctv) ⟨[], []⟩ = pure [])
    (hbody : ∀ (A : Around) (outer : List Env) (s : Shared) (H : Hp) (E : XK) (f c' : Addr), Room k (A.deeper (lamEnv X scope s.heap.objs.size f c')) → PD (lamCx X A outer s H E scope f c') T (Wd E) body m)
    (hdb : (x == ("__debug__" : Str)) = false := by decide) (hd : (a == ("__debug__" : Str)) = false := by decide) (hcd : (a == ("__classdict__" : Str)) = false := by decide) :
    PD X T W (.Call (.Name x p) [.Lambda params body scope lpos] [] pos) (mword l hs m) := by
  have gv := word_gives (X := X) (x := x) (cdv := cdv) (g := g) (q := X.env.qual ++ "<lambda>") (k := kk) (p1 := p1) (p2 := p2) (p3 := p3) (p4 := p4) (p5 := p5) (p6 := p6) (p7 := p7) (p8 := p8) (p9 := p9) (l := l) hv Sg.nd hdv hcv hh
  refine ⟨_, pe_lamcall (k := k) (t := fun E σ H Q => ∀ (A : Around) (outer : List Env) (s : Shared) (H0 : Hp) (f c' : Addr), Room k (A.deeper (lamEnv X scope s.heap.objs.size f c')) → ∃ t, PE (lamCx X A outer s H0 E scope f c') body t ∧ t σ H Q) hg hm hk lk hcg hb Sg rfl hva gv TB hcode hmT hu hr L hdef hbind (fun A outer s H E f c' hr2 => ⟨fun pins s' σ H' Q I h => by
      obtain ⟨t, ht, q⟩ := h A outer s H f c' hr2
      exact ht.run pins s' σ H' Q I q⟩) hdb hd hcd, fun G H σ ρ Q s q => ?_⟩
  refine ⟨s.tab.1, fun H1 e t1 NX hNX A outer s0 H0 f c' hr2 => ?_⟩
  obtain ⟨t, et, qt⟩ := hbody A outer s0 H0 _ f c' hr2
  have A1 := SR.lam (k := kx X T) s e t1
  refine ⟨t, et, qt G H1 σ ρ _ A1.sr ?_⟩
  unfold mword at q
  cases hm : m ρ with
  | bad => rw [hm] at q; exact q.elim
  | ok d ρ' =>
    rw [hm] at q
    exact fun G' H' A2 v _ => hNX v H' (q G' H' (A1.trans A2) _ (.str l))
  | err cc ρ' =>
    rw [hm] at q
    intro G' H' C A2 ec
    cases hlk : hs.lookup cc with
    | none => simp only [hlk] at q; exact q.elim
    | some r =>
      simp only [hlk] at q
      exact ho.run cc r C Q H' ec hlk (q G' H' (A1.trans A2) _ (.str r))
end
end PL
namespace PL
open PySem PySem.Spec PyProof.Rows L2 RZ LamX
open PySem.W (Frag)
theorem passW0 {X : Cx} (σ : L2.St) : PassesAt (L2.CX X.prog X.w) X σ (WE W0 σ) := fun _ _ _ _ _ _ ⟨_, _, _, _, _, _, _, _, _, _, _, _, z⟩ => z.elim
theorem hu65 {k : Nat} {A : Around} (hr : Room k A) : A.units + 65 < cLine := by have := hr.un; omega
theorem hu64 {k : Nat} {A : Around} (hr : Room k A) : A.units + 64 < cLine := hr.units
/-- a def as it stands behind the top -/
structure DefF (K : Frag) (mg : Str → Option Value) (x : Str) (st : Stmt) (f : Addr) (fd : FuncData) (ps : List Str) : Prop where
  F : Fun K x x st f fd
  g : mg x = some (.ref f)
  b : Binds K fd ps []
end PL
namespace PL
open PySem PySem.Spec PyProof.Rows L2 RZ LamX
open PySem.W (Frag)
section
variable {X : Cx} {T : Tb} {W : WX}
/-! ### x[k], x a name -/
def mixO2 (i : Nat) (k : D) : M D := fun ρ => match ρ[i]? with
  | some (.own (.list ds)) => mlift (fIx (.list ds) k) ρ
  | some (.io (.list ds)) => mlift (fIx (.list ds) k) ρ
  | _ => .bad
def mixO (i : Nat) (mk : M D) : M D := fun ρ => match ρ[i]? with
  | some (.val d) => mbind mk (fun k => mlift (fIx d k)) ρ
  | some (.own _) => mbind mk (mixO2 i) ρ
  | some (.io _) => mbind mk (mixO2 i) ρ
  | _ => .bad
theorem own_lst {K : Frag} {G : Hp} {o : HO} {ds : List D} (h : HoR K G o (.list ds)) : ∃ xs, o = .lst xs ∧ Rps K G xs ds := by
  cases h with
  | lst _ r => exact ⟨_, rfl, r⟩
theorem mixO2_run {G H : Hp} {σ : L2.St} {ρ : DEnv} {i : Nat} {k : D} {u : V} {a : Addr} {Q : VK} (s : SR X.K T G H σ ρ) (e : σ[i]? = some (some (.ref a)))
    (q : RW (kx X T) W G H σ ρ (mixO2 i k ρ) fun d _ G' H' => ∀ v, Rp X.K G' v d → Q v H') (ru : Rp X.K G u k) : iU X (.ref a) u H Q := by
  have main : ∀ (t : Slot) (ds : List D), ρ[i]? = some t → t.mine = some (.list ds) → RW (kx X T) W G H σ ρ (mlift (fIx (.list ds) k) ρ) (fun d _ G' H' => ∀ v, Rp X.K G' v d → Q v H') → iU X (.ref a) u H Q := fun t ds hi ht q => by
    obtain ⟨b, o, e', h, g, r⟩ := SR.slot_mine (k := kx X T) s hi ht
    rw [e] at e'; cases e'
    obtain ⟨xs, rfl, r2⟩ := own_lst r
    obtain ⟨z, hz, q2⟩ := q.lift1
    cases k with
    | int j =>
      have hz : atI ds j = some z := hz
      obtain ⟨v, hv, rv⟩ := atI_rp r2 hz
      exact ⟨_, ix_list, _, _, _, v, rfl, rp_int ru, SqL.of h, hv, q2 _ _ (AftE.refl s) v rv⟩
    | _ => cases hz
  unfold mixO2 at q
  split at q
  · rename_i ds h; exact main _ ds h rfl q
  · rename_i ds h; exact main _ ds h rfl q
  · exact q.elim
theorem pd_ixO {x : Str} {b : Expr} {p pos : Pos} {i : Nat} {mb : M D} (hx : PE X (.Name x p) (tVar i)) (hb : PD X T W b mb) (hs : PlainIx b := by exact fun _ _ => rfl) : PD X T W (.Subscript (.Name x p) b pos) (mixO i mb) := by
  obtain ⟨tb, eb, qb⟩ := hb
  refine ⟨_, pe_ix (iU_ok X) hx eb hs, fun G H σ ρ Q s q => ?_⟩
  have mine : ∀ (t : Slot) (d : D), ρ[i]? = some t → t.mine = some d → RW (kx X T) W G H σ ρ (mbind mb (mixO2 i) ρ) (fun d _ G' H' => ∀ v, Rp X.K G' v d → Q v H') → tOp (iU X) (tVar i) tb σ H Q := fun t d hi ht q => by
    obtain ⟨a, o, e, h, g, r⟩ := SR.slot_mine (k := kx X T) s hi ht
    refine ⟨_, e, qb G H σ ρ _ s (q.bind.mono fun k ρ1 G1 H1 a1 q1 u ru => ?_)⟩
    exact mixO2_run (k := k) (W := W) a1.sr e q1 ru
  unfold mixO at q
  split at q
  · rename_i d h
    obtain ⟨v, e, rv⟩ := s.sl i _ h
    refine ⟨v, e, qb G H σ ρ _ s (q.bind.mono fun k ρ1 G1 H1 a1 q1 u ru => ?_)⟩
    obtain ⟨z, hz, q2⟩ := q1.lift1
    obtain ⟨r, hr, use⟩ := ix_seq' (X := X) d k z hz
    exact ⟨r, hr, use G1 H1 v u Q a1.sr.sub (rv.mono a1.gs) ru fun G3 H3 w g rw' => q2 G3 H3 (a1.sr.afterE g) w rw'⟩
  · rename_i d h; exact mine _ d h rfl q
  · rename_i d h; exact mine _ d h rfl q
  · exact q.elim
/-! ### -x -/
def mneg (m : M D) : M D := mbind m fun d => mlift (uNeg d)
theorem pd_neg {a : Expr} {pos : Pos} {m : M D} (ha : PD X T W a m) : PD X T W (.UnaryOp .USub a pos) (mneg m) := by
  obtain ⟨t, et, qt⟩ := ha
  refine ⟨_, pe_un un_neg et, fun G H σ ρ Q s q => qt G H σ ρ _ s (q.bind.mono fun d ρ1 G1 H1 a1 q1 v rv => ?_)⟩
  obtain ⟨z, hz, q2⟩ := q1.lift1
  unfold uNeg at hz
  split at hz
  · cases hz
    exact ⟨_, rp_int rv, q2 _ _ (AftE.refl a1.sr) _ (.int _)⟩
  · cases hz
/-! ### defs, by name -/
/-- the def x, by data -/
structure Has (P : Program) (w : World) (K : Frag) (mg : Str → Option Value) (base : Heap) (T : Tb) (k : Nat) (x : Str) (ps : List Str) (F : DEnv → Res D) : Prop where
  ex : ∃ (f : Addr) (fd : FuncData), mg x = some (.ref f) ∧ PySem.W.keepIn K (.ref f) = true ∧ Binds K fd ps [] ∧ FnOk P w K mg base (L2.CX P w) k f fd ps (spD ⟨K, T, mg⟩ ps.length F)
theorem pd_callH {x : Str} {e : Expr} {es : List Expr} {p pos : Pos} {k : Nat} {ps : List Str} {F : DEnv → Res D} {ms : M (List D)} (h : Has X.prog X.w X.K X.mg X.base T k x ps F) (hr : Room k X.A) (hg : Gl X x)
    (hx : ∀ σ, PassesAt (L2.CX X.prog X.w) X σ (WE W σ)) (hn : MLen ms (e :: es).length) (ha : PAs X T W (e :: es) ms) (hl : (e :: es).length = ps.length := by rfl) (hdb : (x == ("__debug__" : Str)) = false := by decide) (he : starEach (e :: es) X.env = (false, eval e X.env) :: starEach es X.env := by rfl) (hpl : (backTo pos (starEach es X.env)).any (·.1) = false := by rfl) :
    PD X T W (.Call (.Name x p) (e :: es) [] pos) (mcallF F ms) := by
  obtain ⟨f, fd, hm, hk, hb, hF⟩ := h.ex
  rw [← hl] at hF
  exact pd_call hF hr hg hm hk hb hx ha hdb he hpl hn
theorem pd_callIoH {x y : Str} {es : List Expr} {p py pos : Pos} {k i : Nat} {ps : List Str} {F : DEnv → Res D} {ms : M (List D)} (h : Has X.prog X.w X.K X.mg X.base T k x ps F) (hr : Room k X.A) (hg : Gl X x)
    (hx : ∀ σ, PassesAt (L2.CX X.prog X.w) X σ (WE W σ)) (hy : PE X (.Name y py) (tVar i)) (hn : MLen ms es.length) (ha : PAs X T W es ms) (hl : (Expr.Name y py :: es).length = ps.length := by rfl) (hdb : (x == ("__debug__" : Str)) = false := by decide)
    (hst : starEach (.Name y py :: es) X.env = (false, eval (.Name y py) X.env) :: starEach es X.env := by rfl) (hpl : (backTo pos (starEach es X.env)).any (·.1) = false := by rfl) :
    PD X T W (.Call (.Name x p) (.Name y py :: es) [] pos) (mcallIo F i ms) := by
  obtain ⟨f, fd, hm, hk, hb, hF⟩ := h.ex
  rw [← hl] at hF
  exact pd_callIo hF hr hg hm hk hb hx hy ha hn hdb hst hpl
end
section
variable {P : Program} {w : World} {K : Frag} {mg : Str → Option Value} {base : Heap} {T : Tb}
/-- a def as it stands behind the top -/
structure DefC (K : Frag) (mg : Str → Option Value) (x : Str) (st : Stmt) (ps : List Str) (cdv : Value) : Prop where
  ex : ∃ (f : Addr) (oc : Value) (od : Option Addr) (kV doc pm : Value) (an : Option Addr) (ct : Value) (osl : Array (Option Value)),
    K.lookup f = some ⟨oc, od, .func (PySem.W.fnOf x x (defArgs st) (defBody st) (defScope st) .none kV doc pm an cdv ct), osl⟩ ∧ PySem.W.codeIn K cdv x = true ∧ PySem.W.keepIn K (.ref f) = true ∧ mg x = some (.ref f) ∧
    Binds K (PySem.W.fnOf x x (defArgs st) (defBody st) (defScope st) .none kV doc pm an cdv ct) ps []
theorem has_D {x : Str} {st : Stmt} {N ps : List Str} {cdv : Value} {k : Nat} {b : MS} (d : DefC K mg x st ps cdv) (S : FnScope N ps (defScope st)) (m : Nat) (hm : m + ps.length = N.length)
    (hbody : ∀ (f : Addr) (A : Around) (outer : List Env) (s : Shared) (H : Hp) (E : XK), Room k (A.deeper (envOfC x (defScope st) s.heap.objs.size f cdv)) →
      PDss (cxOf (L2.CX P w) P w K mg base N x (defScope st) f cdv A outer s H E) T (Wd E) (defBody st) b) :
    Has P w K mg base T (k + 1) x ps (runDef m b) := by
  obtain ⟨f, oc, od, kV, doc, pm, an, ct, osl, lk, hcd, hk, hg, hb⟩ := d.ex
  refine ⟨f, _, hg, hk, hb, ?_⟩
  refine fn_of lk hcd S (fun vs H Q E h => ?_) (fun A outer s H vs Q E hr h => ?_)
  · obtain ⟨G, args, sr, _, hl, _⟩ := h
    have := sr.len
    rw [List.length_map] at this
    omega
  · obtain ⟨G, args, sr, ok, hl, h⟩ := h
    obtain ⟨t, et, qt⟩ := hbody f A outer s H E hr
    have hlen : vs.length = args.length := by have := sr.len; rwa [List.length_map] at this
    refine ⟨t, et, qt G H (L2.start N vs) (args ++ List.replicate m Slot.un) _ (SR.entry (k := ⟨K, T, mg⟩) (m := m) (N := N) sr (by omega)) ?_⟩
    have ex : ∀ {G' H' σ' ρ'}, Kx.Aft ⟨K, T, mg⟩ G H (L2.start N vs) (args ++ List.replicate m .un) G' H' σ' ρ' → Kx.Aft ⟨K, T, mg⟩ G H (vs.map some) args G' H' (vs.map some) (outs args ρ') := fun a => After.exit (k := ⟨K, T, mg⟩) sr ok a
    unfold runDef at h
    cases hb : b (args ++ List.replicate m .un) with
    | next ρ' => rw [hb] at h; exact fun G' H' σ' a => h G' H' .non (ex a) .non
    | ret d ρ' => rw [hb] at h; exact fun G' H' σ' v a rv => h G' H' v (ex a) rv
    | err c ρ' => rw [hb] at h; exact fun G' H' σ' C a e => h G' H' C (ex a) e
    | brk ρ' => rw [hb] at h; exact h.elim
    | cont ρ' => rw [hb] at h; exact h.elim
    | bad => rw [hb] at h; exact h.elim
end
end PL
namespace PL
open PySem PySem.Spec PyProof.Rows L2 RZ LamX
open PySem.W (Frag)
section
variable {X : Cx} {T : Tb} {W : WX}
def sretN : MS := fun ρ => .ret .none ρ
theorem pds_retN {pos : Pos} : PDs X T W (.Return none pos) sretN := ⟨_, ps_retN, fun G H σ ρ E s q => q G H σ .non (After.refl s) .non⟩
theorem pb_chain {op op' : CmpOp} {a b c : Expr} {pos : Pos} {f g : D → D → Option D} {ma mb mc : M D} (h : OpX X (compareOp op) f) (h' : OpX X (compareOp op') g) (ha : PD X T W a ma) (hb : PD X T W b mb) (hc : PD X T W c mc)
    (hm : lastMarks [op, op'] [b, c] = false := by with_unfolding_all rfl) : PB X T W (.Compare a [op, op'] [b, c] pos) (mtestB (mchain f g ma mb mc)) := by
  obtain ⟨ta, ea, qa⟩ := ha
  obtain ⟨tb, eb, qb⟩ := hb
  obtain ⟨tc, ec, qc⟩ := hc
  refine ⟨_, pt_chain (rU_ok X (compareOp op)) (rU_ok X (compareOp op')) ea eb ec hm, fun G H σ ρ Q s q => ?_⟩
  have q0 : RW (kx X T) W G H σ ρ (mchain f g ma mb mc ρ) fun d _ G' H' => ∀ v, Rp X.K G' v d → ∃ b, v = .bl b ∧ Q b H' :=
    q.bind.mono fun d ρ' G' H' A q1 v rv => by
      obtain ⟨b, hb, q2⟩ := q1.lift1
      exact ⟨b, rp_bool rv hb, q2 G' H' (AftE.refl A.sr)⟩
  refine qa G H σ ρ _ s (q0.bind.mono fun d ρ1 G1 H1 a1 q1 v rv => qb G1 H1 σ ρ1 _ a1.sr (q1.bind.mono fun e ρ2 G2 H2 a2 q2 u ru => ?_))
  obtain ⟨z, hz, q3⟩ := q2.lift
  obtain ⟨k, hk, q4⟩ := q3.lift
  obtain ⟨r, hr, use⟩ := h d e z hz
  refine ⟨r, hr, use G2 H2 v u _ a2.sr.sub (rv.mono a2.gs) ru fun G3 H3 w g3 rw' => ⟨k, rp_bool rw' hk, ?_⟩⟩
  cases k with
  | false => exact q4 _ _ (a2.sr.afterE g3) _ (.bl _)
  | true =>
    refine qc G3 H3 σ ρ2 _ (a2.sr.grow g3) ((RW.trans (a2.sr.afterE g3) q4).op.mono fun x ρ4 G4 H4 a4 q5 y ry => ?_)
    obtain ⟨z2, hz2, q6⟩ := q5
    obtain ⟨r2, hr2, use2⟩ := h' e x z2 hz2
    exact ⟨r2, hr2, use2 G4 H4 u y _ a4.sr.sub ((ru.mono g3.gs).mono a4.gs) ry fun G5 H5 w5 g5 rw5 => q6 _ _ (a4.sr.afterE g5) w5 rw5⟩
end
end PL
namespace PL
open PySem PySem.Spec PyProof.Rows L2 RZ LamX
open PySem.W (Frag)
section
variable {K : Frag} {T : Tb} {G H G' H' : Hp} {σ σ' : L2.St} {ρ ρ' : DEnv}
/-- a dict that is no slot's and untold is turned -/
theorem After.pokeD {a : Addr} {xs ys : List (L2.Key × V)} (A : After K T G H σ ρ G' H' σ' ρ') (f : Fre H a) (h : H' a = some (.dK xs)) (g : G' a = none) (no : ¬ OwnAt σ' ρ' a) : After K T G H σ ρ G' (upd H' a (.dK ys)) σ' ρ' := by
  have nb : ∀ b o, G' b = some o → b ≠ a := fun b o e z => by rw [z, g] at e; cases e
  refine ⟨A.gs, ⟨fun b o e => by rw [upd_ne (nb b o e)]; exact A.sr.sub b o e, A.sr.len, fun i t hi => ?_, A.sr.ne, ?_⟩, fun b o hb nt n => ?_, A.gn, A.io, fun b o hb n => ?_⟩
  · have q := A.sr.sl i t hi
    cases t with
    | un => trivial
    | val d => exact q
    | own d =>
      obtain ⟨b, u, e, h1, h2, r⟩ := q
      have ne : b ≠ a := fun z => no ⟨i, _, d, hi, rfl, by rw [← z]; exact e⟩
      exact ⟨b, u, e, by rw [upd_ne ne]; exact h1, h2, r⟩
    | io d =>
      obtain ⟨b, u, e, h1, h2, r⟩ := q
      have ne : b ≠ a := fun z => no ⟨i, _, d, hi, rfl, by rw [← z]; exact e⟩
      exact ⟨b, u, e, by rw [upd_ne ne]; exact h1, h2, r⟩
  · refine ⟨?_, A.sr.tab.2⟩
    intro p hp
    obtain ⟨ps, h3, h4, h5⟩ := A.sr.tab.1 p hp
    have n1 : p.1 ≠ a := fun z => by rw [z, h] at h3; cases h3
    refine ⟨ps, by rw [upd_ne n1]; exact h3, h4, fun pos cv hc => ?_⟩
    obtain ⟨c, e1, h6⟩ := h5 pos cv hc
    have n2 : c ≠ a := fun z => by rw [z, h] at h6; cases h6
    exact ⟨c, e1, by rw [upd_ne n2]; exact h6⟩
  · obtain ⟨h1, n1⟩ := A.fr b o hb nt n
    have ne : b ≠ a := fun z => by
      rw [z] at hb
      obtain ⟨ps, e⟩ := f o hb
      exact nt ps e
    exact ⟨by rw [upd_ne ne]; exact h1, n1⟩
  · obtain ⟨o', h1, n1⟩ := A.tr b o hb n
    by_cases ne : b = a
    · subst ne; exact ⟨.dK ys, upd_same, fun ps z => by cases z⟩
    · exact ⟨o', by rw [upd_ne ne]; exact h1, n1⟩
end
/-! ### {k: e, ..} with written keys -/
theorem putK_app {kvs : List (L2.Key × V)} {k : L2.Key} {v : V} (h : k ∉ kvs.map (·.1)) : putK kvs k v = kvs ++ [(k, v)] := by
  unfold putK
  rw [if_neg]
  intro z
  obtain ⟨p, hp, e⟩ := List.any_eq_true.mp z
  exact h (List.mem_map.mpr ⟨p, hp, of_decide_eq_true e⟩)
theorem mergeK_app : ∀ (more kvs : List (L2.Key × V)), ((kvs ++ more).map (·.1)).Nodup → mergeK kvs more = kvs ++ more
  | [], kvs, _ => by simp [mergeK]
  | p :: r, kvs, h => by
    have hn : p.1 ∉ kvs.map (·.1) := fun z => by
      rw [List.map_append, List.map_cons, List.nodup_append] at h
      exact h.2.2 p.1 z p.1 (by simp) rfl
    show mergeK (putK kvs p.1 p.2) r = _
    rw [putK_app hn]
    have := mergeK_app r (kvs ++ [(p.1, p.2)]) (by simpa using h)
    rw [this]
    simp
section
variable {X : Cx} {T : Tb} {W : WX}
def PPD (X : Cx) (T : Tb) (W : WX) (keys : List (Option Expr)) (values : List Expr) (ks : List L2.Key) (ms : M (List D)) : Prop := ∀ pos, ∃ trs, PPs X pos keys values trs ∧ ∀ G H σ ρ Q, SR X.K T G H σ ρ →
  RW (kx X T) W G H σ ρ (ms ρ) (fun ds _ G' H' => ∀ vs, Rps X.K G' vs ds → Q ((ks.zip vs).map fun p => (kV p.1, p.2)) H') → tPairs trs σ H Q
theorem ppd_nil : PPD X T W [] [] [] mnil := fun pos => ⟨_, pps_nil, fun G H σ ρ Q s q => q.ok s [] .nil⟩
theorem ppd_str {x : Str} {j : Nat} {p : Pos} {v : Expr} {keys : List (Option Expr)} {values : List Expr} {ks : List L2.Key} {m : M D} {ms : M (List D)} (hv : PD X T W v m) (h : PPD X T W keys values ks ms) :
    PPD X T W (some (.Constant (.str x) j p) :: keys) (v :: values) (.inr x :: ks) (mcons m ms) := fun pos => by
  obtain ⟨trs, ht, qt⟩ := h pos
  obtain ⟨tv, ev, qv⟩ := hv
  refine ⟨_, pps_cons pe_str ev ht, fun G H σ ρ Q s q => qv G H σ ρ _ s (q.bind.mono fun d ρ1 G1 H1 a1 q1 v rv => qt G1 H1 σ ρ1 _ a1.sr (q1.bind.mono fun ds ρ2 G2 H2 a2 q2 vs rs => ?_))⟩
  exact q2.ok a2.sr (v :: vs) (.cons (rv.mono a2.gs) rs)
theorem ppd_int {i : Int} {j : Nat} {p : Pos} {v : Expr} {keys : List (Option Expr)} {values : List Expr} {ks : List L2.Key} {m : M D} {ms : M (List D)} (hv : PD X T W v m) (h : PPD X T W keys values ks ms) :
    PPD X T W (some (.Constant (.int i) j p) :: keys) (v :: values) (.inl i :: ks) (mcons m ms) := fun pos => by
  obtain ⟨trs, ht, qt⟩ := h pos
  obtain ⟨tv, ev, qv⟩ := hv
  refine ⟨_, pps_cons pe_int ev ht, fun G H σ ρ Q s q => qv G H σ ρ _ s (q.bind.mono fun d ρ1 G1 H1 a1 q1 v rv => qt G1 H1 σ ρ1 _ a1.sr (q1.bind.mono fun ds ρ2 G2 H2 a2 q2 vs rs => ?_))⟩
  exact q2.ok a2.sr (v :: vs) (.cons (rv.mono a2.gs) rs)
def mdict (ks : List L2.Key) (ms : M (List D)) : M D := mbind ms fun ds => mlift (if ds.length = ks.length then some (.dict ((ks.map keyD).zip ds)) else none)
theorem zip_fst {α β : Type} : ∀ {as : List α} {bs : List β}, bs.length = as.length → (as.zip bs).map (·.1) = as
  | [], [], _ => rfl
  | a :: as, b :: bs, h => by simp [zip_fst (as := as) (bs := bs) (by simpa using h)]
theorem zip_snd {α β : Type} : ∀ {as : List α} {bs : List β}, bs.length = as.length → (as.zip bs).map (·.2) = bs
  | [], [], _ => rfl
  | a :: as, b :: bs, h => by simp [zip_snd (as := as) (bs := bs) (by simpa using h)]
theorem pn_dict {keys : List (Option Expr)} {values : List Expr} {ks : List L2.Key} {ms : M (List D)} {pos : Pos} (h : PPD X T W keys values ks ms) (nd : ks.Nodup) (h15 : ks.length ≤ 15) (hall : keys.all (·.isSome) = true := by rfl) (hl : keys.length = values.length := by rfl) (h0 : keys ≠ [] := by simp) (hk : keys.length ≤ 15 := by decide) :
    PN X T W (.Dict keys values pos) (mdict ks ms) := by
  obtain ⟨trs, ht, qt⟩ := h pos
  refine ⟨_, pe_disp ht hall hl h0 hk, fun G H σ ρ Q s q p hp => ?_⟩
  unfold mdict mbind at q
  have fp : Fre H p := Fre.of hp
  have A0 : AftE X.K T G H σ ρ G (upd H p (.dK [])) ρ := s.afterE (Grow.hid s.sub hp)
  have np : ¬ OwnAt σ ρ p := fp.notOwn s
  refine qt G (upd H p (.dK [])) σ ρ _ A0.sr ?_
  cases hm : ms ρ with
  | bad => rw [hm] at q; exact q.elim
  | err c ρ' => rw [hm] at q; exact fun G' H' C a e => q G' H' C (A0.trans a) e
  | ok ds ρ1 =>
    rw [hm] at q
    intro G1 H1 a1 vs rs
    obtain ⟨h1, n1⟩ := a1.a.fr p _ upd_same (fun ps z => by cases z) np
    have g1 : G1 p = none := a1.a.gn p _ upd_same (fun ps z => by cases z) (s.sub.isNone hp) np
    by_cases hlen : ds.length = ks.length
    · simp only [if_pos hlen] at q
      have hv : vs.length = ks.length := by rw [rs.length]; exact hlen
      have em : mergeK [] (ks.zip vs) = ks.zip vs := by
        rw [mergeK_app _ _ (by rw [List.nil_append, zip_fst hv]; exact nd), List.nil_append]
      refine ⟨h1, ks.zip vs, rfl, by rw [List.length_zip, hv]; omega, ?_⟩
      rw [em]
      have P := After.pokeD (ys := ks.zip vs) (A0.trans a1).a fp h1 g1 n1
      refine q G1 _ p _ ⟨P, (A0.trans a1).le⟩ fp upd_same g1 ?_
      have e : (ks.map keyD).zip ds = ((ks.zip vs).map fun p => keyD p.1).zip ds := by
        congr 1
        have z := congrArg (List.map keyD) (zip_fst hv)
        rw [List.map_map] at z
        exact z.symm
      rw [e]
      exact .dic (by rw [zip_snd hv]; exact rs)
    · simp only [if_neg hlen] at q
      exact q.elim
theorem pn_dict0 {pos : Pos} : PN X T W (.Dict [] [] pos) (mret (.dict [])) := by
  refine ⟨_, pe_dnewK, fun G H σ ρ Q s q p hp => ?_⟩
  refine q G (upd H p (.dK [])) p _ (s.afterE (Grow.hid s.sub hp)) (Fre.of hp) upd_same (s.sub.isNone hp) ?_
  have := HoR.dic (K := X.K) (G := G) (kvs := []) (ds := []) .nil
  exact this
end
end PL
namespace PL
open PySem PySem.Spec PyProof.Rows L2 RZ LamX
open PySem.W (Frag)
/-! ### _law_hand -/
def G0 : Hp := fun _ => none
theorem cut_ints (ns : List Int) (lo hi : Option Int) : ∃ ms : List Int, cutV (ns.map V.int) lo hi = ms.map V.int ∧ ms.length ≤ ns.length := by
  refine ⟨(ns.drop (HT.sIx ns.length 0 lo)).take (HT.sIx ns.length ns.length hi - HT.sIx ns.length 0 lo), ?_, ?_⟩
  · unfold cutV
    rw [List.length_map, List.map_take, List.map_drop]
  · rw [List.length_take, List.length_drop]; omega
/-- the hand that the law begins with -/
def handD (cells : List Int) (z : Int) : D := .list [.list (cells.map .int), .int 0, .int 0, .int z, .int 0]
/-- _law_hand's promise; f: what is told of the new hand's number -/
def spHand (K : Frag) (T : Tb) (f : Nat → Int) : Sp := fun vs H Q _ => ∃ (a : Addr) (ns : List Int), vs = [.ref a] ∧ SqL K H a (ns.map V.int) ∧ ns.length ≤ 63 ∧ Tabs T H ∧
  ∀ (cells : List Int) (G' H' : Hp) (p : Addr) (o : HO), cells.length ≤ 63 → (∀ z ∈ cells, 0 ≤ z) → Sub G' H' → (∀ b ps, G' b ≠ some (.tbl ps)) → Tabs T H' → H' p = some o → G' p = none → HoR K G' o (handD cells (f cells.length)) → Q (.ref p) H'
section
variable {X : Cx} {T : Tb}
theorem tabs_ext {T : Tb} {H H' : Hp} (t : Tabs T H) (e : ∀ b o, H b = some o → H' b = some o) : Tabs T H' := fun p hp => (t p hp).ext e
theorem sr_un {K : Frag} {H : Hp} {σ : L2.St} (n : Nat) (hl : σ.length = n) (tb : Tabs T H) : SR K T G0 H σ (List.replicate n .un) := by
  refine ⟨(fun b o e => nomatch (show (none : Option HO) = some o from e)), (by rw [List.length_replicate]; exact hl), fun i t h => ?_, fun i j t u d e a h => ?_, tb, (fun b ps h => nomatch (show (none : Option HO) = some _ from h))⟩
  · rw [List.getElem?_replicate] at h
    split at h
    · cases h; trivial
    · cases h
  · intro _ m _ _ _
    rw [List.getElem?_replicate] at h
    split at h
    · cases h; cases m
    · cases h
theorem hand_pss {elt e2 : Expr} {scope : Scope} {m1 m2 : M D} {f : Nat → Int} {n63 : Int} {j : Nat} {p1 p2 p3 p4 p5 p6 p7 p8 p9 : Pos} (hc : X.calm = true) (hN : X.N.Nodup) (h3 : X.N.length = 3) (h0 : PE X (.Name "script" p3) (tVar 0)) (hy : X.N[1]? = some ("cells" : Str)) (hyl : X.env.scope.names.lookup ("cells" : Str) = some .local)
    (hsw : swapsWith (.ListComp elt [⟨.Name "cell" p2, .Subscript (.Name "script" p3) (.Slice none (some (.Constant (.int n63) j p4)) none p5) p6, [], 0⟩] scope p7) (some (.Name "cells" p1)) p8.line X.env = pure true)
    (ok : BlkOk X.N X.env.scope scope [(("cell" : Str), 2)]) (hg : ∀ i, PTg (Bk X scope i) T (.Name "cell" p2) (tname 2) [2]) (he : ∀ i, PD (Bk X scope i) T W0 elt m1) (hr : PN X T W0 e2 m2)
    (h1 : ∀ z : Int, ∃ y : Int, 0 ≤ y ∧ m1 [.un, .un, .val (.int z)] = .ok (.int y) [.un, .un, .val (.int z)])
    (h2 : ∀ cells : List Int, m2 [.un, .val (.list (cells.map .int)), .un] = .ok (handD cells (f cells.length)) [.un, .val (.list (cells.map .int)), .un])
    (hs : ∀ x, foldedSetIterable (.Subscript (.Name "script" p3) (.Slice none (some (.Constant (.int n63) j p4)) none p5) p6) X.env x = pure x) :
    ∃ t, PSs X [.Assign [.Name "cells" p1] (.ListComp elt [⟨.Name "cell" p2, .Subscript (.Name "script" p3) (.Slice none (some (.Constant (.int n63) j p4)) none p5) p6, [], 0⟩] scope p7) p8, .Return (some e2) p9] t ∧
      ∀ (a : Addr) (H : Hp) (Q : VK) (E : XK), spHand X.K T f [.ref a] H Q E → t { nx := fun _ H' => Q .non H', rt := Q } [some (.ref a), none, none] H := by
  obtain ⟨t2, et2, q2⟩ := hr
  refine ⟨_, pss_cons (ps_setLc (i := 1) hc hN hy hyl hsw (pi_list (pe_slice sl_list h0 po_none (po_some pe_int))) ok (fun s H C cl fp => gU_ok (Bk X scope) (.Name "cell" p2) ⟨s, H, C, cl, fp⟩) (fun s H C cl fp => tsU_ok (Bk X scope) [] ⟨s, H, C, cl, fp⟩) (fun s H C cl fp => eU_ok (Bk X scope) elt ⟨s, H, C, cl, fp⟩) hs) (pss_one (ps_ret et2)), fun a H Q E sp => ?_⟩
  obtain ⟨a', ns, ea, hS, hn, tb, k⟩ := sp
  cases ea
  refine ⟨_, rfl, ?_⟩
  refine ⟨_, rfl, a, ns.map V.int, rfl, hS, fun p hp => ?_⟩
  obtain ⟨ms, em, hm⟩ := cut_ints ns none (some n63)
  rw [em]
  have k1 : ∀ b o, H b = some o → upd H p (.lst (ms.map V.int)) b = some o := fun b o e => by rw [upd_ne (ne_of_none e hp)]; exact e
  refine ⟨p, rfl, ⟨_, SqL.of upd_same⟩, fun D hD => ?_⟩
  have tb1 := tabs_ext tb k1
  generalize hH1 : upd H p (.lst (ms.map V.int)) = H1 at *
  have hp1 : H1 p = some (.lst (ms.map V.int)) := by rw [← hH1]; exact upd_same
  have npD : p ≠ D := ne_of_none hp1 hD
  have kD : ∀ b o, H1 b = some o → upd H1 D (.lst []) b = some o := fun b o e => by rw [upd_ne (ne_of_none e hD)]; exact e
  refine lc_it (walk_list (xs := ms.map V.int)) (fun i Hc => ∃ acc : List Int, acc.length ≤ i ∧ (∀ z ∈ acc, 0 ≤ z) ∧ Hc D = some (.lst (acc.map V.int)) ∧ Hc p = some (.lst (ms.map V.int)) ∧ Tabs T Hc)
    ⟨[], Nat.le_refl _, (fun z hz => by cases hz), upd_same, kD _ _ hp1, tabs_ext tb1 kD⟩ (fun i Hc _ ⟨_, _, _, _, hp', _⟩ => SqL.of hp') ?_ ?_
  · rintro i x Hc H2 hi ⟨acc, hal, hnn, hDc, hpc, tbc⟩ y
    have hi' : i < ms.length := by rw [List.length_map] at hi; exact hi
    obtain ⟨ey, hy2⟩ := y
    subst ey
    obtain ⟨z, rfl⟩ : ∃ z, x = V.int z := by
      rw [List.getElem?_map] at hy2
      cases e : ms[i]? with
      | none => rw [e] at hy2; cases hy2
      | some z => rw [e] at hy2; exact ⟨z, (Option.some.inj hy2).symm⟩
    intro ib
    obtain ⟨lf, g, eg, qg⟩ := hg ib
    have hwl : (wipe [some (V.ref a), none, none] [2]).length = 3 := rfl
    have sr0 : SR X.K T G0 H2 (wipe [some (V.ref a), none, none] [2]) [.un, .un, .un] := sr_un 3 hwl tbc
    refine ⟨g, eg, qg G0 H2 _ [.un, .un, .un] (.int z) (.int z) [.un, .un, .val (.int z)] _ sr0 (.int z) rfl fun σ3 a3 on => ?_⟩
    have hw : wipe σ3 [2] = wipe [some (V.ref a), none, none] [2] := by rw [wipe_eq on]; exact wipe_wipe _ _
    refine ⟨hw, fun ic => ⟨_, pts_nil, ?_⟩⟩
    simp only [tYes, if_true]
    intro id
    obtain ⟨t, et, qt⟩ := he id
    obtain ⟨y, hy0, hm1⟩ := h1 z
    refine ⟨t, et, qt G0 H2 σ3 [.un, .un, .val (.int z)] _ a3.sr ?_⟩
    rw [hm1]
    intro G4 H4 a4 v rv
    cases rv
    have own0 : ∀ b, ¬ OwnAt σ3 [.un, .un, .val (.int z)] b := fun b ⟨i, t, d, h, m, e⟩ => by
      match i, h with
      | 0, h => cases h; cases m
      | 1, h => cases h; cases m
      | 2, h => cases h; cases m
    obtain ⟨hD4, _⟩ := a4.a.fr D _ hDc (fun ps z => by cases z) (own0 D)
    obtain ⟨hp4, _⟩ := a4.a.fr p _ hpc (fun ps z => by cases z) (own0 p)
    refine ⟨acc.map V.int, hD4, by rw [List.length_map]; exact Nat.lt_of_le_of_lt (Nat.le_trans hal (by omega)) (by rw [sizeLine_eq]; decide : 63 < sizeLine), acc ++ [y], by rw [List.length_append]; exact Nat.succ_le_succ hal, fun w hw => ?_, by rw [List.map_append]; exact upd_same, by rw [upd_ne npD]; exact hp4, ?_⟩
    · rcases List.mem_append.mp hw with hw | hw
      · exact hnn w hw
      · rw [List.mem_singleton.mp hw]; exact hy0
    · intro q hq
      obtain ⟨ps, h5, h6, h7⟩ := a4.sr.tab.1 q hq
      have n1 : q.1 ≠ D := fun z => by rw [z, hD4] at h5; cases h5
      refine ⟨ps, by rw [upd_ne n1]; exact h5, h6, fun pos cv hcv => ?_⟩
      obtain ⟨c, e1, h8⟩ := h7 pos cv hcv
      have n2 : c ≠ D := fun z => by rw [z, hD4] at h8; cases h8
      exact ⟨c, e1, by rw [upd_ne n2]; exact h8⟩
  · rintro Hc ⟨acc, hal, hnn, hDc, hpc, tbc⟩
    rw [List.length_map] at hal
    have hl63 : acc.length ≤ 63 := by omega
    have hz : (acc.map V.int).length ≤ sizeLine := by rw [List.length_map, sizeLine_eq]; omega
    have sr1 : SR X.K T (upd G0 D (.lst (acc.map V.int))) Hc ([some (.ref a), some (.ref D), none]) [.un, .val (.list (acc.map .int)), .un] := by
      refine ⟨fun b o e => ?_, rfl, fun i t h => ?_, fun i j t u d e a h => ?_, tbc, fun b ps h => ?_⟩
      · by_cases hb : b = D
        · subst hb; rw [upd_same] at e; cases e; exact hDc
        · rw [upd_ne hb] at e; cases e
      · match i, h with
        | 0, h => cases h; trivial
        | 1, h => cases h; exact ⟨_, rfl, .lst upd_same hz (Rps.of_ints acc)⟩
        | 2, h => cases h; trivial
      · intro _ m _ _ _
        match i, h with
        | 0, h => cases h; cases m
        | 1, h => cases h; cases m
        | 2, h => cases h; cases m
      · by_cases hb : b = D
        · subst hb; rw [upd_same] at h; cases h
        · rw [upd_ne hb] at h; cases h
    refine q2 (upd G0 D (.lst (acc.map V.int))) Hc _ [.un, .val (.list (acc.map .int)), .un] _ sr1 ?_
    rw [h2]
    intro G5 H5 p5 o5 A5 f5 h5 g5 r5
    exact k acc G5 H5 p5 o5 hl63 hnn A5.sr.sub A5.sr.tab.2 A5.sr.tab.1 h5 g5 r5
/-- the def _law_hand -/
structure HasHand (P : Program) (w : World) (K : Frag) (mg : Str → Option Value) (base : Heap) (T : Tb) (k : Nat) (f : Nat → Int) : Prop where
  ex : ∃ (fa : Addr) (fd : FuncData), mg "_law_hand" = some (.ref fa) ∧ PySem.W.keepIn K (.ref fa) = true ∧ Binds K fd ["script"] [] ∧ FnOk P w K mg base (L2.CX P w) k fa fd ["script"] (spHand K T f)
theorem hand_D {P : Program} {w : World} {K : Frag} {mg : Str → Option Value} {base : Heap} {st : Stmt} {cdv : Value} {k : Nat} {f : Nat → Int} (d : DefC K mg "_law_hand" st ["script"] cdv) (S : FnScope ["script", "cells", "cell"] ["script"] (defScope st))
    (hbody : ∀ (fa : Addr) (A : Around) (outer : List Env) (s : Shared) (H : Hp) (E : XK), Room k (A.deeper (envOfC "_law_hand" (defScope st) s.heap.objs.size fa cdv)) →
      ∃ t, PSs (cxOf (L2.CX P w) P w K mg base ["script", "cells", "cell"] "_law_hand" (defScope st) fa cdv A outer s H E) (defBody st) t ∧ ∀ (a : Addr) (H : Hp) (Q : VK) (E : XK), spHand K T f [.ref a] H Q E → t { nx := fun _ H' => Q .non H', rt := Q } [some (.ref a), none, none] H) :
    HasHand P w K mg base T (k + 1) f := by
  obtain ⟨fa, oc, od, kV, doc, pm, an, ct, osl, lk, hcd, hk, hg, hb⟩ := d.ex
  refine ⟨fa, _, hg, hk, hb, ?_⟩
  refine fn_of lk hcd S (fun vs H Q E h => ?_) (fun A outer s H vs Q E hr h => ?_)
  · obtain ⟨a, ns, rfl, _⟩ := h
    rfl
  · obtain ⟨t, et, qt⟩ := hbody fa A outer s H E hr
    obtain ⟨a, ns, rfl, r⟩ := id h
    exact ⟨t, et, qt a H Q E h⟩
end
end PL
namespace PL
open PySem PySem.Spec PyProof.Rows L2 RZ LamX
open PySem.W (Frag)
/-! ### the end of a law -/
/-- the tables of the defs of the text are empty -/
def RecHd (K : Frag) (mg : Str → Option Value) (h : Heap) (y : Str) : Prop := ∀ (f c P : Addr) (o : Obj) (fd : FuncData) (e : Value) (dd : Option Addr) (vs : Array Value) (sl : Array (Option Value)),
  mg y = some (.ref f) → K.lookup f = some o → o.data = .func fd → fd.code = .ref c → K.lookup c = some ⟨e, dd, .fields vs, sl⟩ → vs[11]? = some (.ref P) → PySem.W.CodeHd h c P ∧ h.get? P = some { cls := .none, data := .fields #[] }
theorem walk_law {l : PySem.W.OpenLaw} {n k : Nat} {q : Program} {loose : List Str} {XP : (Str → Option Value) → Heap → Prop} {YP : World → Heap → Prop} {d : DefRec} {K : Params → Frag} {x : Str} (names : List Str)
    (hn : l.most = some n) (hn2 : n ≤ sizeLine) (hdf : d.params.defaults = []) (hr : Room k callerA) (hrec : ∀ y ∈ names, ((recsOf q).any fun e => e.name == y) = true) (hY : ∀ (w : World) (h : Heap), YP w h → (K w.params).In h)
    (F : ∀ (w : World) (mg : Str → Option Value) (fa : Addr) (h : Heap), YP w h → (K w.params).In h → h.Ns mainGlobals mg → mg d.name = some (.ref fa) → (∀ y ∈ names, RecHd (K w.params) mg h y) → LawAtS l w (K w.params) (L2.CX l.prog w) k n x mg fa h) :
    PySem.W.WalkO q loose XP YP l.row.toRowW d [] (fun f vs => PySem.call f vs) := by
  refine Att.attach_callB hn hdf fun w s₀ s₁ mg mb fa o pm cd doc a vs ns G Y ho hd hcd hmg hobj hints hlen hbits hg => ?_
  have KX := hY w _ Y
  have own : ∀ y ∈ names, RecHd (K w.params) mg s₁.heap y := fun y hy f c P o1 fd1 e dd vs1 sl k0 k1 k2 k3 k4 k5 => by
    obtain ⟨dL, hm, hn1⟩ := List.any_eq_true.mp (hrec y hy)
    have hn2 : dL.name = y := beq_iff_eq.mp hn1
    obtain ⟨a', o', fd', c', P', h1, h2, h3, h4, h5, h6⟩ := G.T.tab dL hm
    rw [hn2, k0] at h1
    cases h1
    have g1 := KX _ _ k1
    rw [g1] at h2
    cases h2
    rw [k2] at h3
    cases h3
    rw [k3] at h4
    cases h4
    have h6' := h6
    obtain ⟨⟨oc, vc, e1, _, e3, e4⟩, hP⟩ := h6
    have g2 := KX _ _ k4
    rw [g2] at e1
    cases e1
    cases e3
    rw [k5] at e4
    cases e4
    exact ⟨PySem.W.CodeHd.of h5 h6', hP⟩
  obtain ⟨fd, cs, sp, hT, nT, C, hb, hsp, hF⟩ := F w mg fa _ Y KX G.T.g hmg own
  exact law_callTs KX G.T.g G.T.b G.T.builtins G.T.nolimit hg hT nT C G.T.bmain hobj hints (Nat.le_trans hlen hn2) hr hF hb (fun H hH hS => hsp H a ns hlen hbits hH hS) fun H e s' h => by
    obtain ⟨_, _, _, _, _, _, _, _, _, _, _, _, z⟩ := h
    exact z
/-- law's promise -/
def spLaw (K : Frag) (T : Tb) : Sp := fun vs H Q _ => ∃ (a : Addr) (ns : List Int), vs = [.ref a] ∧ SqL K H a (ns.map V.int) ∧ ns.length ≤ 63 ∧ Tabs T H ∧ ∀ H', Q (.bl true) H'
section
variable {P : Program} {w : World} {K : Frag} {mg : Str → Option Value} {base : Heap} {T : Tb}
theorem law_D {f : Addr} {fd : FuncData} {st : Stmt} {cdv : Value} {k kh m : Nat} {N : List Str} {fz : Nat → Int} {b : MS} {p1 p2 p3 p4 p5 : Pos} {rest : List Stmt}
    (lk : ∃ (oc : Value) (od : Option Addr) (kV doc pm : Value) (an : Option Addr) (ct : Value) (osl : Array (Option Value)), fd = PySem.W.fnOf "law" "law" (defArgs st) (defBody st) (defScope st) .none kV doc pm an cdv ct ∧ K.lookup f = some ⟨oc, od, .func fd, osl⟩ ∧ PySem.W.codeIn K cdv "law" = true)
    (S : FnScope ("script" :: "hand" :: N) ["script"] (defScope st)) (hm : N.length = m) (hb : defBody st = .Assign [.Name "hand" p1] (.Call (.Name "_law_hand" p2) [.Name "script" p3] [] p4) p5 :: rest)
    (hh : HasHand P w K mg base T kh fz) (hk : kh ≤ k) (hl : (defScope st).names.lookup ("hand" : Str) = some .local) (hls : (defScope st).names.lookup ("script" : Str) = some .local)
    (hgl : (defScope st).names.lookup ("_law_hand" : Str) = some .globalImplicit)
    (hrest : ∀ (A : Around) (outer : List Env) (s : Shared) (H : Hp) (E : XK), Room k (A.deeper (envOfC "law" (defScope st) s.heap.objs.size f cdv)) →
      PDss (cxOf (L2.CX P w) P w K mg base ("script" :: "hand" :: N) "law" (defScope st) f cdv A outer s H E) T (Wd E) rest b)
    (plain : ∀ cells : List Int, cells.length ≤ 63 → (∀ z ∈ cells, 0 ≤ z) → ∃ ρ', b (.un :: .own (handD cells (fz cells.length)) :: List.replicate m .un) = .ret (.bool true) ρ') :
    FnOk P w K mg base (L2.CX P w) (k + 1) f fd ["script"] (spLaw K T) := by
  obtain ⟨oc, od, kV, doc, pm, an, ct, osl, rfl, lk, hcd⟩ := lk
  refine fn_of lk hcd S (fun vs H Q E h => ?_) (fun A outer s H vs Q E hr h => ?_)
  · obtain ⟨a, ns, rfl, _⟩ := h
    rfl
  · obtain ⟨a, ns, rfl, hS, hlen, tb, kq⟩ := h
    obtain ⟨fa, fda, hmg, hkp, hbi, hF⟩ := hh.ex
    obtain ⟨t, et, qt⟩ := hrest A outer s H E hr
    rw [hb]
    have hN : (cxOf (L2.CX P w) P w K mg base ("script" :: "hand" :: N) "law" (defScope st) f cdv A outer s H E).N.Nodup := S.nd
    have pv0 : PE (cxOf (L2.CX P w) P w K mg base ("script" :: "hand" :: N) "law" (defScope st) f cdv A outer s H E) (.Name "script" p3) (tVar 0) := pv 0 rfl (Or.inl hls)
    refine ⟨_, pss_cons (ps_set (i := 1) hN rfl (Or.inl hl) (pe_callS hF (hr.mono hk) hgl hmg hkp hbi (fun σ => passAt (takes_of (E₁ := _) rfl rfl rfl rfl) σ) (pa_cons pv0 pa_nil)) rfl (Or.inr hl)) et, ?_⟩
    have h0 : (L2.start ("script" :: "hand" :: N) [V.ref a])[0]? = some (some (.ref a)) := rfl
    refine ⟨_, h0, ?_⟩
    refine ⟨a, ns, rfl, hS, hlen, tb, fun cells G' H' p o hc hnn su nt tb' hp hg r => ?_⟩
    obtain ⟨ρ', hpl⟩ := plain cells hc hnn
    have hst : L2.start ("script" :: "hand" :: N) [V.ref a] = some (.ref a) :: none :: List.replicate m none := by
      rw [← hm]
      simp [L2.start, List.replicate_succ]
    refine qt G' H' _ (.un :: .own (handD cells (fz cells.length)) :: List.replicate m .un) _ ⟨su, ?_, fun i t h => ?_, fun i j t u d e b h1 h2 m1 m2 _ _ => ?_, tb', nt⟩ ?_
    · rw [hst]; simp
    · rw [hst]
      match i, h with
      | 0, h => cases h; trivial
      | 1, h => cases h; exact ⟨p, o, rfl, hp, hg, r⟩
      | i + 2, h =>
        have h : (List.replicate m Slot.un)[i]? = some t := h
        rw [List.getElem?_replicate] at h
        split at h
        · cases h; trivial
        · cases h
    · have z : ∀ {i : Nat} {t : Slot} {d : D}, (Slot.un :: Slot.own (handD cells (fz cells.length)) :: List.replicate m Slot.un)[i]? = some t → t.mine = some d → i = 1 := fun {i t d} h mm => by
        match i, h with
        | 0, h => cases h; cases mm
        | 1, h => rfl
        | i + 2, h =>
          have h : (List.replicate m Slot.un)[i]? = some t := h
          rw [List.getElem?_replicate] at h
          split at h
          · cases h; cases mm
          · cases h
      rw [z h1 m1, z h2 m2]
    · rw [hpl]
      intro G2 H2 σ2 v _ rv
      cases rv
      exact kq H2
end
end PL
namespace PL
open PySem PySem.Spec PyProof.Rows L2 RZ LamX
open PySem.W (Frag)
section
variable {K : Frag} {mg : Str → Option Value} {h : Heap}
theorem defC_mk {x : Str} {st : Stmt} {ps : List Str} {f : Addr} {oc kV doc pm cdv ct : Value} {od an : Option Addr} {osl : Array (Option Value)} (X : K.In h) (G : h.Ns mainGlobals mg) (a : PySem.W.nsIn K mainGlobals x = some (some (.ref f)))
    (l : K.lookup f = some ⟨oc, od, .func (PySem.W.fnOf x x (defArgs st) (defBody st) (defScope st) .none kV doc pm an cdv ct), osl⟩) (c : PySem.W.codeIn K cdv x = true) (k : PySem.W.keepIn K (.ref f) = true)
    (hb : ∀ (us : List Value), us.length = ps.length → bindArgs (PySem.W.fnOf x x (defArgs st) (defBody st) (defScope st) .none kV doc pm an cdv ct) ⟨us, []⟩ = pure (ps.zip us)) : DefC K mg x st ps cdv :=
  ⟨f, oc, od, kV, doc, pm, an, ct, osl, l, c, k, PySem.W.mg_of X G a, .all hb⟩
theorem excF_mk {x : Str} {C : Addr} (X : K.In h) (G : h.Ns mainGlobals mg) (a : PySem.W.nsIn K mainGlobals x = some (some (.ref C))) (q : PySem.W.excIn K C [.type "ValueError", .type "Exception", .type "BaseException", .type "object"] "ValueError.__new__" = true) (k : PySem.W.keepIn K (.ref C) = true)
    (b : PySem.W.subIn K (.ref C) (.type "BaseException") = some true) (t : PySem.W.typeIn K (.ref C) = some (.type "type")) : ExcF K mg x C := ⟨PySem.W.mg_of X G a, q, k, b, t⟩
theorem exm_mk {x y : Str} {C S : Addr} {r : Bool} (c : ExcF K mg x C) (s : ExcF K mg y S) (i : PySem.W.isClsIn K S = true) (h4 : PySem.W.subIn K (.ref C) (.ref S) = some r) : PySem.W.exmOne K (.ref C) (.ref S) = some r := by
  have e1 : (PySem.W.subIn K (.ref S) (.type "BaseException") == some true) = true := by rw [s.b] <;> rfl
  have e2 : ((PySem.W.clsIn K S).isSome && PySem.W.typeIn K (.ref S) == some (.type "type")) = true := by
    have h2' : (PySem.W.clsIn K S).isSome = true := i
    rw [h2', s.t] <;> rfl
  show (if (PySem.W.subIn K (.ref S) (.type "BaseException") == some true) = true then (if ((PySem.W.clsIn K S).isSome && PySem.W.typeIn K (.ref S) == some (.type "type")) = true then PySem.W.subIn K (.ref C) (.ref S) else none) else none) = some r
  rw [if_pos e1, if_pos e2]
  exact h4
/-- the def law at fa -/
structure LawF (K : Frag) (fa : Addr) (st : Stmt) : Prop where
  ex : ∃ (oc : Value) (od : Option Addr) (kV doc pm : Value) (an : Option Addr) (cdv ct : Value) (osl : Array (Option Value)), K.lookup fa = some ⟨oc, od, .func (PySem.W.fnOf "law" "law" (defArgs st) (defBody st) (defScope st) .none kV doc pm an cdv ct), osl⟩ ∧ PySem.W.codeIn K cdv "law" = true ∧
    ∀ v : Value, bindArgs (PySem.W.fnOf "law" "law" (defArgs st) (defBody st) (defScope st) .none kV doc pm an cdv ct) ⟨[v], []⟩ = pure [(("script" : Str), v)]
theorem lawF_mk {st : Stmt} {f fa : Addr} {oc kV doc pm cdv ct : Value} {od an : Option Addr} {osl : Array (Option Value)} (X : K.In h) (G : h.Ns mainGlobals mg) (hfa : mg "law" = some (.ref fa)) (a : PySem.W.nsIn K mainGlobals "law" = some (some (.ref f)))
    (l : K.lookup f = some ⟨oc, od, .func (PySem.W.fnOf "law" "law" (defArgs st) (defBody st) (defScope st) .none kV doc pm an cdv ct), osl⟩) (c : PySem.W.codeIn K cdv "law" = true)
    (hb : ∀ v : Value, bindArgs (PySem.W.fnOf "law" "law" (defArgs st) (defBody st) (defScope st) .none kV doc pm an cdv ct) ⟨[v], []⟩ = pure [(("script" : Str), v)]) : LawF K fa st := by
  have e := hfa.symm.trans (PySem.W.mg_of X G a)
  cases e
  exact ⟨oc, od, kV, doc, pm, an, cdv, ct, osl, l, c, hb⟩
/-- the table of a def that makes lambdas -/
structure TabF (K : Frag) (h : Heap) (c P : Addr) : Prop where
  hd : PySem.W.CodeHd h c P
  tb : h.get? P = some { cls := .none, data := .fields #[] }
  nK : K.lookup P = none
theorem tabF_mk {y : Str} {st : Stmt} {ps : List Str} {c P : Addr} {e : Value} {dd : Option Addr} {vs : Array Value} {sl : Array (Option Value)} (R : RecHd K mg h y) (d : DefC K mg y st ps (.ref c)) (l : K.lookup c = some ⟨e, dd, .fields vs, sl⟩) (v : vs[11]? = some (.ref P)) (n : K.lookup P = none) : TabF K h c P := by
  obtain ⟨f, oc, od, kV, doc, pm, an, ct, osl, l1, c1, k1, m1, b1⟩ := d.ex
  obtain ⟨h1, h2⟩ := R f c P _ _ e dd vs sl m1 l1 rfl rfl l v
  exact ⟨h1, h2, n⟩
end
end PL
namespace PL
open PySem PySem.Spec PyProof.Rows L2 RZ LamX
open PySem.W (Frag)
/-! ### running denotations -/
theorem cloop_pure {vs : List Nat} {f : TgF} {c : M Bool} {e : M D} {ρw : DEnv} (p : D → Bool) (g : D → D) (S : D → DEnv) : ∀ (ds acc : List D), (∀ d ∈ ds, f d ρw = some (S d) ∧ c (S d) = .ok (p d) (S d) ∧ (p d = true → e (S d) = .ok (g d) (S d)) ∧ wipeD (S d) vs = ρw) →
    cloop vs f c e ds acc ρw = .ok (acc ++ (ds.filter p).map g) ρw
  | [], acc, _ => by simp [cloop]
  | d :: r, acc, h => by
    obtain ⟨h1, h2, h3, h4⟩ := h d (by simp)
    have ih := fun a => cloop_pure p g S r a fun x hx => h x (by simp [hx])
    unfold cloop
    simp only [h1, h2]
    cases hp : p d with
    | true => simp only [h3 hp, h4, ih]; simp [hp]
    | false => simp only [h4, ih]; simp [hp]
theorem mcomp_pure {mi : M (List D)} {vs : List Nat} {f : TgF} {c : M Bool} {e : M D} {ρ ρ0 : DEnv} {ds : List D} (p : D → Bool) (g : D → D) (S : D → DEnv) (hi : mi ρ = .ok ds ρ0) (hc : calmAt ρ0 vs = true)
    (h : ∀ d ∈ ds, f d (wipeD ρ0 vs) = some (S d) ∧ c (S d) = .ok (p d) (S d) ∧ (p d = true → e (S d) = .ok (g d) (S d)) ∧ wipeD (S d) vs = wipeD ρ0 vs) :
    mcomp mi vs f c e ρ = .ok (.list ((ds.filter p).map g)) (restD ρ0 (wipeD ρ0 vs) vs) := by
  unfold mcomp mbind
  simp only [hi]
  unfold mcomp2
  rw [if_pos hc, cloop_pure p g S ds [] h]
  rfl
/-- no test -/
theorem mcomp_map {mi : M (List D)} {vs : List Nat} {f : TgF} {e : M D} {ρ ρ0 : DEnv} {ds : List D} (g : D → D) (S : D → DEnv) (hi : mi ρ = .ok ds ρ0) (hc : calmAt ρ0 vs = true)
    (h : ∀ d ∈ ds, f d (wipeD ρ0 vs) = some (S d) ∧ e (S d) = .ok (g d) (S d) ∧ wipeD (S d) vs = wipeD ρ0 vs) :
    mcomp mi vs f (mret true) e ρ = .ok (.list (ds.map g)) (restD ρ0 (wipeD ρ0 vs) vs) := by
  rw [mcomp_pure (c := mret true) (fun _ => true) g S hi hc fun d hd => ⟨(h d hd).1, rfl, fun _ => (h d hd).2.1, (h d hd).2.2⟩]
  rw [show ds.filter (fun _ => true) = ds from List.filter_eq_self.mpr fun _ _ => rfl]
/-- the element may turn slots; I, by what is done -/
theorem cloop_inv {vs : List Nat} {f : TgF} {e : M D} (I : List D → DEnv → Prop) : ∀ (ds acc : List D) (ρ : DEnv), I acc ρ →
    (∀ d ∈ ds, ∀ acc ρ, I acc ρ → ∃ ρ1 y ρ2, f d ρ = some ρ1 ∧ e ρ1 = .ok y ρ2 ∧ I (acc ++ [y]) (wipeD ρ2 vs)) → ∃ acc' ρ', cloop vs f (mret true) e ds acc ρ = .ok acc' ρ' ∧ I acc' ρ' ∧ acc'.length = acc.length + ds.length
  | [], acc, ρ, h, _ => ⟨acc, ρ, rfl, h, rfl⟩
  | d :: r, acc, ρ, h, hs => by
    obtain ⟨ρ1, y, ρ2, h1, h2, h3⟩ := hs d (by simp) acc ρ h
    obtain ⟨acc', ρ', h4, h5, h6⟩ := cloop_inv I r (acc ++ [y]) (wipeD ρ2 vs) h3 fun x hx => hs x (by simp [hx])
    refine ⟨acc', ρ', ?_, h5, by rw [h6]; simp; omega⟩
    unfold cloop
    simp only [h1, mret, h2, h4]
/-- a loop with an invariant, by the place -/
theorem sloop_inv {f : TgF} {b : MS} (I : Nat → DEnv → Prop) : ∀ (ds : List D) (i : Nat) (ρ : DEnv), I i ρ →
    (∀ (j : Nat) (d : D) (ρ : DEnv), ds[j]? = some d → I (i + j) ρ → ∃ ρ1 ρ2, f d ρ = some ρ1 ∧ b ρ1 = .next ρ2 ∧ I (i + j + 1) ρ2) → ∃ ρ', sloop f b ds ρ = .next ρ' ∧ I (i + ds.length) ρ'
  | [], i, ρ, h, _ => ⟨ρ, rfl, h⟩
  | d :: r, i, ρ, h, hs => by
    obtain ⟨ρ1, ρ2, h1, h2, h3⟩ := hs 0 d ρ rfl h
    obtain ⟨ρ', h4, h5⟩ := sloop_inv I r (i + 1) ρ2 h3 fun j x σ hj hI => by
      have := hs (j + 1) x σ (by simpa using hj) (by rw [Nat.add_assoc, Nat.add_comm 1 j] at hI; exact hI)
      rw [Nat.add_assoc i 1 j, Nat.add_comm 1 j]
      exact this
    refine ⟨ρ', ?_, by rw [List.length_cons, Nat.add_comm r.length 1, ← Nat.add_assoc]; exact h5⟩
    unfold sloop
    simp only [h1, h2, h4]
theorem sfor_inv {m : M (List D)} {f : TgF} {b : MS} {ρ ρ0 : DEnv} {ds : List D} (I : Nat → DEnv → Prop) (hm : m ρ = .ok ds ρ0) (h0 : I 0 ρ0)
    (hs : ∀ (j : Nat) (d : D) (ρ : DEnv), ds[j]? = some d → I j ρ → ∃ ρ1 ρ2, f d ρ = some ρ1 ∧ b ρ1 = .next ρ2 ∧ I (j + 1) ρ2) : ∃ ρ', sfor m f b ρ = .next ρ' ∧ I ds.length ρ' := by
  obtain ⟨ρ', h1, h2⟩ := sloop_inv I ds 0 ρ0 h0 fun j d ρ hj hI => by rw [Nat.zero_add] at hI ⊢; exact hs j d ρ hj hI
  refine ⟨ρ', ?_, by rw [Nat.zero_add] at h2; exact h2⟩
  unfold sfor sbind
  simp only [hm, h1]
/-- an invariant alone -/
theorem sfor_all {m : M (List D)} {f : TgF} {b : MS} {ρ ρ0 : DEnv} {ds : List D} (I : DEnv → Prop) (hm : m ρ = .ok ds ρ0) (h0 : I ρ0)
    (hs : ∀ (d : D) (ρ : DEnv), d ∈ ds → I ρ → ∃ ρ1 ρ2, f d ρ = some ρ1 ∧ b ρ1 = .next ρ2 ∧ I ρ2) : ∃ ρ', sfor m f b ρ = .next ρ' ∧ I ρ' :=
  sfor_inv (fun _ => I) hm h0 fun j d ρ hj hI => hs d ρ (List.mem_of_getElem? hj) hI
theorem sseq_next {m n : MS} {ρ ρ' : DEnv} (h : m ρ = .next ρ') : sseq m n ρ = n ρ' := by unfold sseq; simp only [h]
/-- two clauses -/
theorem iloop_pure {vs : List Nat} {f : TgF} {c : M Bool} {e : M D} {ρw : DEnv} (g : D → D) (S : D → DEnv) : ∀ (ds acc : List D), acc.length + ds.length ≤ sizeLine → (∀ d ∈ ds, f d ρw = some (S d) ∧ c (S d) = .ok true (S d) ∧ e (S d) = .ok (g d) (S d) ∧ wipeD (S d) vs = ρw) →
    iloop vs f c e ds acc ρw = .ok (acc ++ ds.map g) ρw
  | [], acc, _, _ => by simp [iloop]
  | d :: r, acc, hl, h => by
    obtain ⟨h1, h2, h3, h4⟩ := h d (by simp)
    rw [List.length_cons] at hl
    have ih := iloop_pure g S r (acc ++ [g d]) (by rw [List.length_append]; simp; omega) fun x hx => h x (by simp [hx])
    unfold iloop
    simp only [h1, h2, h3, if_pos (show acc.length < sizeLine by omega), h4, ih]
    simp
theorem oloop_pure {vs vs1 : List Nat} {f f1 : TgF} {c c1 : M Bool} {m2 : M (List D)} {e : M D} {ρw : DEnv} (L : D → List D) (g : D → D → D) (S : D → DEnv) (S2 : D → D → DEnv) : ∀ (ds acc : List D), acc.length + (ds.flatMap fun d => (L d).map (g d)).length ≤ sizeLine →
    (∀ d ∈ ds, f d ρw = some (S d) ∧ c (S d) = .ok true (S d) ∧ m2 (S d) = .ok (L d) (S d) ∧ calmAt (S d) vs1 = true ∧ (∀ x ∈ L d, f1 x (wipeD (S d) vs1) = some (S2 d x) ∧ c1 (S2 d x) = .ok true (S2 d x) ∧ e (S2 d x) = .ok (g d x) (S2 d x) ∧ wipeD (S2 d x) vs1 = wipeD (S d) vs1) ∧ wipeD (wipeD (S d) vs1) vs = ρw) →
    oloop vs f c m2 vs1 f1 c1 e ds acc ρw = .ok (acc ++ ds.flatMap fun d => (L d).map (g d)) ρw
  | [], acc, _, _ => by simp [oloop]
  | d :: r, acc, hl, h => by
    obtain ⟨h1, h2, h3, h4, h5, h6⟩ := h d (by simp)
    rw [List.flatMap_cons, List.length_append] at hl
    have il := iloop_pure (c := c1) (e := e) (g d) (S2 d) (L d) acc (by rw [List.length_map] at hl; omega) h5
    have ih := oloop_pure L g S S2 r (acc ++ (L d).map (g d)) (by rw [List.length_append]; omega) fun x hx => h x (by simp [hx])
    unfold oloop
    simp only [h1, h2, h3, if_pos h4, il, h6, ih]
    simp
theorem mcompB_pure {mi m2 : M (List D)} {vs vs1 : List Nat} {f f1 : TgF} {c c1 : M Bool} {e : M D} {ρ ρ0 : DEnv} {ds : List D} (L : D → List D) (g : D → D → D) (S : D → DEnv) (S2 : D → D → DEnv) (hi : mi ρ = .ok ds ρ0) (hc : calmAt ρ0 vs = true) (hl : (ds.flatMap fun d => (L d).map (g d)).length ≤ sizeLine)
    (h : ∀ d ∈ ds, f d (wipeD ρ0 vs) = some (S d) ∧ c (S d) = .ok true (S d) ∧ m2 (S d) = .ok (L d) (S d) ∧ calmAt (S d) vs1 = true ∧ (∀ x ∈ L d, f1 x (wipeD (S d) vs1) = some (S2 d x) ∧ c1 (S2 d x) = .ok true (S2 d x) ∧ e (S2 d x) = .ok (g d x) (S2 d x) ∧ wipeD (S2 d x) vs1 = wipeD (S d) vs1) ∧ wipeD (wipeD (S d) vs1) vs = wipeD ρ0 vs) :
    mcompB mi vs f c m2 vs1 f1 c1 e ρ = .ok (.list (ds.flatMap fun d => (L d).map (g d))) (restD ρ0 (wipeD ρ0 vs) vs) := by
  unfold mcompB mbind
  simp only [hi]
  unfold mcompB2
  rw [if_pos hc, oloop_pure L g S S2 ds [] (by simpa using hl) h]
  rfl
theorem mbind_ok {α β : Type} {m : M α} {f : α → M β} {ρ ρ1 : DEnv} {a : α} (h : m ρ = .ok a ρ1) : mbind m f ρ = f a ρ1 := by unfold mbind; rw [h]
theorem mop_ok {f : D → D → Option D} {ma mb : M D} {ρ ρ1 ρ2 : DEnv} {d e z : D} (h1 : ma ρ = .ok d ρ1) (h2 : mb ρ1 = .ok e ρ2) (h3 : f d e = some z) : mop f ma mb ρ = .ok z ρ2 := by
  unfold mop
  rw [mbind_ok h1, mbind_ok h2, h3]
  rfl
theorem mtestB_ok {m : M D} {ρ ρ' : DEnv} {b : Bool} (h : m ρ = .ok (.bool b) ρ') : mtestB m ρ = .ok b ρ' := by
  unfold mtestB
  rw [mbind_ok h]
  rfl
theorem mtest_ok {m : M D} {ρ ρ' : DEnv} {d : D} {b : Bool} (h : m ρ = .ok d ρ') (ht : truth d = some b) : mtest m ρ = .ok b ρ' := by
  unfold mtest
  rw [mbind_ok h, ht]
  rfl
theorem morB_f {a b : M Bool} {ρ ρ1 : DEnv} (h : a ρ = .ok false ρ1) : morB a b ρ = b ρ1 := by
  unfold morB
  rw [mbind_ok h]
  rfl
theorem morB_t {a b : M Bool} {ρ ρ1 : DEnv} (h : a ρ = .ok true ρ1) : morB a b ρ = .ok true ρ1 := by
  unfold morB
  rw [mbind_ok h]
  rfl
theorem mandB_t {a b : M Bool} {ρ ρ1 : DEnv} (h : a ρ = .ok true ρ1) : mandB a b ρ = b ρ1 := by
  unfold mandB
  rw [mbind_ok h]
  rfl
theorem mandB_f {a b : M Bool} {ρ ρ1 : DEnv} (h : a ρ = .ok false ρ1) : mandB a b ρ = .ok false ρ1 := by
  unfold mandB
  rw [mbind_ok h]
  rfl
theorem mnotB_ok {a : M Bool} {ρ ρ1 : DEnv} {b : Bool} (h : a ρ = .ok b ρ1) : mnotB a ρ = .ok (!b) ρ1 := by
  unfold mnotB
  rw [mbind_ok h]
  rfl
theorem sif_f {c : M Bool} {a b : MS} {ρ ρ1 : DEnv} (h : c ρ = .ok false ρ1) : sif c a b ρ = b ρ1 := by
  unfold sif sbind
  rw [h]
  rfl
theorem sif_t {c : M Bool} {a b : MS} {ρ ρ1 : DEnv} (h : c ρ = .ok true ρ1) : sif c a b ρ = a ρ1 := by
  unfold sif sbind
  rw [h]
  rfl
theorem sasg_ok {m : M D} {f : TgF} {ρ ρ1 ρ2 : DEnv} {d : D} (h : m ρ = .ok d ρ1) (hf : f d ρ1 = some ρ2) : sasg m f ρ = .next ρ2 := by
  unfold sasg sbind
  rw [h]
  simp only [hf]
theorem sret_ok {m : M D} {ρ ρ1 : DEnv} {d : D} (h : m ρ = .ok d ρ1) : sret m ρ = .ret d ρ1 := by
  unfold sret sbind
  rw [h]
theorem mcons_ok {m : M D} {ms : M (List D)} {ρ ρ1 ρ2 : DEnv} {d : D} {ds : List D} (h1 : m ρ = .ok d ρ1) (h2 : ms ρ1 = .ok ds ρ2) : mcons m ms ρ = .ok (d :: ds) ρ2 := by
  unfold mcons
  rw [mbind_ok h1, mbind_ok h2]
  rfl
theorem mcallF_ok {F : DEnv → Res D} {ms : M (List D)} {ρ ρ1 ρ2 : DEnv} {ds : List D} {d : D} (h : ms ρ = .ok ds ρ1) (hF : F (ds.map .val) = .ok d ρ2) : mcallF F ms ρ = .ok d ρ1 := by
  unfold mcallF
  rw [mbind_ok h, hF]
theorem mvar_ok {i : Nat} {ρ : DEnv} {d : D} (h : ρ[i]? = some (.val d)) : mvar i ρ = .ok d ρ := by
  unfold mvar
  rw [h]
theorem mcall_ok {f : List D → Option D} {ms : M (List D)} {ρ ρ1 : DEnv} {ds : List D} {z : D} (h : ms ρ = .ok ds ρ1) (hz : f ds = some z) : mcall f ms ρ = .ok z ρ1 := by
  unfold mcall
  rw [mbind_ok h, hz]
  rfl
/-! ### equality -/
mutual
theorem eqv_refl : ∀ d : D, noD d = true → PyData.eqv d d = true
  | .none, _ => rfl
  | .bool b, _ => by simp [PyData.eqv]
  | .int i, _ => by simp [PyData.eqv]
  | .str x, _ => by simp [PyData.eqv]
  | .list xs, h => by unfold PyData.eqv; exact eqvs_refl xs h
  | .tuple xs, h => by unfold PyData.eqv; exact eqvs_refl xs h
  | .dict _, h => by cases h
theorem eqvs_refl : ∀ ds : List D, noDs ds = true → PyData.eqvAll ds ds = true
  | [], _ => rfl
  | d :: ds, h => by
    have h' := Bool.and_eq_true_iff.mp h
    unfold PyData.eqvAll
    rw [eqv_refl d h'.1, eqvs_refl ds h'.2]
    rfl
end
/-- data of which like things are the same -/
inductive Pl : D → Prop
  | int (i : Int) : Pl (.int i)
  | str (x : Str) : Pl (.str x)
theorem eqvAll_ints : ∀ (xs ys : List Int), PyData.eqvAll (xs.map .int) (ys.map .int) = decide (xs = ys)
  | [], [] => rfl
  | [], _ :: _ => rfl
  | _ :: _, [] => rfl
  | x :: xs, y :: ys => by
    show (PyData.eqv (.int x) (.int y) && PyData.eqvAll (xs.map .int) (ys.map .int)) = _
    rw [eqvAll_ints xs ys]
    show ((x == y) && decide (xs = ys)) = _
    by_cases h : x = y <;> by_cases h2 : xs = ys <;> simp [h, h2]
theorem eqv_tup (xs ys : List Int) : PyData.eqv (.tuple (xs.map .int)) (.tuple (ys.map .int)) = decide (xs = ys) := by
  unfold PyData.eqv; exact eqvAll_ints xs ys
theorem eqvAll_map {α : Type} [DecidableEq α] (f : α → D) (h : ∀ a b, PyData.eqv (f a) (f b) = decide (a = b)) : ∀ (xs ys : List α), PyData.eqvAll (xs.map f) (ys.map f) = decide (xs = ys)
  | [], [] => rfl
  | [], _ :: _ => rfl
  | _ :: _, [] => rfl
  | x :: xs, y :: ys => by
    show (PyData.eqv (f x) (f y) && PyData.eqvAll (xs.map f) (ys.map f)) = _
    rw [eqvAll_map f h xs ys, h]
    by_cases h : x = y <;> by_cases h2 : xs = ys <;> simp [h, h2]
/-- data that may be asked for being equal -/
def Shp (n : Nat) (d : D) : Prop := d.canLay0 = true ∧ d.depth ≤ n
theorem Shp.int {n : Nat} (i : Int) : Shp n (.int i) := ⟨rfl, Nat.zero_le _⟩
theorem Shp.bool {n : Nat} (b : Bool) : Shp n (.bool b) := ⟨rfl, Nat.zero_le _⟩
theorem Shp.none {n : Nat} : Shp n .none := ⟨rfl, Nat.zero_le _⟩
theorem shp_all {n : Nat} : ∀ {ds : List D}, (∀ d ∈ ds, Shp n d) → PyData.canLayAll0 ds = true ∧ PyData.depthAll ds ≤ n
  | [], _ => ⟨rfl, Nat.zero_le _⟩
  | d :: ds, h => by
    obtain ⟨h1, h2⟩ := h d (by simp)
    obtain ⟨h3, h4⟩ := shp_all (ds := ds) fun x hx => h x (by simp [hx])
    refine ⟨?_, ?_⟩
    · unfold PyData.canLayAll0; rw [h1, h3]; rfl
    · unfold PyData.depthAll; omega
theorem Shp.list {n : Nat} {ds : List D} (h : ∀ d ∈ ds, Shp n d) : Shp (n + 1) (.list ds) := by
  obtain ⟨h1, h2⟩ := shp_all h
  refine ⟨?_, ?_⟩
  · unfold PyData.canLay0; exact h1
  · unfold PyData.depth; omega
theorem Shp.tuple {n : Nat} {ds : List D} (h : ∀ d ∈ ds, Shp n d) : Shp (n + 1) (.tuple ds) := by
  obtain ⟨h1, h2⟩ := shp_all h
  refine ⟨?_, ?_⟩
  · unfold PyData.canLay0; exact h1
  · unfold PyData.depth; omega
theorem Shp.sh {n : Nat} {d : D} (h : Shp n d) (hn : n ≤ 64 := by decide) : SeqAt.shaped d = true := by
  unfold SeqAt.shaped
  rw [h.1, decide_eq_true (Nat.le_trans h.2 hn)]
  rfl
theorem Shp.ints {n : Nat} (xs : List Int) : ∀ d ∈ xs.map PyData.int, Shp n d := fun d hd => by
  obtain ⟨i, _, rfl⟩ := List.mem_map.mp hd
  exact .int i
theorem Shp.tup (xs : List Int) : Shp 1 (.tuple (xs.map .int)) := .tuple (n := 0) (Shp.ints xs)
theorem cmpEq_of {d e : D} {n m : Nat} (h : Shp n d) (k : Shp m e) (hn : n ≤ 64 := by decide) (hm : m ≤ 64 := by decide) : cmpEq d e = some (.bool (PyData.eqv d e)) := by
  unfold cmpEq; rw [if_pos ⟨h.sh hn, k.sh hm⟩]
theorem cmpNe_of {d e : D} {n m : Nat} (h : Shp n d) (k : Shp m e) (hn : n ≤ 64 := by decide) (hm : m ≤ 64 := by decide) : cmpNe d e = some (.bool (!PyData.eqv d e)) := by
  unfold cmpNe; rw [if_pos ⟨h.sh hn, k.sh hm⟩]
/-! ### the hand -/
/-- cells, how many are read, the number that is left to draw from, two numbers of the mixer -/
def HandOk (h : D) : Prop := ∃ (cells : List Int) (i j k l : Int), h = .list [.list (cells.map .int), .int i, .int j, .int k, .int l] ∧ 0 ≤ i ∧ 0 ≤ j ∧ cells.length ≤ 63 ∧ ∀ z ∈ cells, 0 ≤ z
theorem handOk {cells : List Int} {z : Int} (h : cells.length ≤ 63) (hn : ∀ z ∈ cells, 0 ≤ z) : HandOk (handD cells z) := ⟨cells, 0, 0, z, 0, rfl, by omega, by omega, h, hn⟩
end PL
namespace Lw
open PySem PySem.Spec PyProof.Rows L2 RZ LamX PL
open PySem.W (Frag)
def top (i : Nat) : Stmt := PySem.Challenge.pw_hopskept_k09_whole_packets_and_cubes_of.main.body.getD i (.Pass ⟨0, 0, 0, 0⟩)
abbrev s_law_draw : Stmt := top 36
abbrev s_law_any : Stmt := top 37
abbrev s_law_wide : Stmt := top 38
abbrev s_law_packets : Stmt := top 40
abbrev s_is_sized : Stmt := top 3
abbrev s_is_integer : Stmt := top 1
abbrev s_is_within : Stmt := top 2
abbrev s_product_of : Stmt := top 16
abbrev s_is_space : Stmt := top 17
abbrev s_check_space : Stmt := top 18
abbrev s_raw_packets : Stmt := top 19
abbrev s_packets_of : Stmt := top 20
abbrev s_raw_is_packet : Stmt := top 21
abbrev s_is_packet : Stmt := top 22
abbrev s_raw_is_cube : Stmt := top 27
abbrev s_is_cube : Stmt := top 28
abbrev s_check_packet : Stmt := top 23
abbrev s_check_field : Stmt := top 25
abbrev s_raw_with : Stmt := top 24
abbrev s_with_value : Stmt := top 26
abbrev s_law_are_turned_right : Stmt := top 43
abbrev s_law_has : Stmt := top 42
abbrev s_check_cube : Stmt := top 29
abbrev s_raw_has : Stmt := top 30
abbrev s_raw_packets_in : Stmt := top 32
abbrev s_packets_in : Stmt := top 33
abbrev s_has_packet : Stmt := top 31
abbrev s_law_are_cubes_right : Stmt := top 44
abbrev s_law_no_space : Stmt := top 39
abbrev s_law_spoiled : Stmt := top 45
abbrev s_law_are_refused : Stmt := top 46
abbrev s_law_word : Stmt := top 41
abbrev s_law_hand : Stmt := top 35
abbrev s_law : Stmt := top 47
def wl : Str := "let"
def whs : List (Str × Str) := [("NoSpace", "NoSpace"), ("NoPacket", "NoPacket"), ("NoCube", "NoCube"), ("NoField", "NoField"), ("NoValue", "NoValue")]
structure TabOk (mg : Str → Option Value) (base : Heap) (T : Tb) (c P : Addr) (q : Str) : Prop where
  TB : TabB base mg c P
  mem : (P, q) ∈ T
  un : ∀ p ∈ T, p.1 = P → p.2 = q
structure Fct (K : Frag) (mg : Str → Option Value) where
  n_abs : mg "abs" = none
  n_all : mg "all" = none
  n_bool : mg "bool" = none
  n_enumerate : mg "enumerate" = none
  n_int : mg "int" = none
  n_isinstance : mg "isinstance" = none
  n_len : mg "len" = none
  n_list : mg "list" = none
  n_range : mg "range" = none
  n_tuple : mg "tuple" = none
  n_zip : mg "zip" = none
  c_LEAST_SIZE : ∃ t, mg "LEAST_SIZE" = some (.int 2 t)
  c_MOST_FIELDS : ∃ t, mg "MOST_FIELDS" = some (.int 4 t)
  c_MOST_PACKETS : ∃ t, mg "MOST_PACKETS" = some (.int 64 t)
  c_MOST_SIZE : ∃ t, mg "MOST_SIZE" = some (.int 8 t)
  C_NoCube : Addr
  x_NoCube : ExcF K mg "NoCube" C_NoCube
  C_NoField : Addr
  x_NoField : ExcF K mg "NoField" C_NoField
  C_NoPacket : Addr
  x_NoPacket : ExcF K mg "NoPacket" C_NoPacket
  C_NoSpace : Addr
  x_NoSpace : ExcF K mg "NoSpace" C_NoSpace
  C_NoValue : Addr
  x_NoValue : ExcF K mg "NoValue" C_NoValue
  v_law_draw : Value
  d_law_draw : DefC K mg "_law_draw" s_law_draw ["hand", "below"] v_law_draw
  v_law_any : Value
  d_law_any : DefC K mg "_law_any" s_law_any ["hand", "things"] v_law_any
  v_law_wide : Value
  d_law_wide : DefC K mg "_law_wide" s_law_wide ["hand"] v_law_wide
  v_law_packets : Value
  d_law_packets : DefC K mg "_law_packets" s_law_packets ["space"] v_law_packets
  v_is_sized : Value
  d_is_sized : DefC K mg "is_sized" s_is_sized ["thing", "least", "most"] v_is_sized
  v_is_integer : Value
  d_is_integer : DefC K mg "is_integer" s_is_integer ["thing"] v_is_integer
  v_is_within : Value
  d_is_within : DefC K mg "is_within" s_is_within ["thing", "least", "most"] v_is_within
  v_product_of : Value
  d_product_of : DefC K mg "product_of" s_product_of ["sizes"] v_product_of
  v_is_space : Value
  d_is_space : DefC K mg "is_space" s_is_space ["thing"] v_is_space
  v_check_space : Value
  d_check_space : DefC K mg "check_space" s_check_space ["space"] v_check_space
  v_raw_packets : Value
  d_raw_packets : DefC K mg "raw_packets" s_raw_packets ["space"] v_raw_packets
  v_packets_of : Value
  d_packets_of : DefC K mg "packets_of" s_packets_of ["space"] v_packets_of
  v_raw_is_packet : Value
  d_raw_is_packet : DefC K mg "raw_is_packet" s_raw_is_packet ["space", "thing"] v_raw_is_packet
  v_is_packet : Value
  d_is_packet : DefC K mg "is_packet" s_is_packet ["space", "thing"] v_is_packet
  v_raw_is_cube : Value
  d_raw_is_cube : DefC K mg "raw_is_cube" s_raw_is_cube ["space", "thing"] v_raw_is_cube
  v_is_cube : Value
  d_is_cube : DefC K mg "is_cube" s_is_cube ["space", "thing"] v_is_cube
  v_check_packet : Value
  d_check_packet : DefC K mg "check_packet" s_check_packet ["space", "packet"] v_check_packet
  v_check_field : Value
  d_check_field : DefC K mg "check_field" s_check_field ["space", "field", "value"] v_check_field
  v_raw_with : Value
  d_raw_with : DefC K mg "raw_with" s_raw_with ["packet", "field", "value"] v_raw_with
  v_with_value : Value
  d_with_value : DefC K mg "with_value" s_with_value ["space", "packet", "field", "value"] v_with_value
  v_law_are_turned_right : Value
  d_law_are_turned_right : DefC K mg "_law_are_turned_right" s_law_are_turned_right ["hand", "space", "packets"] v_law_are_turned_right
  v_law_has : Value
  d_law_has : DefC K mg "_law_has" s_law_has ["cube", "packet"] v_law_has
  v_check_cube : Value
  d_check_cube : DefC K mg "check_cube" s_check_cube ["space", "cube"] v_check_cube
  v_raw_has : Value
  d_raw_has : DefC K mg "raw_has" s_raw_has ["cube", "packet"] v_raw_has
  v_raw_packets_in : Value
  d_raw_packets_in : DefC K mg "raw_packets_in" s_raw_packets_in ["space", "cube"] v_raw_packets_in
  v_packets_in : Value
  d_packets_in : DefC K mg "packets_in" s_packets_in ["space", "cube"] v_packets_in
  v_has_packet : Value
  d_has_packet : DefC K mg "has_packet" s_has_packet ["space", "cube", "packet"] v_has_packet
  v_law_are_cubes_right : Value
  d_law_are_cubes_right : DefC K mg "_law_are_cubes_right" s_law_are_cubes_right ["hand", "space", "packets"] v_law_are_cubes_right
  v_law_no_space : Value
  d_law_no_space : DefC K mg "_law_no_space" s_law_no_space ["hand", "space"] v_law_no_space
  v_law_spoiled : Value
  d_law_spoiled : DefC K mg "_law_spoiled" s_law_spoiled ["hand", "space", "thing"] v_law_spoiled
  a_law_are_refused : Addr
  p_law_are_refused : Addr
  d_law_are_refused : DefC K mg "_law_are_refused" s_law_are_refused ["hand", "space", "packets"] (.ref a_law_are_refused)
  v_law_word : Value
  d_law_word : DefC K mg "_law_word" s_law_word ["call"] v_law_word
  xm_NoCube_NoSpace : PySem.W.exmOne K (.ref C_NoCube) (.ref C_NoSpace) = some false
  xm_NoCube_NoPacket : PySem.W.exmOne K (.ref C_NoCube) (.ref C_NoPacket) = some false
  xm_NoCube_NoCube : PySem.W.exmOne K (.ref C_NoCube) (.ref C_NoCube) = some true
  xm_NoField_NoSpace : PySem.W.exmOne K (.ref C_NoField) (.ref C_NoSpace) = some false
  xm_NoField_NoPacket : PySem.W.exmOne K (.ref C_NoField) (.ref C_NoPacket) = some false
  xm_NoField_NoCube : PySem.W.exmOne K (.ref C_NoField) (.ref C_NoCube) = some false
  xm_NoField_NoField : PySem.W.exmOne K (.ref C_NoField) (.ref C_NoField) = some true
  xm_NoPacket_NoSpace : PySem.W.exmOne K (.ref C_NoPacket) (.ref C_NoSpace) = some false
  xm_NoPacket_NoPacket : PySem.W.exmOne K (.ref C_NoPacket) (.ref C_NoPacket) = some true
  xm_NoSpace_NoSpace : PySem.W.exmOne K (.ref C_NoSpace) (.ref C_NoSpace) = some true
  xm_NoValue_NoSpace : PySem.W.exmOne K (.ref C_NoValue) (.ref C_NoSpace) = some false
  xm_NoValue_NoPacket : PySem.W.exmOne K (.ref C_NoValue) (.ref C_NoPacket) = some false
  xm_NoValue_NoCube : PySem.W.exmOne K (.ref C_NoValue) (.ref C_NoCube) = some false
  xm_NoValue_NoField : PySem.W.exmOne K (.ref C_NoValue) (.ref C_NoField) = some false
  xm_NoValue_NoValue : PySem.W.exmOne K (.ref C_NoValue) (.ref C_NoValue) = some true
  v_law_hand : Value
  d_law_hand : DefC K mg "_law_hand" s_law_hand ["script"] v_law_hand
structure Txt (K : Frag) (mg : Str → Option Value) (base : Heap) (T : Tb) extends Fct K mg where
  tab_law_are_refused : TabOk mg base T a_law_are_refused p_law_are_refused "_law_are_refused.<locals>.<lambda>"
section
variable {P : Program} {w : World} {K : Frag} {mg : Str → Option Value} {base : Heap} {T : Tb}
theorem sc_law_word : FnScope ["call", "found"] ["call"] (defScope s_law_word) := ⟨rfl, rfl, rfl, by decide +kernel, rfl, by decide +kernel, by decide +kernel⟩
theorem who (t : Txt K mg base T) : HsOk ⟨K, T, mg⟩ whs [(t.C_NoSpace, "NoSpace"), (t.C_NoPacket, "NoPacket"), (t.C_NoCube, "NoCube"), (t.C_NoField, "NoField"), (t.C_NoValue, "NoValue")] := by
  refine ⟨fun c r C Q H hc hl q => ?_⟩
  unfold whs at hl
  rw [List.lookup_cons] at hl
  by_cases e : c = "NoSpace"
  · subst e
    simp only [BEq.rfl] at hl
    injection hl with hl
    subst hl
    have e : Value.ref C = .ref t.C_NoSpace := Option.some.inj (hc.symm.trans t.x_NoSpace.g)
    injection e with e
    subst e
    exact ⟨true, t.xm_NoSpace_NoSpace, fun _ => q, fun z => Bool.noConfusion z⟩
  rw [beq_eq_false_iff_ne.mpr e] at hl
  simp only at hl
  rw [List.lookup_cons] at hl
  by_cases e : c = "NoPacket"
  · subst e
    simp only [BEq.rfl] at hl
    injection hl with hl
    subst hl
    have e : Value.ref C = .ref t.C_NoPacket := Option.some.inj (hc.symm.trans t.x_NoPacket.g)
    injection e with e
    subst e
    exact ⟨false, t.xm_NoPacket_NoSpace, fun z => Bool.noConfusion z, fun _ => ⟨true, t.xm_NoPacket_NoPacket, fun _ => q, fun z => Bool.noConfusion z⟩⟩
  rw [beq_eq_false_iff_ne.mpr e] at hl
  simp only at hl
  rw [List.lookup_cons] at hl
  by_cases e : c = "NoCube"
  · subst e
    simp only [BEq.rfl] at hl
    injection hl with hl
    subst hl
    have e : Value.ref C = .ref t.C_NoCube := Option.some.inj (hc.symm.trans t.x_NoCube.g)
    injection e with e
    subst e
    exact ⟨false, t.xm_NoCube_NoSpace, fun z => Bool.noConfusion z, fun _ => ⟨false, t.xm_NoCube_NoPacket, fun z => Bool.noConfusion z, fun _ => ⟨true, t.xm_NoCube_NoCube, fun _ => q, fun z => Bool.noConfusion z⟩⟩⟩
  rw [beq_eq_false_iff_ne.mpr e] at hl
  simp only at hl
  rw [List.lookup_cons] at hl
  by_cases e : c = "NoField"
  · subst e
    simp only [BEq.rfl] at hl
    injection hl with hl
    subst hl
    have e : Value.ref C = .ref t.C_NoField := Option.some.inj (hc.symm.trans t.x_NoField.g)
    injection e with e
    subst e
    exact ⟨false, t.xm_NoField_NoSpace, fun z => Bool.noConfusion z, fun _ => ⟨false, t.xm_NoField_NoPacket, fun z => Bool.noConfusion z, fun _ => ⟨false, t.xm_NoField_NoCube, fun z => Bool.noConfusion z, fun _ => ⟨true, t.xm_NoField_NoField, fun _ => q, fun z => Bool.noConfusion z⟩⟩⟩⟩
  rw [beq_eq_false_iff_ne.mpr e] at hl
  simp only at hl
  rw [List.lookup_cons] at hl
  by_cases e : c = "NoValue"
  · subst e
    simp only [BEq.rfl] at hl
    injection hl with hl
    subst hl
    have e : Value.ref C = .ref t.C_NoValue := Option.some.inj (hc.symm.trans t.x_NoValue.g)
    injection e with e
    subst e
    exact ⟨false, t.xm_NoValue_NoSpace, fun z => Bool.noConfusion z, fun _ => ⟨false, t.xm_NoValue_NoPacket, fun z => Bool.noConfusion z, fun _ => ⟨false, t.xm_NoValue_NoCube, fun z => Bool.noConfusion z, fun _ => ⟨false, t.xm_NoValue_NoField, fun z => Bool.noConfusion z, fun _ => ⟨true, t.xm_NoValue_NoValue, fun _ => q, fun z => Bool.noConfusion z⟩⟩⟩⟩⟩
  rw [beq_eq_false_iff_ne.mpr e] at hl
  simp only at hl
  simp at hl
theorem pd_wordT {X : Cx} {W : WX} {T : Tb} {c P : Addr} {k : Nat} {q : Str} {params : Arguments} {body : Expr} {scope : Scope} {m : M D} {p lpos pos : Pos} (t : Txt X.K X.mg X.base T) (tab : TabOk X.mg X.base T c P q) (hg : Gl X "_law_word") (hq : X.env.qual ++ "<lambda>" = q) (hcode : X.env.code = .ref c) (hr : Room (k + 2) X.A) (L : LamS X.env.scope scope) (hdef : defaultsOf params X.env = ([], []))
    (hbind : ∀ (q : Str) (cl : List (Str × Addr)) (pm cv ctv : Value), bindArgs (PySem.W.kla_fn "<lambda>" q params body scope cl pm cv ctv) ⟨[], []⟩ = pure [])
    (hbody : ∀ (A : Around) (outer : List Env) (s : Shared) (H : Hp) (E : XK) (f c' : Addr), Room k (A.deeper (lamEnv X scope s.heap.objs.size f c')) → PD (lamCx X A outer s H E scope f c') T (Wd E) body m) :
    PD X T W (.Call (.Name "_law_word" p) [.Lambda params body scope lpos] [] pos) (mword wl whs m) := by
  subst hq
  obtain ⟨g, oc, od, kV, doc, pm, an, ct, osl, lk, hcg, hk, hm, hb⟩ := t.d_law_word.ex
  exact pd_word (sg := defScope s_law_word) (a := "call") (v := "found") (l := wl) (hs := whs) hg hm hk lk hcg hb sc_law_word (Or.inl rfl) rfl rfl rfl (fun s H f => (.cons ⟨rfl, by decide, Or.inl t.x_NoSpace.g⟩ (.cons ⟨rfl, by decide, Or.inl t.x_NoPacket.g⟩ (.cons ⟨rfl, by decide, Or.inl t.x_NoCube.g⟩ (.cons ⟨rfl, by decide, Or.inl t.x_NoField.g⟩ (.cons ⟨rfl, by decide, Or.inl t.x_NoValue.g⟩ .nil)))))) (who t) tab.TB hcode tab.mem tab.un hr L hdef hbind hbody
/-! _law_draw: 0 hand, 1 below, 2 cell, 3 digit, 4 mixed -/
theorem sc_law_draw : FnScope ["hand", "below", "cell", "digit", "mixed"] ["hand", "below"] (defScope s_law_draw) := ⟨rfl, rfl, rfl, by decide +kernel, rfl, by decide +kernel, by decide +kernel⟩
def q_law_draw_0 : MS :=
  sif (mandB (mtestB (mop cmpEq (mixO 0 (mret (.int 2))) (mret (.int 0)))) (mtestB (mop cmpLt (mixO 0 (mret (.int 1))) (mcall fLen (mcons (mixO 0 (mret (.int 0))) (mnil))))))
  (sseq (sasg (mop fIx (mixO 0 (mret (.int 0))) (mixO 0 (mret (.int 1)))) (tname 2))
  (sseq (ssub 0 (mret (.int 1)) (mop opAdd (mixO 0 (mret (.int 1))) (mret (.int 1))))
  (sseq (ssub 0 (mret (.int 3)) (mop opMod (mcall fInt (mcons (mop opAdd (mop opAdd (mop opMul (mixO 0 (mret (.int 3))) (mret (.int 48271))) (mop opMul (mvar 2) (mret (.int 69621)))) (mret (.int 37))) (mnil))) (mret (.int 2147483629)))) (sif (mtestB (mop cmpGe (mvar 2) (mop opPow (mret (.int 10)) (mret (.int 18))))) (ssub 0 (mret (.int 2)) (mvar 2)) (snext))))) (snext)
def q_law_draw_1 : MS :=
  sif (mtestB (mop cmpGt (mixO 0 (mret (.int 2))) (mret (.int 0))))
  (sseq (sasg (mop opMod (mcall fInt (mcons (mixO 0 (mret (.int 2))) (mnil))) (mvar 1)) (tname 3))
  (sseq (ssub 0 (mret (.int 2)) (mop opFdiv (mixO 0 (mret (.int 2))) (mvar 1))) (sret (mvar 3)))) (snext)
def q_law_draw_2 : MS :=
  ssub 0 (mret (.int 4)) (mop opAdd (mixO 0 (mret (.int 4))) (mret (.int 1)))
def q_law_draw_3 : MS :=
  sasg (mop opMod (mcall fInt (mcons (mop opMul (mcall fInt (mcons (mop opAdd (mixO 0 (mret (.int 3))) (mop opMul (mret (.int 7919)) (mixO 0 (mret (.int 4))))) (mnil))) (mret (.int 48271))) (mnil))) (mret (.int 2147483647))) (tname 4)
def q_law_draw_4 : MS :=
  sasg (mop opMod (mcall fInt (mcons (mop opMul (mvar 4) (mop opAdd (mop opFdiv (mvar 4) (mret (.int 1009))) (mret (.int 69621)))) (mnil))) (mret (.int 2147483647))) (tname 4)
def q_law_draw_5 : MS :=
  sasg (mop opMod (mcall fInt (mcons (mop opMul (mvar 4) (mop opAdd (mop opFdiv (mvar 4) (mret (.int 2003))) (mret (.int 40014)))) (mnil))) (mret (.int 2147483563))) (tname 4)
def q_law_draw_6 : MS :=
  sret (mop opMod (mcall fInt (mcons (mop opFdiv (mvar 4) (mret (.int 16))) (mnil))) (mvar 1))
def q_law_draw_ : MS :=
  sseq q_law_draw_0 (sseq q_law_draw_1 (sseq q_law_draw_2 (sseq q_law_draw_3 (sseq q_law_draw_4 (sseq q_law_draw_5 (q_law_draw_6))))))
def b_law_draw : MS := q_law_draw_
def F_law_draw : DEnv → Res D := runDef 3 b_law_draw
theorem ok_law_draw (t : Txt K mg base T) : Has P w K mg base T 1 "_law_draw" ["hand", "below"] F_law_draw := has_D (k := 0) t.d_law_draw sc_law_draw 3 rfl fun f A outer s H E hr =>
    (pss_cons' (pds_if ((pbw_and (pb_cmp (ox_eq (hu64 hr)) (pd_ixO (pv 0) pd_int) pd_int) (pbw_and1 (pb_cmp ox_lt (pd_ixO (pv 0) pd_int) (pd_callB cx_len (by rfl) t.n_len boot_len (pas_cons (pd_ixO (pv 0) pd_int) pas_nil))))).pb) (pss_cons' (pds_asg (pd_ix ix_seq' (pd_ixO (pv 0) pd_int) (pd_ixO (pv 0) pd_int)) (tg_name (pg_name (i := 2) sc_law_draw.nd rfl (by first | exact Or.inl rfl | exact Or.inr rfl))))
      (pss_cons' (pds_sub (pv 0) pd_int (pd_op ox_add (pd_ixO (pv 0) pd_int) pd_int) (fun ti h => pg_sub (pv 0) h set_list))
      (pss_cons' (pds_sub (pv 0) pd_int (pd_op ox_mod (pd_callTy cx_int (by rfl) t.n_int boot_int (pas_cons (pd_op ox_add (pd_op ox_add (pd_op ox_mul (pd_ixO (pv 0) pd_int) pd_int) (pd_op ox_mul (pd_var (pv 2)) pd_int)) pd_int) pas_nil)) pd_int) (fun ti h => pg_sub (pv 0) h set_list))
      (pss_one' (pds_if (pb_cmp ox_ge (pd_var (pv 2)) (pd_op ox_pow pd_int pd_int)) (pss_one' (pds_sub (pv 0) pd_int (pd_var (pv 2)) (fun ti h => pg_sub (pv 0) h set_list))) pss_nil'))))) pss_nil')
      (pss_cons' (pds_if (pb_cmp ox_gt (pd_ixO (pv 0) pd_int) pd_int) (pss_cons' (pds_asg (pd_op ox_mod (pd_callTy cx_int (by rfl) t.n_int boot_int (pas_cons (pd_ixO (pv 0) pd_int) pas_nil)) (pd_var (pv 1))) (tg_name (pg_name (i := 3) sc_law_draw.nd rfl (by first | exact Or.inl rfl | exact Or.inr rfl))))
      (pss_cons' (pds_sub (pv 0) pd_int (pd_op ox_fdiv (pd_ixO (pv 0) pd_int) (pd_var (pv 1))) (fun ti h => pg_sub (pv 0) h set_list))
      (pss_one' (pds_ret (pd_var (pv 3)))))) pss_nil')
      (pss_cons' (pds_sub (pv 0) pd_int (pd_op ox_add (pd_ixO (pv 0) pd_int) pd_int) (fun ti h => pg_sub (pv 0) h set_list))
      (pss_cons' (pds_asg (pd_op ox_mod (pd_callTy cx_int (by rfl) t.n_int boot_int (pas_cons (pd_op ox_mul (pd_callTy cx_int (by rfl) t.n_int boot_int (pas_cons (pd_op ox_add (pd_ixO (pv 0) pd_int) (pd_op ox_mul pd_int (pd_ixO (pv 0) pd_int))) pas_nil)) pd_int) pas_nil)) pd_int) (tg_name (pg_name (i := 4) sc_law_draw.nd rfl (by first | exact Or.inl rfl | exact Or.inr rfl))))
      (pss_cons' (pds_asg (pd_op ox_mod (pd_callTy cx_int (by rfl) t.n_int boot_int (pas_cons (pd_op ox_mul (pd_var (pv 4)) (pd_op ox_add (pd_op ox_fdiv (pd_var (pv 4)) pd_int) pd_int)) pas_nil)) pd_int) (tg_name (pg_name (i := 4) sc_law_draw.nd rfl (by first | exact Or.inl rfl | exact Or.inr rfl))))
      (pss_cons' (pds_asg (pd_op ox_mod (pd_callTy cx_int (by rfl) t.n_int boot_int (pas_cons (pd_op ox_mul (pd_var (pv 4)) (pd_op ox_add (pd_op ox_fdiv (pd_var (pv 4)) pd_int) pd_int)) pas_nil)) pd_int) (tg_name (pg_name (i := 4) sc_law_draw.nd rfl (by first | exact Or.inl rfl | exact Or.inr rfl))))
      (pss_one' (pds_ret (pd_op ox_mod (pd_callTy cx_int (by rfl) t.n_int boot_int (pas_cons (pd_op ox_fdiv (pd_var (pv 4)) pd_int) pas_nil)) (pd_var (pv 1)))))))))))
/-! _law_any: 0 hand, 1 things -/
theorem sc_law_any : FnScope ["hand", "things"] ["hand", "things"] (defScope s_law_any) := ⟨rfl, rfl, rfl, by decide +kernel, rfl, by decide +kernel, by decide +kernel⟩
def q_law_any_0 : MS :=
  sret (mixO 1 (mcallIo F_law_draw 0 (mcons (mcall fLen (mcons (mvar 1) (mnil))) (mnil))))
def q_law_any_ : MS :=
  q_law_any_0
def b_law_any : MS := q_law_any_
def F_law_any : DEnv → Res D := runDef 0 b_law_any
theorem ok_law_any (t : Txt K mg base T) : Has P w K mg base T 2 "_law_any" ["hand", "things"] F_law_any := has_D (k := 1) t.d_law_any sc_law_any 0 rfl fun f A outer s H E hr =>
    (pss_one' (pds_ret (pd_ixO (pv 1) (pd_callIoH (ok_law_draw t) (hr.mono (by decide)) (by rfl) (fun σ => passAt (takes_of rfl rfl rfl rfl) σ) (pv 0) (ml_cons ml_nil) (pas_cons (pd_callB cx_len (by rfl) t.n_len boot_len (pas_cons (pd_var (pv 1)) pas_nil)) pas_nil)))))
/-! _law_wide: 0 hand, 1 space, 2 many, 3 turn, 4 sizes, 5 size -/
theorem sc_law_wide : FnScope ["hand", "space", "many", "turn", "sizes", "size"] ["hand"] (defScope s_law_wide) := ⟨rfl, rfl, rfl, by decide +kernel, rfl, by decide +kernel, by decide +kernel⟩
def q_law_wide_0 : MS :=
  sasg (mtup (mcons (mtup (mnil)) (mcons (mret (.int 1)) (mnil)))) (ttup 2 (tcons (tname 1) (tcons (tname 2) (tnil))))
def k_law_wide_0 : M D :=
  mcomp (mrange range2 (mcons (mret (.int 2)) (mcons (mret (.int 9)) (mnil)))) [5] (tname 5) (mtestB (mop cmpLe (mop opMul (mvar 5) (mvar 2)) (mret (.int 64)))) (mvar 5)
def q_law_wide_1b0 : MS :=
  sasg (k_law_wide_0) (tname 4)
def q_law_wide_1b1 : MS :=
  sif (mtestB (mop cmpGt (mcall fLen (mcons (mvar 4) (mnil))) (mret (.int 0))))
  (sseq (sasg (mop opAdd (mvar 1) (mtup (mcons (mcallIo F_law_any 0 (mcons (mvar 4) (mnil))) (mnil)))) (tname 1)) (sasg (mop opMul (mvar 2) (mixO 1 (mneg (mret (.int 1))))) (tname 2))) (snext)
def q_law_wide_1b : MS :=
  sseq q_law_wide_1b0 (q_law_wide_1b1)
def q_law_wide_1 : MS :=
  sfor (mrange range1 (mcons (mop opAdd (mret (.int 1)) (mcallIo F_law_draw 0 (mcons (mret (.int 4)) (mnil)))) (mnil))) (tname 3) (q_law_wide_1b)
def q_law_wide_2 : MS :=
  sret (mvar 1)
def q_law_wide_ : MS :=
  sseq q_law_wide_0 (sseq q_law_wide_1 (q_law_wide_2))
def b_law_wide : MS := q_law_wide_
def F_law_wide : DEnv → Res D := runDef 5 b_law_wide
theorem ok_law_wide (t : Txt K mg base T) : Has P w K mg base T 3 "_law_wide" ["hand"] F_law_wide := has_D (k := 2) t.d_law_wide sc_law_wide 5 rfl fun f A outer s H E hr =>
    (pss_cons' (pds_asg (pd_tup (pas_cons (pd_tup pas_nil) (pas_cons pd_int pas_nil))) (tg_tup (tgs_cons (tg_name (pg_name (i := 1) sc_law_wide.nd rfl (by first | exact Or.inl rfl | exact Or.inr rfl))) (tgs_cons (tg_name (pg_name (i := 2) sc_law_wide.nd rfl (by first | exact Or.inl rfl | exact Or.inr rfl))) (tgs_nil pgs_nil) (fun _ _ a b => pgs_cons a b)) (fun _ _ a b => pgs_cons a b)) (fun _ h => pg_tup rfl h)))
      (pss_cons' (pds_for (passes_of rfl) rfl (pdi_range1 (by rfl) t.n_range (pas_cons (pd_op ox_add pd_int (pd_callIoH (ok_law_draw t) (hr.mono (by decide)) (by rfl) (fun σ => passAt (takes_of rfl rfl rfl rfl) σ) (pv 0) (ml_cons ml_nil) (pas_cons pd_int pas_nil))) pas_nil)) (tg_name (pg_name (i := 3) sc_law_wide.nd rfl (by first | exact Or.inl rfl | exact Or.inr rfl))) (pss_cons' (by refine pds_asgL ?a ?b ?c ?d; (case b => rfl); (case c => rfl); (case d => exact sw_true rfl rfl rfl rfl); (case a => exact (pn_comp (own := [("size", 5)]) rfl sc_law_wide.nd (pdi_range2 (by rfl) t.n_range (pas_cons pd_int (pas_cons pd_int pas_nil))) (blkOk_by (N := ["hand", "space", "many", "turn", "sizes", "size"]) (sc := defScope s_law_wide) (own := [("size", 5)]) (by decide +kernel)) (fun i => (tg_name (pg_name (i := 5) sc_law_wide.nd rfl (by first | exact Or.inl rfl | exact Or.inr rfl)))) (by decide) (fun i => (ptsD_one (pb_cmp ox_le (pd_op ox_mul (pd_var (pv 5)) (pd_var (pv 2))) pd_int))) (fun i => (pd_var (pv 5))))))
      (pss_one' (pds_if (pb_cmp ox_gt (pd_callB cx_len (by rfl) t.n_len boot_len (pas_cons (pd_var (pv 4)) pas_nil)) pd_int) (pss_cons' (pds_asg (pd_op ox_add (pd_var (pv 1)) (pd_tup (pas_cons (pd_callIoH (ok_law_any t) (hr.mono (by decide)) (by rfl) (fun σ => passAt (takes_of rfl rfl rfl rfl) σ) (pv 0) (ml_cons ml_nil) (pas_cons (pd_var (pv 4)) pas_nil)) pas_nil))) (tg_name (pg_name (i := 1) sc_law_wide.nd rfl (by first | exact Or.inl rfl | exact Or.inr rfl))))
      (pss_one' (pds_asg (pd_op ox_mul (pd_var (pv 2)) (pd_ixO (pv 1) (pd_neg pd_int))) (tg_name (pg_name (i := 2) sc_law_wide.nd rfl (by first | exact Or.inl rfl | exact Or.inr rfl)))))) pss_nil'))))
      (pss_one' (pds_ret (pd_var (pv 1))))))
/-! _law_packets: 0 space, 1 found, 2 size, 3 longer, 4 packet, 5 value -/
theorem sc_law_packets : FnScope ["space", "found", "size", "longer", "packet", "value"] ["space"] (defScope s_law_packets) := ⟨rfl, rfl, rfl, by decide +kernel, rfl, by decide +kernel, by decide +kernel⟩
def q_law_packets_0 : MS :=
  sasg (mlst (mcons (mtup (mnil)) (mnil))) (tname 1)
def q_law_packets_1b0 : MS :=
  snew (mlst (mnil)) 3
def k_law_packets_0 : M D :=
  mcomp (mrange range1 (mcons (mvar 2) (mnil))) [5] (tname 5) (mret true) (mop opAdd (mvar 4) (mtup (mcons (mvar 5) (mnil))))
def q_law_packets_1b1b0 : MS :=
  sdrop (mmut 3 "list" fExtend (mcons (k_law_packets_0) (mnil)))
def q_law_packets_1b1b : MS :=
  q_law_packets_1b1b0
def q_law_packets_1b1 : MS :=
  sfor (mitems (mvar 1)) (tname 4) (q_law_packets_1b1b)
def q_law_packets_1b2 : MS :=
  sasg (mvar 3) (tname 1)
def q_law_packets_1b : MS :=
  sseq q_law_packets_1b0 (sseq q_law_packets_1b1 (q_law_packets_1b2))
def q_law_packets_1 : MS :=
  sfor (mitems (mvar 0)) (tname 2) (q_law_packets_1b)
def q_law_packets_2 : MS :=
  sret (mvar 1)
def q_law_packets_ : MS :=
  sseq q_law_packets_0 (sseq q_law_packets_1 (q_law_packets_2))
def b_law_packets : MS := q_law_packets_
def F_law_packets : DEnv → Res D := runDef 5 b_law_packets
theorem ok_law_packets (t : Txt K mg base T) : Has P w K mg base T 1 "_law_packets" ["space"] F_law_packets := has_D (k := 0) t.d_law_packets sc_law_packets 5 rfl fun f A outer s H E hr =>
    (pss_cons' (pds_asg ((pn_lst (pas_cons (pd_tup pas_nil) pas_nil)).pd) (tg_name (pg_name (i := 1) sc_law_packets.nd rfl (by first | exact Or.inl rfl | exact Or.inr rfl))))
      (pss_cons' (pds_for (passes_of rfl) rfl (pdi_val (pd_var (pv 0))) (tg_name (pg_name (i := 2) sc_law_packets.nd rfl (by first | exact Or.inl rfl | exact Or.inr rfl))) (pss_cons' (pds_new (pn_lst pas_nil) (pg_name (i := 3) sc_law_packets.nd rfl (by first | exact Or.inl rfl | exact Or.inr rfl)))
      (pss_cons' (pds_for (passes_of rfl) rfl (pdi_val (pd_var (pv 1))) (tg_name (pg_name (i := 4) sc_law_packets.nd rfl (by first | exact Or.inl rfl | exact Or.inr rfl))) (pss_one' (pds_expr (pd_mut PySem.F.plainAttrs_list PySem.F.slot_list_extend rfl mu_extend (pv 3) (pas_cons ((pn_comp (own := [("value", 5)]) rfl sc_law_packets.nd (pdi_range1 (by rfl) t.n_range (pas_cons (pd_var (pv 2)) pas_nil)) (blkOk_by (N := ["space", "found", "size", "longer", "packet", "value"]) (sc := defScope s_law_packets) (own := [("value", 5)]) (by decide +kernel)) (fun i => (tg_name (pg_name (i := 5) sc_law_packets.nd rfl (by first | exact Or.inl rfl | exact Or.inr rfl)))) (by decide) (fun i => ptsD_nil) (fun i => (pd_op ox_add (pd_var (pv 4)) (pd_tup (pas_cons (pd_var (pv 5)) pas_nil))))).pn.pd) pas_nil)))))
      (pss_one' (pds_asg (pd_var (pv 3)) (tg_name (pg_name (i := 1) sc_law_packets.nd rfl (by first | exact Or.inl rfl | exact Or.inr rfl))))))))
      (pss_one' (pds_ret (pd_var (pv 1))))))
/-! is_sized: 0 thing, 1 least, 2 most -/
theorem sc_is_sized : FnScope ["thing", "least", "most"] ["thing", "least", "most"] (defScope s_is_sized) := ⟨rfl, rfl, rfl, by decide +kernel, rfl, by decide +kernel, by decide +kernel⟩
def q_is_sized_0 : MS :=
  sret (mand (misi "tuple" (mvar 0)) (mchain cmpLe cmpLe (mvar 1) (mcall fLen (mcons (mvar 0) (mnil))) (mvar 2)))
def q_is_sized_ : MS :=
  q_is_sized_0
def b_is_sized : MS := q_is_sized_
def F_is_sized : DEnv → Res D := runDef 0 b_is_sized
theorem ok_is_sized (t : Txt K mg base T) : Has P w K mg base T 1 "is_sized" ["thing", "least", "most"] F_is_sized := has_D (k := 0) t.d_is_sized sc_is_sized 0 rfl fun f A outer s H E hr =>
    (pss_one' (pds_ret (pd_and (pd_isi (ty := "x") (pd_var (pv 0)) (by rfl) t.n_isinstance (pe_bltn (by rfl) t.n_tuple boot_tuple rfl)) (pd_one (pd_chain ox_le ox_le (pd_var (pv 1)) (pd_callB cx_len (by rfl) t.n_len boot_len (pas_cons (pd_var (pv 0)) pas_nil)) (pd_var (pv 2)))))))
/-! is_integer: 0 thing -/
theorem sc_is_integer : FnScope ["thing"] ["thing"] (defScope s_is_integer) := ⟨rfl, rfl, rfl, by decide +kernel, rfl, by decide +kernel, by decide +kernel⟩
def q_is_integer_0 : MS :=
  sret (mand (misi "int" (mvar 0)) (mnot (misi "bool" (mvar 0))))
def q_is_integer_ : MS :=
  q_is_integer_0
def b_is_integer : MS := q_is_integer_
def F_is_integer : DEnv → Res D := runDef 0 b_is_integer
theorem ok_is_integer (t : Txt K mg base T) : Has P w K mg base T 1 "is_integer" ["thing"] F_is_integer := has_D (k := 0) t.d_is_integer sc_is_integer 0 rfl fun f A outer s H E hr =>
    (pss_one' (pds_ret (pd_and (pd_isi (ty := "x") (pd_var (pv 0)) (by rfl) t.n_isinstance (pe_bltn (by rfl) t.n_int boot_int rfl)) (pd_one (pd_not (pd_isi (ty := "x") (pd_var (pv 0)) (by rfl) t.n_isinstance (pe_bltn (by rfl) t.n_bool boot_bool rfl)))))))
/-! is_within: 0 thing, 1 least, 2 most -/
theorem sc_is_within : FnScope ["thing", "least", "most"] ["thing", "least", "most"] (defScope s_is_within) := ⟨rfl, rfl, rfl, by decide +kernel, rfl, by decide +kernel, by decide +kernel⟩
def q_is_within_0 : MS :=
  sret (mand (mcallF F_is_integer (mcons (mvar 0) (mnil))) (mchain cmpLe cmpLe (mvar 1) (mvar 0) (mvar 2)))
def q_is_within_ : MS :=
  q_is_within_0
def b_is_within : MS := q_is_within_
def F_is_within : DEnv → Res D := runDef 0 b_is_within
theorem ok_is_within (t : Txt K mg base T) : Has P w K mg base T 2 "is_within" ["thing", "least", "most"] F_is_within := has_D (k := 1) t.d_is_within sc_is_within 0 rfl fun f A outer s H E hr =>
    (pss_one' (pds_ret (pd_and (pd_callH (ok_is_integer t) (hr.mono (by decide)) (by rfl) (fun σ => passAt (takes_of rfl rfl rfl rfl) σ) (ml_cons ml_nil) (pas_cons (pd_var (pv 0)) pas_nil)) (pd_one (pd_chain ox_le ox_le (pd_var (pv 1)) (pd_var (pv 0)) (pd_var (pv 2)))))))
/-! product_of: 0 sizes, 1 found, 2 size -/
theorem sc_product_of : FnScope ["sizes", "found", "size"] ["sizes"] (defScope s_product_of) := ⟨rfl, rfl, rfl, by decide +kernel, rfl, by decide +kernel, by decide +kernel⟩
def q_product_of_0 : MS :=
  sasg (mret (.int 1)) (tname 1)
def q_product_of_1b0 : MS :=
  sasg (mop opMul (mvar 1) (mvar 2)) (tname 1)
def q_product_of_1b : MS :=
  q_product_of_1b0
def q_product_of_1 : MS :=
  sfor (mitems (mvar 0)) (tname 2) (q_product_of_1b)
def q_product_of_2 : MS :=
  sret (mvar 1)
def q_product_of_ : MS :=
  sseq q_product_of_0 (sseq q_product_of_1 (q_product_of_2))
def b_product_of : MS := q_product_of_
def F_product_of : DEnv → Res D := runDef 2 b_product_of
theorem ok_product_of (t : Txt K mg base T) : Has P w K mg base T 1 "product_of" ["sizes"] F_product_of := has_D (k := 0) t.d_product_of sc_product_of 2 rfl fun f A outer s H E hr =>
    (pss_cons' (pds_asg pd_int (tg_name (pg_name (i := 1) sc_product_of.nd rfl (by first | exact Or.inl rfl | exact Or.inr rfl))))
      (pss_cons' (pds_for (passes_of rfl) rfl (pdi_val (pd_var (pv 0))) (tg_name (pg_name (i := 2) sc_product_of.nd rfl (by first | exact Or.inl rfl | exact Or.inr rfl))) (pss_one' (pds_asg (pd_op ox_mul (pd_var (pv 1)) (pd_var (pv 2))) (tg_name (pg_name (i := 1) sc_product_of.nd rfl (by first | exact Or.inl rfl | exact Or.inr rfl))))))
      (pss_one' (pds_ret (pd_var (pv 1))))))
/-! is_space: 0 thing, 1 size -/
theorem sc_is_space : FnScope ["thing", "size"] ["thing"] (defScope s_is_space) := ⟨rfl, rfl, rfl, by decide +kernel, rfl, by decide +kernel, by decide +kernel⟩
def k_is_space_0 : M D :=
  mcomp (mitems (mvar 0)) [1] (tname 1) (mret true) (mcallF F_is_within (mcons (mvar 1) (mcons (mret (.int 2)) (mcons (mret (.int 8)) (mnil)))))
def q_is_space_0 : MS :=
  sif (morB (mnotB (mtest (mcallF F_is_sized (mcons (mvar 0) (mcons (mret (.int 1)) (mcons (mret (.int 4)) (mnil))))))) (mnotB (mtest (mcall fAll (mcons (k_is_space_0) (mnil)))))) (sret (mret (.bool false))) (snext)
def q_is_space_1 : MS :=
  sret (mop cmpLe (mcallF F_product_of (mcons (mvar 0) (mnil))) (mret (.int 64)))
def q_is_space_ : MS :=
  sseq q_is_space_0 (q_is_space_1)
def b_is_space : MS := q_is_space_
def F_is_space : DEnv → Res D := runDef 1 b_is_space
theorem ok_is_space (t : Txt K mg base T) : Has P w K mg base T 3 "is_space" ["thing"] F_is_space := has_D (k := 2) t.d_is_space sc_is_space 1 rfl fun f A outer s H E hr =>
    (pss_cons' (pds_if ((pbw_or (pb_not (pb_val (pd_callH (ok_is_sized t) (hr.mono (by decide)) (by rfl) (fun σ => passAt (takes_of rfl rfl rfl rfl) σ) (ml_cons (ml_cons (ml_cons ml_nil))) (pas_cons (pd_var (pv 0)) (pas_cons pd_int (pas_cons (pd_gint (by rfl) t.c_MOST_FIELDS) pas_nil)))))) (pbw_or1 (pb_not (pb_val (pd_callB (cx_all rfl) (by rfl) t.n_all boot_all (pas_cons ((pn_comp (own := [("size", 1)]) rfl sc_is_space.nd (pdi_val (pd_var (pv 0))) (blkOk_by (N := ["thing", "size"]) (sc := defScope s_is_space) (own := [("size", 1)]) (by decide +kernel)) (fun i => (tg_name (pg_name (i := 1) sc_is_space.nd rfl (by first | exact Or.inl rfl | exact Or.inr rfl)))) (by decide) (fun i => ptsD_nil) (fun i => (pd_callH (ok_is_within t) (hr.mono (by decide)) (by rfl) (fun σ => passW0 σ) (ml_cons (ml_cons (ml_cons ml_nil))) (pas_cons (pd_var (pv 1)) (pas_cons (pd_gint (by rfl) t.c_LEAST_SIZE) (pas_cons (pd_gint (by rfl) t.c_MOST_SIZE) pas_nil)))))).pn.pd) pas_nil)))))).pb) (pss_one' (pds_ret pd_bl)) pss_nil')
      (pss_one' (pds_ret (pd_cmp ox_le (pd_callH (ok_product_of t) (hr.mono (by decide)) (by rfl) (fun σ => passAt (takes_of rfl rfl rfl rfl) σ) (ml_cons ml_nil) (pas_cons (pd_var (pv 0)) pas_nil)) (pd_gint (by rfl) t.c_MOST_PACKETS)))))
/-! check_space: 0 space -/
theorem sc_check_space : FnScope ["space"] ["space"] (defScope s_check_space) := ⟨rfl, rfl, rfl, by decide +kernel, rfl, by decide +kernel, by decide +kernel⟩
def q_check_space_0 : MS :=
  sif (mnotB (mtest (mcallF F_is_space (mcons (mvar 0) (mnil))))) (sraise "NoSpace") (snext)
def q_check_space_ : MS :=
  q_check_space_0
def b_check_space : MS := q_check_space_
def F_check_space : DEnv → Res D := runDef 0 b_check_space
theorem ok_check_space (t : Txt K mg base T) : Has P w K mg base T 4 "check_space" ["space"] F_check_space := has_D (k := 3) t.d_check_space sc_check_space 0 rfl fun f A outer s H E hr =>
    (pss_one' (pds_if (pb_not (pb_val (pd_callH (ok_is_space t) (hr.mono (by decide)) (by rfl) (fun σ => passAt (takes_of rfl rfl rfl rfl) σ) (ml_cons ml_nil) (pas_cons (pd_var (pv 0)) pas_nil)))) (pss_one' (pds_raise rfl (takes_of rfl rfl rfl rfl) t.x_NoSpace (by rfl))) pss_nil'))
/-! raw_packets: 0 space, 1 found, 2 size, 3 packet, 4 value -/
theorem sc_raw_packets : FnScope ["space", "found", "size", "packet", "value"] ["space"] (defScope s_raw_packets) := ⟨rfl, rfl, rfl, by decide +kernel, rfl, by decide +kernel, by decide +kernel⟩
def q_raw_packets_0 : MS :=
  sasg (mlst (mcons (mtup (mnil)) (mnil))) (tname 1)
def k_raw_packets_0 : M D :=
  mcompB (mitems (mvar 1)) [3, 4] (tname 3) (mret true) (mrange range1 (mcons (mvar 2) (mnil))) [4] (tname 4) (mret true) (mop opAdd (mvar 3) (mtup (mcons (mvar 4) (mnil))))
def q_raw_packets_1b0 : MS :=
  sasg (k_raw_packets_0) (tname 1)
def q_raw_packets_1b : MS :=
  q_raw_packets_1b0
def q_raw_packets_1 : MS :=
  sfor (mitems (mvar 0)) (tname 2) (q_raw_packets_1b)
def q_raw_packets_2 : MS :=
  sret (mvar 1)
def q_raw_packets_ : MS :=
  sseq q_raw_packets_0 (sseq q_raw_packets_1 (q_raw_packets_2))
def b_raw_packets : MS := q_raw_packets_
def F_raw_packets : DEnv → Res D := runDef 4 b_raw_packets
theorem ok_raw_packets (t : Txt K mg base T) : Has P w K mg base T 1 "raw_packets" ["space"] F_raw_packets := has_D (k := 0) t.d_raw_packets sc_raw_packets 4 rfl fun f A outer s H E hr =>
    (pss_cons' (pds_asg ((pn_lst (pas_cons (pd_tup pas_nil) pas_nil)).pd) (tg_name (pg_name (i := 1) sc_raw_packets.nd rfl (by first | exact Or.inl rfl | exact Or.inr rfl))))
      (pss_cons' (pds_for (passes_of rfl) rfl (pdi_val (pd_var (pv 0))) (tg_name (pg_name (i := 2) sc_raw_packets.nd rfl (by first | exact Or.inl rfl | exact Or.inr rfl))) (pss_one' (by refine pds_asgL ?a ?b ?c ?d; (case b => rfl); (case c => rfl); (case d => exact sw_true rfl rfl rfl rfl); (case a => exact (pn_comp2 (own := [("packet", 3), ("value", 4)]) (vs1 := [4]) rfl sc_raw_packets.nd (pdi_val (pd_var (pv 1))) (blkOk_by (N := ["space", "found", "size", "packet", "value"]) (sc := defScope s_raw_packets) (own := [("packet", 3), ("value", 4)]) (by decide +kernel)) (by decide) (fun i => (tg_name (pg_name (i := 3) sc_raw_packets.nd rfl (by first | exact Or.inl rfl | exact Or.inr rfl)))) (by decide) (fun i => ptsD_nil) (fun i => (pdi_range1 (by rfl) t.n_range (pas_cons (pd_var (pv 2)) pas_nil))) (fun i => (tg_name (pg_name (i := 4) sc_raw_packets.nd rfl (by first | exact Or.inl rfl | exact Or.inr rfl)))) (by decide) (fun i => ptsD_nil) (fun i => (pd_op ox_add (pd_var (pv 3)) (pd_tup (pas_cons (pd_var (pv 4)) pas_nil)))))))))
      (pss_one' (pds_ret (pd_var (pv 1))))))
/-! packets_of: 0 space -/
theorem sc_packets_of : FnScope ["space"] ["space"] (defScope s_packets_of) := ⟨rfl, rfl, rfl, by decide +kernel, rfl, by decide +kernel, by decide +kernel⟩
def q_packets_of_0 : MS :=
  sdrop (mcallF F_check_space (mcons (mvar 0) (mnil)))
def q_packets_of_1 : MS :=
  sret (mcall fTuple (mcons (mcallF F_raw_packets (mcons (mvar 0) (mnil))) (mnil)))
def q_packets_of_ : MS :=
  sseq q_packets_of_0 (q_packets_of_1)
def b_packets_of : MS := q_packets_of_
def F_packets_of : DEnv → Res D := runDef 0 b_packets_of
theorem ok_packets_of (t : Txt K mg base T) : Has P w K mg base T 5 "packets_of" ["space"] F_packets_of := has_D (k := 4) t.d_packets_of sc_packets_of 0 rfl fun f A outer s H E hr =>
    (pss_cons' (pds_expr (pd_callH (ok_check_space t) (hr.mono (by decide)) (by rfl) (fun σ => passAt (takes_of rfl rfl rfl rfl) σ) (ml_cons ml_nil) (pas_cons (pd_var (pv 0)) pas_nil)))
      (pss_one' (pds_ret (pd_callTy cx_tuple (by rfl) t.n_tuple boot_tuple (pas_cons (pd_callH (ok_raw_packets t) (hr.mono (by decide)) (by rfl) (fun σ => passAt (takes_of rfl rfl rfl rfl) σ) (ml_cons ml_nil) (pas_cons (pd_var (pv 0)) pas_nil)) pas_nil)))))
/-! raw_is_packet: 0 space, 1 thing, 2 value, 3 size -/
theorem sc_raw_is_packet : FnScope ["space", "thing", "value", "size"] ["space", "thing"] (defScope s_raw_is_packet) := ⟨rfl, rfl, rfl, by decide +kernel, rfl, by decide +kernel, by decide +kernel⟩
def q_raw_is_packet_0 : MS :=
  sif (mnotB (mtest (mcallF F_is_sized (mcons (mvar 1) (mcons (mcall fLen (mcons (mvar 0) (mnil))) (mcons (mcall fLen (mcons (mvar 0) (mnil))) (mnil))))))) (sret (mret (.bool false))) (snext)
def k_raw_is_packet_0 : M D :=
  mcomp (mrange zip2 (mcons (mvar 1) (mcons (mvar 0) (mnil)))) [2, 3] (ttup 2 (tcons (tname 2) (tcons (tname 3) (tnil)))) (mret true) (mcallF F_is_within (mcons (mvar 2) (mcons (mret (.int 0)) (mcons (mop opSub (mvar 3) (mret (.int 1))) (mnil)))))
def q_raw_is_packet_1 : MS :=
  sret (mcall fAll (mcons (k_raw_is_packet_0) (mnil)))
def q_raw_is_packet_ : MS :=
  sseq q_raw_is_packet_0 (q_raw_is_packet_1)
def b_raw_is_packet : MS := q_raw_is_packet_
def F_raw_is_packet : DEnv → Res D := runDef 2 b_raw_is_packet
theorem ok_raw_is_packet (t : Txt K mg base T) : Has P w K mg base T 3 "raw_is_packet" ["space", "thing"] F_raw_is_packet := has_D (k := 2) t.d_raw_is_packet sc_raw_is_packet 2 rfl fun f A outer s H E hr =>
    (pss_cons' (pds_if (pb_not (pb_val (pd_callH (ok_is_sized t) (hr.mono (by decide)) (by rfl) (fun σ => passAt (takes_of rfl rfl rfl rfl) σ) (ml_cons (ml_cons (ml_cons ml_nil))) (pas_cons (pd_var (pv 1)) (pas_cons (pd_callB cx_len (by rfl) t.n_len boot_len (pas_cons (pd_var (pv 0)) pas_nil)) (pas_cons (pd_callB cx_len (by rfl) t.n_len boot_len (pas_cons (pd_var (pv 0)) pas_nil)) pas_nil)))))) (pss_one' (pds_ret pd_bl)) pss_nil')
      (pss_one' (pds_ret (pd_callB (cx_all rfl) (by rfl) t.n_all boot_all (pas_cons ((pn_comp (own := [("value", 2), ("size", 3)]) rfl sc_raw_is_packet.nd (pdi_zip (by rfl) t.n_zip (pas_cons (pd_var (pv 1)) (pas_cons (pd_var (pv 0)) pas_nil)) (fun t0 ha => pi_zipA (by rfl) t.n_zip ha)) (blkOk_by (N := ["space", "thing", "value", "size"]) (sc := defScope s_raw_is_packet) (own := [("value", 2), ("size", 3)]) (by decide +kernel)) (fun i => (tg_tup (tgs_cons (tg_name (pg_name (i := 2) sc_raw_is_packet.nd rfl (by first | exact Or.inl rfl | exact Or.inr rfl))) (tgs_cons (tg_name (pg_name (i := 3) sc_raw_is_packet.nd rfl (by first | exact Or.inl rfl | exact Or.inr rfl))) (tgs_nil pgs_nil) (fun _ _ a b => pgs_cons a b)) (fun _ _ a b => pgs_cons a b)) (fun _ h => pg_tup rfl h))) (by decide) (fun i => ptsD_nil) (fun i => (pd_callH (ok_is_within t) (hr.mono (by decide)) (by rfl) (fun σ => passW0 σ) (ml_cons (ml_cons (ml_cons ml_nil))) (pas_cons (pd_var (pv 2)) (pas_cons pd_int (pas_cons (pd_op ox_sub (pd_var (pv 3)) pd_int) pas_nil)))))).pn.pd) pas_nil)))))
/-! is_packet: 0 space, 1 thing -/
theorem sc_is_packet : FnScope ["space", "thing"] ["space", "thing"] (defScope s_is_packet) := ⟨rfl, rfl, rfl, by decide +kernel, rfl, by decide +kernel, by decide +kernel⟩
def q_is_packet_0 : MS :=
  sdrop (mcallF F_check_space (mcons (mvar 0) (mnil)))
def q_is_packet_1 : MS :=
  sret (mcallF F_raw_is_packet (mcons (mvar 0) (mcons (mvar 1) (mnil))))
def q_is_packet_ : MS :=
  sseq q_is_packet_0 (q_is_packet_1)
def b_is_packet : MS := q_is_packet_
def F_is_packet : DEnv → Res D := runDef 0 b_is_packet
theorem ok_is_packet (t : Txt K mg base T) : Has P w K mg base T 5 "is_packet" ["space", "thing"] F_is_packet := has_D (k := 4) t.d_is_packet sc_is_packet 0 rfl fun f A outer s H E hr =>
    (pss_cons' (pds_expr (pd_callH (ok_check_space t) (hr.mono (by decide)) (by rfl) (fun σ => passAt (takes_of rfl rfl rfl rfl) σ) (ml_cons ml_nil) (pas_cons (pd_var (pv 0)) pas_nil)))
      (pss_one' (pds_ret (pd_callH (ok_raw_is_packet t) (hr.mono (by decide)) (by rfl) (fun σ => passAt (takes_of rfl rfl rfl rfl) σ) (ml_cons (ml_cons ml_nil)) (pas_cons (pd_var (pv 0)) (pas_cons (pd_var (pv 1)) pas_nil))))))
/-! raw_is_cube: 0 space, 1 thing, 2 value, 3 size -/
theorem sc_raw_is_cube : FnScope ["space", "thing", "value", "size"] ["space", "thing"] (defScope s_raw_is_cube) := ⟨rfl, rfl, rfl, by decide +kernel, rfl, by decide +kernel, by decide +kernel⟩
def q_raw_is_cube_0 : MS :=
  sif (mnotB (mtest (mcallF F_is_sized (mcons (mvar 1) (mcons (mcall fLen (mcons (mvar 0) (mnil))) (mcons (mcall fLen (mcons (mvar 0) (mnil))) (mnil))))))) (sret (mret (.bool false))) (snext)
def k_raw_is_cube_0 : M D :=
  mcomp (mrange zip2 (mcons (mvar 1) (mcons (mvar 0) (mnil)))) [2, 3] (ttup 2 (tcons (tname 2) (tcons (tname 3) (tnil)))) (mret true) (mor (mop cmpIs (mvar 2) (mret .none)) (mcallF F_is_within (mcons (mvar 2) (mcons (mret (.int 0)) (mcons (mop opSub (mvar 3) (mret (.int 1))) (mnil))))))
def q_raw_is_cube_1 : MS :=
  sret (mcall fAll (mcons (k_raw_is_cube_0) (mnil)))
def q_raw_is_cube_ : MS :=
  sseq q_raw_is_cube_0 (q_raw_is_cube_1)
def b_raw_is_cube : MS := q_raw_is_cube_
def F_raw_is_cube : DEnv → Res D := runDef 2 b_raw_is_cube
theorem ok_raw_is_cube (t : Txt K mg base T) : Has P w K mg base T 3 "raw_is_cube" ["space", "thing"] F_raw_is_cube := has_D (k := 2) t.d_raw_is_cube sc_raw_is_cube 2 rfl fun f A outer s H E hr =>
    (pss_cons' (pds_if (pb_not (pb_val (pd_callH (ok_is_sized t) (hr.mono (by decide)) (by rfl) (fun σ => passAt (takes_of rfl rfl rfl rfl) σ) (ml_cons (ml_cons (ml_cons ml_nil))) (pas_cons (pd_var (pv 1)) (pas_cons (pd_callB cx_len (by rfl) t.n_len boot_len (pas_cons (pd_var (pv 0)) pas_nil)) (pas_cons (pd_callB cx_len (by rfl) t.n_len boot_len (pas_cons (pd_var (pv 0)) pas_nil)) pas_nil)))))) (pss_one' (pds_ret pd_bl)) pss_nil')
      (pss_one' (pds_ret (pd_callB (cx_all rfl) (by rfl) t.n_all boot_all (pas_cons ((pn_comp (own := [("value", 2), ("size", 3)]) rfl sc_raw_is_cube.nd (pdi_zip (by rfl) t.n_zip (pas_cons (pd_var (pv 1)) (pas_cons (pd_var (pv 0)) pas_nil)) (fun t0 ha => pi_zipA (by rfl) t.n_zip ha)) (blkOk_by (N := ["space", "thing", "value", "size"]) (sc := defScope s_raw_is_cube) (own := [("value", 2), ("size", 3)]) (by decide +kernel)) (fun i => (tg_tup (tgs_cons (tg_name (pg_name (i := 2) sc_raw_is_cube.nd rfl (by first | exact Or.inl rfl | exact Or.inr rfl))) (tgs_cons (tg_name (pg_name (i := 3) sc_raw_is_cube.nd rfl (by first | exact Or.inl rfl | exact Or.inr rfl))) (tgs_nil pgs_nil) (fun _ _ a b => pgs_cons a b)) (fun _ _ a b => pgs_cons a b)) (fun _ h => pg_tup rfl h))) (by decide) (fun i => ptsD_nil) (fun i => (pd_or (pd_cmp ox_is (pd_var (pv 2)) pd_non) (pd_one (pd_callH (ok_is_within t) (hr.mono (by decide)) (by rfl) (fun σ => passW0 σ) (ml_cons (ml_cons (ml_cons ml_nil))) (pas_cons (pd_var (pv 2)) (pas_cons pd_int (pas_cons (pd_op ox_sub (pd_var (pv 3)) pd_int) pas_nil)))))))).pn.pd) pas_nil)))))
/-! is_cube: 0 space, 1 thing -/
theorem sc_is_cube : FnScope ["space", "thing"] ["space", "thing"] (defScope s_is_cube) := ⟨rfl, rfl, rfl, by decide +kernel, rfl, by decide +kernel, by decide +kernel⟩
def q_is_cube_0 : MS :=
  sdrop (mcallF F_check_space (mcons (mvar 0) (mnil)))
def q_is_cube_1 : MS :=
  sret (mcallF F_raw_is_cube (mcons (mvar 0) (mcons (mvar 1) (mnil))))
def q_is_cube_ : MS :=
  sseq q_is_cube_0 (q_is_cube_1)
def b_is_cube : MS := q_is_cube_
def F_is_cube : DEnv → Res D := runDef 0 b_is_cube
theorem ok_is_cube (t : Txt K mg base T) : Has P w K mg base T 5 "is_cube" ["space", "thing"] F_is_cube := has_D (k := 4) t.d_is_cube sc_is_cube 0 rfl fun f A outer s H E hr =>
    (pss_cons' (pds_expr (pd_callH (ok_check_space t) (hr.mono (by decide)) (by rfl) (fun σ => passAt (takes_of rfl rfl rfl rfl) σ) (ml_cons ml_nil) (pas_cons (pd_var (pv 0)) pas_nil)))
      (pss_one' (pds_ret (pd_callH (ok_raw_is_cube t) (hr.mono (by decide)) (by rfl) (fun σ => passAt (takes_of rfl rfl rfl rfl) σ) (ml_cons (ml_cons ml_nil)) (pas_cons (pd_var (pv 0)) (pas_cons (pd_var (pv 1)) pas_nil))))))
/-! check_packet: 0 space, 1 packet -/
theorem sc_check_packet : FnScope ["space", "packet"] ["space", "packet"] (defScope s_check_packet) := ⟨rfl, rfl, rfl, by decide +kernel, rfl, by decide +kernel, by decide +kernel⟩
def q_check_packet_0 : MS :=
  sdrop (mcallF F_check_space (mcons (mvar 0) (mnil)))
def q_check_packet_1 : MS :=
  sif (mnotB (mtest (mcallF F_raw_is_packet (mcons (mvar 0) (mcons (mvar 1) (mnil)))))) (sraise "NoPacket") (snext)
def q_check_packet_ : MS :=
  sseq q_check_packet_0 (q_check_packet_1)
def b_check_packet : MS := q_check_packet_
def F_check_packet : DEnv → Res D := runDef 0 b_check_packet
theorem ok_check_packet (t : Txt K mg base T) : Has P w K mg base T 5 "check_packet" ["space", "packet"] F_check_packet := has_D (k := 4) t.d_check_packet sc_check_packet 0 rfl fun f A outer s H E hr =>
    (pss_cons' (pds_expr (pd_callH (ok_check_space t) (hr.mono (by decide)) (by rfl) (fun σ => passAt (takes_of rfl rfl rfl rfl) σ) (ml_cons ml_nil) (pas_cons (pd_var (pv 0)) pas_nil)))
      (pss_one' (pds_if (pb_not (pb_val (pd_callH (ok_raw_is_packet t) (hr.mono (by decide)) (by rfl) (fun σ => passAt (takes_of rfl rfl rfl rfl) σ) (ml_cons (ml_cons ml_nil)) (pas_cons (pd_var (pv 0)) (pas_cons (pd_var (pv 1)) pas_nil))))) (pss_one' (pds_raise rfl (takes_of rfl rfl rfl rfl) t.x_NoPacket (by rfl))) pss_nil')))
/-! check_field: 0 space, 1 field, 2 value -/
theorem sc_check_field : FnScope ["space", "field", "value"] ["space", "field", "value"] (defScope s_check_field) := ⟨rfl, rfl, rfl, by decide +kernel, rfl, by decide +kernel, by decide +kernel⟩
def q_check_field_0 : MS :=
  sif (mnotB (mtest (mcallF F_is_within (mcons (mvar 1) (mcons (mret (.int 0)) (mcons (mop opSub (mcall fLen (mcons (mvar 0) (mnil))) (mret (.int 1))) (mnil))))))) (sraise "NoField") (snext)
def q_check_field_1 : MS :=
  sif (mnotB (mtest (mcallF F_is_within (mcons (mvar 2) (mcons (mret (.int 0)) (mcons (mop opSub (mixO 0 (mvar 1)) (mret (.int 1))) (mnil))))))) (sraise "NoValue") (snext)
def q_check_field_ : MS :=
  sseq q_check_field_0 (q_check_field_1)
def b_check_field : MS := q_check_field_
def F_check_field : DEnv → Res D := runDef 0 b_check_field
theorem ok_check_field (t : Txt K mg base T) : Has P w K mg base T 3 "check_field" ["space", "field", "value"] F_check_field := has_D (k := 2) t.d_check_field sc_check_field 0 rfl fun f A outer s H E hr =>
    (pss_cons' (pds_if (pb_not (pb_val (pd_callH (ok_is_within t) (hr.mono (by decide)) (by rfl) (fun σ => passAt (takes_of rfl rfl rfl rfl) σ) (ml_cons (ml_cons (ml_cons ml_nil))) (pas_cons (pd_var (pv 1)) (pas_cons pd_int (pas_cons (pd_op ox_sub (pd_callB cx_len (by rfl) t.n_len boot_len (pas_cons (pd_var (pv 0)) pas_nil)) pd_int) pas_nil)))))) (pss_one' (pds_raise rfl (takes_of rfl rfl rfl rfl) t.x_NoField (by rfl))) pss_nil')
      (pss_one' (pds_if (pb_not (pb_val (pd_callH (ok_is_within t) (hr.mono (by decide)) (by rfl) (fun σ => passAt (takes_of rfl rfl rfl rfl) σ) (ml_cons (ml_cons (ml_cons ml_nil))) (pas_cons (pd_var (pv 2)) (pas_cons pd_int (pas_cons (pd_op ox_sub (pd_ixO (pv 0) (pd_var (pv 1))) pd_int) pas_nil)))))) (pss_one' (pds_raise rfl (takes_of rfl rfl rfl rfl) t.x_NoValue (by rfl))) pss_nil')))
/-! raw_with: 0 packet, 1 field, 2 value -/
theorem sc_raw_with : FnScope ["packet", "field", "value"] ["packet", "field", "value"] (defScope s_raw_with) := ⟨rfl, rfl, rfl, by decide +kernel, rfl, by decide +kernel, by decide +kernel⟩
def q_raw_with_0 : MS :=
  sret (mop opAdd (mop opAdd (mslice (mvar 0) (mret none) (mpart (mvar 1))) (mtup (mcons (mvar 2) (mnil)))) (mslice (mvar 0) (mpart (mop opAdd (mvar 1) (mret (.int 1)))) (mret none)))
def q_raw_with_ : MS :=
  q_raw_with_0
def b_raw_with : MS := q_raw_with_
def F_raw_with : DEnv → Res D := runDef 0 b_raw_with
theorem ok_raw_with (t : Txt K mg base T) : Has P w K mg base T 1 "raw_with" ["packet", "field", "value"] F_raw_with := has_D (k := 0) t.d_raw_with sc_raw_with 0 rfl fun f A outer s H E hr =>
    (pss_one' (pds_ret (pd_op ox_add (pd_op ox_add (pd_slice (pd_var (pv 0)) pp_none (pp_some (pd_var (pv 1)))) (pd_tup (pas_cons (pd_var (pv 2)) pas_nil))) (pd_slice (pd_var (pv 0)) (pp_some (pd_op ox_add (pd_var (pv 1)) pd_int)) pp_none))))
/-! with_value: 0 space, 1 packet, 2 field, 3 value -/
theorem sc_with_value : FnScope ["space", "packet", "field", "value"] ["space", "packet", "field", "value"] (defScope s_with_value) := ⟨rfl, rfl, rfl, by decide +kernel, rfl, by decide +kernel, by decide +kernel⟩
def q_with_value_0 : MS :=
  sdrop (mcallF F_check_packet (mcons (mvar 0) (mcons (mvar 1) (mnil))))
def q_with_value_1 : MS :=
  sdrop (mcallF F_check_field (mcons (mvar 0) (mcons (mvar 2) (mcons (mvar 3) (mnil)))))
def q_with_value_2 : MS :=
  sret (mcallF F_raw_with (mcons (mvar 1) (mcons (mvar 2) (mcons (mvar 3) (mnil)))))
def q_with_value_ : MS :=
  sseq q_with_value_0 (sseq q_with_value_1 (q_with_value_2))
def b_with_value : MS := q_with_value_
def F_with_value : DEnv → Res D := runDef 0 b_with_value
theorem ok_with_value (t : Txt K mg base T) : Has P w K mg base T 6 "with_value" ["space", "packet", "field", "value"] F_with_value := has_D (k := 5) t.d_with_value sc_with_value 0 rfl fun f A outer s H E hr =>
    (pss_cons' (pds_expr (pd_callH (ok_check_packet t) (hr.mono (by decide)) (by rfl) (fun σ => passAt (takes_of rfl rfl rfl rfl) σ) (ml_cons (ml_cons ml_nil)) (pas_cons (pd_var (pv 0)) (pas_cons (pd_var (pv 1)) pas_nil))))
      (pss_cons' (pds_expr (pd_callH (ok_check_field t) (hr.mono (by decide)) (by rfl) (fun σ => passAt (takes_of rfl rfl rfl rfl) σ) (ml_cons (ml_cons (ml_cons ml_nil))) (pas_cons (pd_var (pv 0)) (pas_cons (pd_var (pv 2)) (pas_cons (pd_var (pv 3)) pas_nil)))))
      (pss_one' (pds_ret (pd_callH (ok_raw_with t) (hr.mono (by decide)) (by rfl) (fun σ => passAt (takes_of rfl rfl rfl rfl) σ) (ml_cons (ml_cons (ml_cons ml_nil))) (pas_cons (pd_var (pv 1)) (pas_cons (pd_var (pv 2)) (pas_cons (pd_var (pv 3)) pas_nil))))))))
/-! _law_are_turned_right: 0 hand, 1 space, 2 packets, 3 packet, 4 field, 5 size, 6 value, 7 told, 8 one, 9 other, 10 first, 11 last, 12 there -/
theorem sc_law_are_turned_right : FnScope ["hand", "space", "packets", "packet", "field", "size", "value", "told", "one", "other", "first", "last", "there"] ["hand", "space", "packets"] (defScope s_law_are_turned_right) := ⟨rfl, rfl, rfl, by decide +kernel, rfl, by decide +kernel, by decide +kernel⟩
def q_law_are_turned_right_0 : MS :=
  sasg (mcallIo F_law_any 0 (mcons (mvar 2) (mnil))) (tname 3)
def q_law_are_turned_right_1b0b0 : MS :=
  sasg (mcallF F_with_value (mcons (mvar 1) (mcons (mvar 3) (mcons (mvar 4) (mcons (mvar 6) (mnil)))))) (tname 7)
def q_law_are_turned_right_1b0b1 : MS :=
  sif (morB (mtestB (mop cmpNe (mvar 7) (mop opAdd (mop opAdd (mslice (mvar 3) (mret none) (mpart (mvar 4))) (mtup (mcons (mvar 6) (mnil)))) (mslice (mvar 3) (mpart (mop opAdd (mvar 4) (mret (.int 1)))) (mret none))))) (mtestB (mop cmpIsNot (mcallF F_is_packet (mcons (mvar 1) (mcons (mvar 7) (mnil)))) (mret (.bool true))))) (sret (mret (.bool false))) (snext)
def q_law_are_turned_right_1b0b2 : MS :=
  sif (mtestB (mop cmpNe (mcallF F_with_value (mcons (mvar 1) (mcons (mvar 7) (mcons (mvar 4) (mcons (mixO 3 (mvar 4)) (mnil)))))) (mvar 3))) (sret (mret (.bool false))) (snext)
def q_law_are_turned_right_1b0b : MS :=
  sseq q_law_are_turned_right_1b0b0 (sseq q_law_are_turned_right_1b0b1 (q_law_are_turned_right_1b0b2))
def q_law_are_turned_right_1b0 : MS :=
  sfor (mrange range1 (mcons (mvar 5) (mnil))) (tname 6) (q_law_are_turned_right_1b0b)
def q_law_are_turned_right_1b : MS :=
  q_law_are_turned_right_1b0
def q_law_are_turned_right_1 : MS :=
  sfor (mrange enum1 (mcons (mvar 1) (mnil))) (ttup 2 (tcons (tname 4) (tcons (tname 5) (tnil)))) (q_law_are_turned_right_1b)
def q_law_are_turned_right_2 : MS :=
  spar 8 9 (mcallIo F_law_draw 0 (mcons (mcall fLen (mcons (mvar 1) (mnil))) (mnil))) (mcallIo F_law_draw 0 (mcons (mcall fLen (mcons (mvar 1) (mnil))) (mnil)))
def q_law_are_turned_right_3 : MS :=
  spar 10 11 (mcallIo F_law_draw 0 (mcons (mixO 1 (mvar 8)) (mnil))) (mcallIo F_law_draw 0 (mcons (mixO 1 (mvar 9)) (mnil)))
def q_law_are_turned_right_4 : MS :=
  sasg (mcallF F_with_value (mcons (mvar 1) (mcons (mcallF F_with_value (mcons (mvar 1) (mcons (mvar 3) (mcons (mvar 8) (mcons (mvar 10) (mnil)))))) (mcons (mvar 9) (mcons (mvar 11) (mnil)))))) (tname 12)
def q_law_are_turned_right_5 : MS :=
  sif (mtestB (mop cmpEq (mvar 8) (mvar 9))) (sret (mop cmpEq (mvar 12) (mcallF F_with_value (mcons (mvar 1) (mcons (mvar 3) (mcons (mvar 9) (mcons (mvar 11) (mnil)))))))) (snext)
def q_law_are_turned_right_6 : MS :=
  sret (mop cmpEq (mvar 12) (mcallF F_with_value (mcons (mvar 1) (mcons (mcallF F_with_value (mcons (mvar 1) (mcons (mvar 3) (mcons (mvar 9) (mcons (mvar 11) (mnil)))))) (mcons (mvar 8) (mcons (mvar 10) (mnil)))))))
def q_law_are_turned_right_ : MS :=
  sseq q_law_are_turned_right_0 (sseq q_law_are_turned_right_1 (sseq q_law_are_turned_right_2 (sseq q_law_are_turned_right_3 (sseq q_law_are_turned_right_4 (sseq q_law_are_turned_right_5 (q_law_are_turned_right_6))))))
def b_law_are_turned_right : MS := q_law_are_turned_right_
def F_law_are_turned_right : DEnv → Res D := runDef 10 b_law_are_turned_right
theorem ok_law_are_turned_right (t : Txt K mg base T) : Has P w K mg base T 7 "_law_are_turned_right" ["hand", "space", "packets"] F_law_are_turned_right := has_D (k := 6) t.d_law_are_turned_right sc_law_are_turned_right 10 rfl fun f A outer s H E hr =>
    (pss_cons' (pds_asg (pd_callIoH (ok_law_any t) (hr.mono (by decide)) (by rfl) (fun σ => passAt (takes_of rfl rfl rfl rfl) σ) (pv 0) (ml_cons ml_nil) (pas_cons (pd_var (pv 2)) pas_nil)) (tg_name (pg_name (i := 3) sc_law_are_turned_right.nd rfl (by first | exact Or.inl rfl | exact Or.inr rfl))))
      (pss_cons' (pds_for (passes_of rfl) rfl (pdi_enum (by rfl) t.n_enumerate (pas_cons (pd_var (pv 1)) pas_nil)) (tg_tup (tgs_cons (tg_name (pg_name (i := 4) sc_law_are_turned_right.nd rfl (by first | exact Or.inl rfl | exact Or.inr rfl))) (tgs_cons (tg_name (pg_name (i := 5) sc_law_are_turned_right.nd rfl (by first | exact Or.inl rfl | exact Or.inr rfl))) (tgs_nil pgs_nil) (fun _ _ a b => pgs_cons a b)) (fun _ _ a b => pgs_cons a b)) (fun _ h => pg_tup rfl h)) (pss_one' (pds_for (passes_of rfl) rfl (pdi_range1 (by rfl) t.n_range (pas_cons (pd_var (pv 5)) pas_nil)) (tg_name (pg_name (i := 6) sc_law_are_turned_right.nd rfl (by first | exact Or.inl rfl | exact Or.inr rfl))) (pss_cons' (pds_asg (pd_callH (ok_with_value t) (hr.mono (by decide)) (by rfl) (fun σ => passAt (takes_of rfl rfl rfl rfl) σ) (ml_cons (ml_cons (ml_cons (ml_cons ml_nil)))) (pas_cons (pd_var (pv 1)) (pas_cons (pd_var (pv 3)) (pas_cons (pd_var (pv 4)) (pas_cons (pd_var (pv 6)) pas_nil))))) (tg_name (pg_name (i := 7) sc_law_are_turned_right.nd rfl (by first | exact Or.inl rfl | exact Or.inr rfl))))
      (pss_cons' (pds_if ((pbw_or (pb_cmp (ox_ne (hu64 hr)) (pd_var (pv 7)) (pd_op ox_add (pd_op ox_add (pd_slice (pd_var (pv 3)) pp_none (pp_some (pd_var (pv 4)))) (pd_tup (pas_cons (pd_var (pv 6)) pas_nil))) (pd_slice (pd_var (pv 3)) (pp_some (pd_op ox_add (pd_var (pv 4)) pd_int)) pp_none))) (pbw_or1 (pb_cmp ox_isnot (pd_callH (ok_is_packet t) (hr.mono (by decide)) (by rfl) (fun σ => passAt (takes_of rfl rfl rfl rfl) σ) (ml_cons (ml_cons ml_nil)) (pas_cons (pd_var (pv 1)) (pas_cons (pd_var (pv 7)) pas_nil))) pd_bl))).pb) (pss_one' (pds_ret pd_bl)) pss_nil')
      (pss_one' (pds_if (pb_cmp (ox_ne (hu64 hr)) (pd_callH (ok_with_value t) (hr.mono (by decide)) (by rfl) (fun σ => passAt (takes_of rfl rfl rfl rfl) σ) (ml_cons (ml_cons (ml_cons (ml_cons ml_nil)))) (pas_cons (pd_var (pv 1)) (pas_cons (pd_var (pv 7)) (pas_cons (pd_var (pv 4)) (pas_cons (pd_ixO (pv 3) (pd_var (pv 4))) pas_nil))))) (pd_var (pv 3))) (pss_one' (pds_ret pd_bl)) pss_nil')))))))
      (pss_cons' (pds_par (i := 8) (j := 9) rfl sc_law_are_turned_right.nd rfl rfl (by decide) rfl rfl (pd_callIoH (ok_law_draw t) (hr.mono (by decide)) (by rfl) (fun σ => passAt (takes_of rfl rfl rfl rfl) σ) (pv 0) (ml_cons ml_nil) (pas_cons (pd_callB cx_len (by rfl) t.n_len boot_len (pas_cons (pd_var (pv 1)) pas_nil)) pas_nil)) (pd_callIoH (ok_law_draw t) (hr.mono (by decide)) (by rfl) (fun σ => passAt (takes_of rfl rfl rfl rfl) σ) (pv 0) (ml_cons ml_nil) (pas_cons (pd_callB cx_len (by rfl) t.n_len boot_len (pas_cons (pd_var (pv 1)) pas_nil)) pas_nil)) (by rfl))
      (pss_cons' (pds_par (i := 10) (j := 11) rfl sc_law_are_turned_right.nd rfl rfl (by decide) rfl rfl (pd_callIoH (ok_law_draw t) (hr.mono (by decide)) (by rfl) (fun σ => passAt (takes_of rfl rfl rfl rfl) σ) (pv 0) (ml_cons ml_nil) (pas_cons (pd_ixO (pv 1) (pd_var (pv 8))) pas_nil)) (pd_callIoH (ok_law_draw t) (hr.mono (by decide)) (by rfl) (fun σ => passAt (takes_of rfl rfl rfl rfl) σ) (pv 0) (ml_cons ml_nil) (pas_cons (pd_ixO (pv 1) (pd_var (pv 9))) pas_nil)) (by rfl))
      (pss_cons' (pds_asg (pd_callH (ok_with_value t) (hr.mono (by decide)) (by rfl) (fun σ => passAt (takes_of rfl rfl rfl rfl) σ) (ml_cons (ml_cons (ml_cons (ml_cons ml_nil)))) (pas_cons (pd_var (pv 1)) (pas_cons (pd_callH (ok_with_value t) (hr.mono (by decide)) (by rfl) (fun σ => passAt (takes_of rfl rfl rfl rfl) σ) (ml_cons (ml_cons (ml_cons (ml_cons ml_nil)))) (pas_cons (pd_var (pv 1)) (pas_cons (pd_var (pv 3)) (pas_cons (pd_var (pv 8)) (pas_cons (pd_var (pv 10)) pas_nil))))) (pas_cons (pd_var (pv 9)) (pas_cons (pd_var (pv 11)) pas_nil))))) (tg_name (pg_name (i := 12) sc_law_are_turned_right.nd rfl (by first | exact Or.inl rfl | exact Or.inr rfl))))
      (pss_cons' (pds_if (pb_cmp (ox_eq (hu64 hr)) (pd_var (pv 8)) (pd_var (pv 9))) (pss_one' (pds_ret (pd_cmp (ox_eq (hu64 hr)) (pd_var (pv 12)) (pd_callH (ok_with_value t) (hr.mono (by decide)) (by rfl) (fun σ => passAt (takes_of rfl rfl rfl rfl) σ) (ml_cons (ml_cons (ml_cons (ml_cons ml_nil)))) (pas_cons (pd_var (pv 1)) (pas_cons (pd_var (pv 3)) (pas_cons (pd_var (pv 9)) (pas_cons (pd_var (pv 11)) pas_nil)))))))) pss_nil')
      (pss_one' (pds_ret (pd_cmp (ox_eq (hu64 hr)) (pd_var (pv 12)) (pd_callH (ok_with_value t) (hr.mono (by decide)) (by rfl) (fun σ => passAt (takes_of rfl rfl rfl rfl) σ) (ml_cons (ml_cons (ml_cons (ml_cons ml_nil)))) (pas_cons (pd_var (pv 1)) (pas_cons (pd_callH (ok_with_value t) (hr.mono (by decide)) (by rfl) (fun σ => passAt (takes_of rfl rfl rfl rfl) σ) (ml_cons (ml_cons (ml_cons (ml_cons ml_nil)))) (pas_cons (pd_var (pv 1)) (pas_cons (pd_var (pv 3)) (pas_cons (pd_var (pv 9)) (pas_cons (pd_var (pv 11)) pas_nil))))) (pas_cons (pd_var (pv 8)) (pas_cons (pd_var (pv 10)) pas_nil))))))))))))))
/-! _law_has: 0 cube, 1 packet, 2 value, 3 mine -/
theorem sc_law_has : FnScope ["cube", "packet", "value", "mine"] ["cube", "packet"] (defScope s_law_has) := ⟨rfl, rfl, rfl, by decide +kernel, rfl, by decide +kernel, by decide +kernel⟩
def k_law_has_0 : M D :=
  mcomp (mrange zip2 (mcons (mvar 0) (mcons (mvar 1) (mnil)))) [2, 3] (ttup 2 (tcons (tname 2) (tcons (tname 3) (tnil)))) (mret true) (mor (mop cmpIs (mvar 2) (mret .none)) (mop cmpEq (mvar 2) (mvar 3)))
def q_law_has_0 : MS :=
  sret (mcall fAll (mcons (k_law_has_0) (mnil)))
def q_law_has_ : MS :=
  q_law_has_0
def b_law_has : MS := q_law_has_
def F_law_has : DEnv → Res D := runDef 2 b_law_has
theorem ok_law_has (t : Txt K mg base T) : Has P w K mg base T 1 "_law_has" ["cube", "packet"] F_law_has := has_D (k := 0) t.d_law_has sc_law_has 2 rfl fun f A outer s H E hr =>
    (pss_one' (pds_ret (pd_callB (cx_all rfl) (by rfl) t.n_all boot_all (pas_cons ((pn_comp (own := [("value", 2), ("mine", 3)]) rfl sc_law_has.nd (pdi_zip (by rfl) t.n_zip (pas_cons (pd_var (pv 0)) (pas_cons (pd_var (pv 1)) pas_nil)) (fun t0 ha => pi_zipA (by rfl) t.n_zip ha)) (blkOk_by (N := ["cube", "packet", "value", "mine"]) (sc := defScope s_law_has) (own := [("value", 2), ("mine", 3)]) (by decide +kernel)) (fun i => (tg_tup (tgs_cons (tg_name (pg_name (i := 2) sc_law_has.nd rfl (by first | exact Or.inl rfl | exact Or.inr rfl))) (tgs_cons (tg_name (pg_name (i := 3) sc_law_has.nd rfl (by first | exact Or.inl rfl | exact Or.inr rfl))) (tgs_nil pgs_nil) (fun _ _ a b => pgs_cons a b)) (fun _ _ a b => pgs_cons a b)) (fun _ h => pg_tup rfl h))) (by decide) (fun i => ptsD_nil) (fun i => (pd_or (pd_cmp ox_is (pd_var (pv 2)) pd_non) (pd_one (pd_cmp (ox_eq (hu64 hr)) (pd_var (pv 2)) (pd_var (pv 3))))))).pn.pd) pas_nil))))
/-! check_cube: 0 space, 1 cube -/
theorem sc_check_cube : FnScope ["space", "cube"] ["space", "cube"] (defScope s_check_cube) := ⟨rfl, rfl, rfl, by decide +kernel, rfl, by decide +kernel, by decide +kernel⟩
def q_check_cube_0 : MS :=
  sif (mnotB (mtest (mcallF F_raw_is_cube (mcons (mvar 0) (mcons (mvar 1) (mnil)))))) (sraise "NoCube") (snext)
def q_check_cube_ : MS :=
  q_check_cube_0
def b_check_cube : MS := q_check_cube_
def F_check_cube : DEnv → Res D := runDef 0 b_check_cube
theorem ok_check_cube (t : Txt K mg base T) : Has P w K mg base T 4 "check_cube" ["space", "cube"] F_check_cube := has_D (k := 3) t.d_check_cube sc_check_cube 0 rfl fun f A outer s H E hr =>
    (pss_one' (pds_if (pb_not (pb_val (pd_callH (ok_raw_is_cube t) (hr.mono (by decide)) (by rfl) (fun σ => passAt (takes_of rfl rfl rfl rfl) σ) (ml_cons (ml_cons ml_nil)) (pas_cons (pd_var (pv 0)) (pas_cons (pd_var (pv 1)) pas_nil))))) (pss_one' (pds_raise rfl (takes_of rfl rfl rfl rfl) t.x_NoCube (by rfl))) pss_nil'))
/-! raw_has: 0 cube, 1 packet, 2 value, 3 here -/
theorem sc_raw_has : FnScope ["cube", "packet", "value", "here"] ["cube", "packet"] (defScope s_raw_has) := ⟨rfl, rfl, rfl, by decide +kernel, rfl, by decide +kernel, by decide +kernel⟩
def k_raw_has_0 : M D :=
  mcomp (mrange zip2 (mcons (mvar 0) (mcons (mvar 1) (mnil)))) [2, 3] (ttup 2 (tcons (tname 2) (tcons (tname 3) (tnil)))) (mret true) (mor (mop cmpIs (mvar 2) (mret .none)) (mop cmpEq (mvar 2) (mvar 3)))
def q_raw_has_0 : MS :=
  sret (mcall fAll (mcons (k_raw_has_0) (mnil)))
def q_raw_has_ : MS :=
  q_raw_has_0
def b_raw_has : MS := q_raw_has_
def F_raw_has : DEnv → Res D := runDef 2 b_raw_has
theorem ok_raw_has (t : Txt K mg base T) : Has P w K mg base T 1 "raw_has" ["cube", "packet"] F_raw_has := has_D (k := 0) t.d_raw_has sc_raw_has 2 rfl fun f A outer s H E hr =>
    (pss_one' (pds_ret (pd_callB (cx_all rfl) (by rfl) t.n_all boot_all (pas_cons ((pn_comp (own := [("value", 2), ("here", 3)]) rfl sc_raw_has.nd (pdi_zip (by rfl) t.n_zip (pas_cons (pd_var (pv 0)) (pas_cons (pd_var (pv 1)) pas_nil)) (fun t0 ha => pi_zipA (by rfl) t.n_zip ha)) (blkOk_by (N := ["cube", "packet", "value", "here"]) (sc := defScope s_raw_has) (own := [("value", 2), ("here", 3)]) (by decide +kernel)) (fun i => (tg_tup (tgs_cons (tg_name (pg_name (i := 2) sc_raw_has.nd rfl (by first | exact Or.inl rfl | exact Or.inr rfl))) (tgs_cons (tg_name (pg_name (i := 3) sc_raw_has.nd rfl (by first | exact Or.inl rfl | exact Or.inr rfl))) (tgs_nil pgs_nil) (fun _ _ a b => pgs_cons a b)) (fun _ _ a b => pgs_cons a b)) (fun _ h => pg_tup rfl h))) (by decide) (fun i => ptsD_nil) (fun i => (pd_or (pd_cmp ox_is (pd_var (pv 2)) pd_non) (pd_one (pd_cmp (ox_eq (hu64 hr)) (pd_var (pv 2)) (pd_var (pv 3))))))).pn.pd) pas_nil))))
/-! raw_packets_in: 0 space, 1 cube, 2 packet -/
theorem sc_raw_packets_in : FnScope ["space", "cube", "packet"] ["space", "cube"] (defScope s_raw_packets_in) := ⟨rfl, rfl, rfl, by decide +kernel, rfl, by decide +kernel, by decide +kernel⟩
def k_raw_packets_in_0 : M D :=
  mcomp (mitems (mcallF F_raw_packets (mcons (mvar 0) (mnil)))) [2] (tname 2) (mtest (mcallF F_raw_has (mcons (mvar 1) (mcons (mvar 2) (mnil))))) (mvar 2)
def q_raw_packets_in_0 : MS :=
  sret (k_raw_packets_in_0)
def q_raw_packets_in_ : MS :=
  q_raw_packets_in_0
def b_raw_packets_in : MS := q_raw_packets_in_
def F_raw_packets_in : DEnv → Res D := runDef 1 b_raw_packets_in
theorem ok_raw_packets_in (t : Txt K mg base T) : Has P w K mg base T 2 "raw_packets_in" ["space", "cube"] F_raw_packets_in := has_D (k := 1) t.d_raw_packets_in sc_raw_packets_in 1 rfl fun f A outer s H E hr =>
    (pss_one' (pds_ret ((pn_comp (own := [("packet", 2)]) rfl sc_raw_packets_in.nd (pdi_val (pd_callH (ok_raw_packets t) (hr.mono (by decide)) (by rfl) (fun σ => passAt (takes_of rfl rfl rfl rfl) σ) (ml_cons ml_nil) (pas_cons (pd_var (pv 0)) pas_nil))) (blkOk_by (N := ["space", "cube", "packet"]) (sc := defScope s_raw_packets_in) (own := [("packet", 2)]) (by decide +kernel)) (fun i => (tg_name (pg_name (i := 2) sc_raw_packets_in.nd rfl (by first | exact Or.inl rfl | exact Or.inr rfl)))) (by decide) (fun i => (ptsD_one (pb_val (pd_callH (ok_raw_has t) (hr.mono (by decide)) (by rfl) (fun σ => passW0 σ) (ml_cons (ml_cons ml_nil)) (pas_cons (pd_var (pv 1)) (pas_cons (pd_var (pv 2)) pas_nil)))))) (fun i => (pd_var (pv 2)))).pn.pd)))
/-! packets_in: 0 space, 1 cube -/
theorem sc_packets_in : FnScope ["space", "cube"] ["space", "cube"] (defScope s_packets_in) := ⟨rfl, rfl, rfl, by decide +kernel, rfl, by decide +kernel, by decide +kernel⟩
def q_packets_in_0 : MS :=
  sdrop (mcallF F_check_space (mcons (mvar 0) (mnil)))
def q_packets_in_1 : MS :=
  sdrop (mcallF F_check_cube (mcons (mvar 0) (mcons (mvar 1) (mnil))))
def q_packets_in_2 : MS :=
  sret (mcall fTuple (mcons (mcallF F_raw_packets_in (mcons (mvar 0) (mcons (mvar 1) (mnil)))) (mnil)))
def q_packets_in_ : MS :=
  sseq q_packets_in_0 (sseq q_packets_in_1 (q_packets_in_2))
def b_packets_in : MS := q_packets_in_
def F_packets_in : DEnv → Res D := runDef 0 b_packets_in
theorem ok_packets_in (t : Txt K mg base T) : Has P w K mg base T 5 "packets_in" ["space", "cube"] F_packets_in := has_D (k := 4) t.d_packets_in sc_packets_in 0 rfl fun f A outer s H E hr =>
    (pss_cons' (pds_expr (pd_callH (ok_check_space t) (hr.mono (by decide)) (by rfl) (fun σ => passAt (takes_of rfl rfl rfl rfl) σ) (ml_cons ml_nil) (pas_cons (pd_var (pv 0)) pas_nil)))
      (pss_cons' (pds_expr (pd_callH (ok_check_cube t) (hr.mono (by decide)) (by rfl) (fun σ => passAt (takes_of rfl rfl rfl rfl) σ) (ml_cons (ml_cons ml_nil)) (pas_cons (pd_var (pv 0)) (pas_cons (pd_var (pv 1)) pas_nil))))
      (pss_one' (pds_ret (pd_callTy cx_tuple (by rfl) t.n_tuple boot_tuple (pas_cons (pd_callH (ok_raw_packets_in t) (hr.mono (by decide)) (by rfl) (fun σ => passAt (takes_of rfl rfl rfl rfl) σ) (ml_cons (ml_cons ml_nil)) (pas_cons (pd_var (pv 0)) (pas_cons (pd_var (pv 1)) pas_nil))) pas_nil))))))
/-! has_packet: 0 space, 1 cube, 2 packet -/
theorem sc_has_packet : FnScope ["space", "cube", "packet"] ["space", "cube", "packet"] (defScope s_has_packet) := ⟨rfl, rfl, rfl, by decide +kernel, rfl, by decide +kernel, by decide +kernel⟩
def q_has_packet_0 : MS :=
  sdrop (mcallF F_check_space (mcons (mvar 0) (mnil)))
def q_has_packet_1 : MS :=
  sdrop (mcallF F_check_cube (mcons (mvar 0) (mcons (mvar 1) (mnil))))
def q_has_packet_2 : MS :=
  sdrop (mcallF F_check_packet (mcons (mvar 0) (mcons (mvar 2) (mnil))))
def q_has_packet_3 : MS :=
  sret (mcallF F_raw_has (mcons (mvar 1) (mcons (mvar 2) (mnil))))
def q_has_packet_ : MS :=
  sseq q_has_packet_0 (sseq q_has_packet_1 (sseq q_has_packet_2 (q_has_packet_3)))
def b_has_packet : MS := q_has_packet_
def F_has_packet : DEnv → Res D := runDef 0 b_has_packet
theorem ok_has_packet (t : Txt K mg base T) : Has P w K mg base T 6 "has_packet" ["space", "cube", "packet"] F_has_packet := has_D (k := 5) t.d_has_packet sc_has_packet 0 rfl fun f A outer s H E hr =>
    (pss_cons' (pds_expr (pd_callH (ok_check_space t) (hr.mono (by decide)) (by rfl) (fun σ => passAt (takes_of rfl rfl rfl rfl) σ) (ml_cons ml_nil) (pas_cons (pd_var (pv 0)) pas_nil)))
      (pss_cons' (pds_expr (pd_callH (ok_check_cube t) (hr.mono (by decide)) (by rfl) (fun σ => passAt (takes_of rfl rfl rfl rfl) σ) (ml_cons (ml_cons ml_nil)) (pas_cons (pd_var (pv 0)) (pas_cons (pd_var (pv 1)) pas_nil))))
      (pss_cons' (pds_expr (pd_callH (ok_check_packet t) (hr.mono (by decide)) (by rfl) (fun σ => passAt (takes_of rfl rfl rfl rfl) σ) (ml_cons (ml_cons ml_nil)) (pas_cons (pd_var (pv 0)) (pas_cons (pd_var (pv 2)) pas_nil))))
      (pss_one' (pds_ret (pd_callH (ok_raw_has t) (hr.mono (by decide)) (by rfl) (fun σ => passAt (takes_of rfl rfl rfl rfl) σ) (ml_cons (ml_cons ml_nil)) (pas_cons (pd_var (pv 1)) (pas_cons (pd_var (pv 2)) pas_nil))))))))
/-! _law_are_cubes_right: 0 hand, 1 space, 2 packets, 3 turn, 4 bare, 5 cube, 6 mine, 7 size, 8 packet -/
theorem sc_law_are_cubes_right : FnScope ["hand", "space", "packets", "turn", "bare", "cube", "mine", "size", "packet"] ["hand", "space", "packets"] (defScope s_law_are_cubes_right) := ⟨rfl, rfl, rfl, by decide +kernel, rfl, by decide +kernel, by decide +kernel⟩
def q_law_are_cubes_right_0b0 : MS :=
  sasg (mop fIx (mlst (mcons (mret (.int 0)) (mcons (mret (.int 1)) (mcons (mret (.int 2)) (mcons (mret (.int 9)) (mnil)))))) (mvar 3)) (tname 4)
def k_law_are_cubes_right_0 : M D :=
  mcomp (mitems (mvar 1)) [7] (tname 7) (mret true) (mif (mtestB (mop cmpLt (mcallIo F_law_draw 0 (mcons (mret (.int 3)) (mnil))) (mvar 4))) (mret .none) (mcallIo F_law_draw 0 (mcons (mvar 7) (mnil))))
def q_law_are_cubes_right_0b1 : MS :=
  sasg (mcall fTuple (mcons (k_law_are_cubes_right_0) (mnil))) (tname 5)
def k_law_are_cubes_right_1 : M D :=
  mcomp (mitems (mvar 2)) [8] (tname 8) (mtest (mcallF F_law_has (mcons (mvar 5) (mcons (mvar 8) (mnil))))) (mvar 8)
def q_law_are_cubes_right_0b2 : MS :=
  sasg (k_law_are_cubes_right_1) (tname 6)
def q_law_are_cubes_right_0b3 : MS :=
  sif (morB (mtestB (mop cmpIsNot (mcallF F_is_cube (mcons (mvar 1) (mcons (mvar 5) (mnil)))) (mret (.bool true)))) (mtestB (mop cmpNe (mcallF F_packets_in (mcons (mvar 1) (mcons (mvar 5) (mnil)))) (mcall fTuple (mcons (mvar 6) (mnil)))))) (sret (mret (.bool false))) (snext)
def k_law_are_cubes_right_2 : M D :=
  mcomp (mitems (mvar 2)) [8] (tname 8) (mret true) (mcallF F_has_packet (mcons (mvar 1) (mcons (mvar 5) (mcons (mvar 8) (mnil)))))
def k_law_are_cubes_right_3 : M D :=
  mcomp (mitems (mvar 2)) [8] (tname 8) (mret true) (mop cmpIn (mvar 8) (mvar 6))
def q_law_are_cubes_right_0b4 : MS :=
  sif (mtestB (mop cmpNe (k_law_are_cubes_right_2) (k_law_are_cubes_right_3))) (sret (mret (.bool false))) (snext)
def q_law_are_cubes_right_0b : MS :=
  sseq q_law_are_cubes_right_0b0 (sseq q_law_are_cubes_right_0b1 (sseq q_law_are_cubes_right_0b2 (sseq q_law_are_cubes_right_0b3 (q_law_are_cubes_right_0b4))))
def q_law_are_cubes_right_0 : MS :=
  sfor (mrange range1 (mcons (mret (.int 4)) (mnil))) (tname 3) (q_law_are_cubes_right_0b)
def q_law_are_cubes_right_1 : MS :=
  sret (mop cmpEq (mcallF F_packets_in (mcons (mvar 1) (mcons (mop opMul (mtup (mcons (mret .none) (mnil))) (mcall fLen (mcons (mvar 1) (mnil)))) (mnil)))) (mcall fTuple (mcons (mvar 2) (mnil))))
def q_law_are_cubes_right_ : MS :=
  sseq q_law_are_cubes_right_0 (q_law_are_cubes_right_1)
def b_law_are_cubes_right : MS := q_law_are_cubes_right_
def F_law_are_cubes_right : DEnv → Res D := runDef 6 b_law_are_cubes_right
theorem ok_law_are_cubes_right (t : Txt K mg base T) : Has P w K mg base T 7 "_law_are_cubes_right" ["hand", "space", "packets"] F_law_are_cubes_right := has_D (k := 6) t.d_law_are_cubes_right sc_law_are_cubes_right 6 rfl fun f A outer s H E hr =>
    (pss_cons' (pds_for (passes_of rfl) rfl (pdi_range1 (by rfl) t.n_range (pas_cons pd_int pas_nil)) (tg_name (pg_name (i := 3) sc_law_are_cubes_right.nd rfl (by first | exact Or.inl rfl | exact Or.inr rfl))) (pss_cons' (pds_asg (pd_ix ix_seq' ((pn_lst (pas_cons pd_int (pas_cons pd_int (pas_cons pd_int (pas_cons pd_int pas_nil))))).pd) (pd_var (pv 3))) (tg_name (pg_name (i := 4) sc_law_are_cubes_right.nd rfl (by first | exact Or.inl rfl | exact Or.inr rfl))))
      (pss_cons' (pds_asg (pd_callTy cx_tuple (by rfl) t.n_tuple boot_tuple (pas_cons ((pn_comp (own := [("size", 7)]) rfl sc_law_are_cubes_right.nd (pdi_val (pd_var (pv 1))) (blkOk_by (N := ["hand", "space", "packets", "turn", "bare", "cube", "mine", "size", "packet"]) (sc := defScope s_law_are_cubes_right) (own := [("size", 7)]) (by decide +kernel)) (fun i => (tg_name (pg_name (i := 7) sc_law_are_cubes_right.nd rfl (by first | exact Or.inl rfl | exact Or.inr rfl)))) (by decide) (fun i => ptsD_nil) (fun i => (pd_if (pb_cmp ox_lt (pd_callIoH (ok_law_draw t) (hr.mono (by decide)) (by rfl) (fun σ => passW0 σ) (pv 0) (ml_cons ml_nil) (pas_cons pd_int pas_nil)) (pd_var (pv 4))) pd_non (pd_callIoH (ok_law_draw t) (hr.mono (by decide)) (by rfl) (fun σ => passW0 σ) (pv 0) (ml_cons ml_nil) (pas_cons (pd_var (pv 7)) pas_nil))))).pn.pd) pas_nil)) (tg_name (pg_name (i := 5) sc_law_are_cubes_right.nd rfl (by first | exact Or.inl rfl | exact Or.inr rfl))))
      (pss_cons' (pds_asg ((pn_comp (own := [("packet", 8)]) rfl sc_law_are_cubes_right.nd (pdi_val (pd_var (pv 2))) (blkOk_by (N := ["hand", "space", "packets", "turn", "bare", "cube", "mine", "size", "packet"]) (sc := defScope s_law_are_cubes_right) (own := [("packet", 8)]) (by decide +kernel)) (fun i => (tg_name (pg_name (i := 8) sc_law_are_cubes_right.nd rfl (by first | exact Or.inl rfl | exact Or.inr rfl)))) (by decide) (fun i => (ptsD_one (pb_val (pd_callH (ok_law_has t) (hr.mono (by decide)) (by rfl) (fun σ => passW0 σ) (ml_cons (ml_cons ml_nil)) (pas_cons (pd_var (pv 5)) (pas_cons (pd_var (pv 8)) pas_nil)))))) (fun i => (pd_var (pv 8)))).pn.pd) (tg_name (pg_name (i := 6) sc_law_are_cubes_right.nd rfl (by first | exact Or.inl rfl | exact Or.inr rfl))))
      (pss_cons' (pds_if ((pbw_or (pb_cmp ox_isnot (pd_callH (ok_is_cube t) (hr.mono (by decide)) (by rfl) (fun σ => passAt (takes_of rfl rfl rfl rfl) σ) (ml_cons (ml_cons ml_nil)) (pas_cons (pd_var (pv 1)) (pas_cons (pd_var (pv 5)) pas_nil))) pd_bl) (pbw_or1 (pb_cmp (ox_ne (hu64 hr)) (pd_callH (ok_packets_in t) (hr.mono (by decide)) (by rfl) (fun σ => passAt (takes_of rfl rfl rfl rfl) σ) (ml_cons (ml_cons ml_nil)) (pas_cons (pd_var (pv 1)) (pas_cons (pd_var (pv 5)) pas_nil))) (pd_callTy cx_tuple (by rfl) t.n_tuple boot_tuple (pas_cons (pd_var (pv 6)) pas_nil))))).pb) (pss_one' (pds_ret pd_bl)) pss_nil')
      (pss_one' (pds_if (pb_cmp (ox_ne (hu64 hr)) ((pn_comp (own := [("packet", 8)]) rfl sc_law_are_cubes_right.nd (pdi_val (pd_var (pv 2))) (blkOk_by (N := ["hand", "space", "packets", "turn", "bare", "cube", "mine", "size", "packet"]) (sc := defScope s_law_are_cubes_right) (own := [("packet", 8)]) (by decide +kernel)) (fun i => (tg_name (pg_name (i := 8) sc_law_are_cubes_right.nd rfl (by first | exact Or.inl rfl | exact Or.inr rfl)))) (by decide) (fun i => ptsD_nil) (fun i => (pd_callH (ok_has_packet t) (hr.mono (by decide)) (by rfl) (fun σ => passW0 σ) (ml_cons (ml_cons (ml_cons ml_nil))) (pas_cons (pd_var (pv 1)) (pas_cons (pd_var (pv 5)) (pas_cons (pd_var (pv 8)) pas_nil)))))).pn.pd) ((pn_comp (own := [("packet", 8)]) rfl sc_law_are_cubes_right.nd (pdi_val (pd_var (pv 2))) (blkOk_by (N := ["hand", "space", "packets", "turn", "bare", "cube", "mine", "size", "packet"]) (sc := defScope s_law_are_cubes_right) (own := [("packet", 8)]) (by decide +kernel)) (fun i => (tg_name (pg_name (i := 8) sc_law_are_cubes_right.nd rfl (by first | exact Or.inl rfl | exact Or.inr rfl)))) (by decide) (fun i => ptsD_nil) (fun i => (pd_cmp (ox_in (hu65 hr)) (pd_var (pv 8)) (pd_var (pv 6))))).pn.pd)) (pss_one' (pds_ret pd_bl)) pss_nil')))))))
      (pss_one' (pds_ret (pd_cmp (ox_eq (hu64 hr)) (pd_callH (ok_packets_in t) (hr.mono (by decide)) (by rfl) (fun σ => passAt (takes_of rfl rfl rfl rfl) σ) (ml_cons (ml_cons ml_nil)) (pas_cons (pd_var (pv 1)) (pas_cons (pd_op ox_mul (pd_tup (pas_cons pd_non pas_nil)) (pd_callB cx_len (by rfl) t.n_len boot_len (pas_cons (pd_var (pv 1)) pas_nil))) pas_nil))) (pd_callTy cx_tuple (by rfl) t.n_tuple boot_tuple (pas_cons (pd_var (pv 2)) pas_nil))))))
/-! _law_no_space: 0 hand, 1 space, 2 odd -/
theorem sc_law_no_space : FnScope ["hand", "space", "odd"] ["hand", "space"] (defScope s_law_no_space) := ⟨rfl, rfl, rfl, by decide +kernel, rfl, by decide +kernel, by decide +kernel⟩
def q_law_no_space_0 : MS :=
  snew (mlst (mcons (mret .none) (mcons (mtup (mnil)) (mcons (mret (.str "22")) (mcons (mret (.int 2)) (mcons (mret (.bool true)) (mcons (mlst (mcons (mret (.int 2)) (mcons (mret (.int 2)) (mnil)))) (mcons (mtup (mcons (mret (.int 1)) (mnil))) (mcons (mtup (mcons (mret (.int 9)) (mnil))) (mcons (mtup (mcons (mret (.int 2)) (mcons (mret (.int 1)) (mnil)))) (mcons (mtup (mcons (mret (.int 2)) (mcons (mret (.int 0)) (mnil)))) (mcons (mtup (mcons (mret (.int 2)) (mcons (mneg (mret (.int 2))) (mnil)))) (mcons (mtup (mcons (mret (.int 8)) (mcons (mret (.int 9)) (mnil)))) (mcons (mtup (mcons (mret (.int 8)) (mcons (mret (.int 8)) (mcons (mret (.int 2)) (mnil))))) (mcons (mtup (mcons (mret (.int 2)) (mcons (mret (.int 2)) (mcons (mret (.int 2)) (mcons (mret (.int 2)) (mcons (mret (.int 2)) (mnil))))))) (mnil)))))))))))))))) 2
def q_law_no_space_1 : MS :=
  sdrop (mmut 2 "list" fExtend (mcons (mlst (mcons (mtup (mcons (mret (.bool true)) (mcons (mret (.int 2)) (mnil)))) (mcons (mtup (mcons (mret (.int 2)) (mcons (mret .none) (mnil)))) (mcons (mtup (mcons (mret (.str "2")) (mnil))) (mcons (mtup (mcons (mtup (mcons (mret (.int 2)) (mnil))) (mnil))) (mcons (mcall fList (mcons (mvar 1) (mnil))) (mcons (mop opAdd (mvar 1) (mtup (mcons (mret (.int 1)) (mnil)))) (mcons (mop opAdd (mvar 1) (mtup (mcons (mret (.int 9)) (mnil)))) (mcons (mtup (mcons (mret (.int 3)) (mcons (mret (.int 4)) (mcons (mret (.int 6)) (mnil))))) (mcons (mdict [.inr "2"] (mcons (mret (.int 2)) (mnil))) (mnil))))))))))) (mnil)))
def q_law_no_space_2 : MS :=
  sret (mcallIo F_law_any 0 (mcons (mvar 2) (mnil)))
def q_law_no_space_ : MS :=
  sseq q_law_no_space_0 (sseq q_law_no_space_1 (q_law_no_space_2))
def b_law_no_space : MS := q_law_no_space_
def F_law_no_space : DEnv → Res D := runDef 1 b_law_no_space
theorem ok_law_no_space (t : Txt K mg base T) : Has P w K mg base T 3 "_law_no_space" ["hand", "space"] F_law_no_space := has_D (k := 2) t.d_law_no_space sc_law_no_space 1 rfl fun f A outer s H E hr =>
    (pss_cons' (pds_new (pn_lst (pas_cons pd_non (pas_cons (pd_tup pas_nil) (pas_cons pd_str (pas_cons pd_int (pas_cons pd_bl (pas_cons ((pn_lst (pas_cons pd_int (pas_cons pd_int pas_nil))).pd) (pas_cons (pd_tup (pas_cons pd_int pas_nil)) (pas_cons (pd_tup (pas_cons pd_int pas_nil)) (pas_cons (pd_tup (pas_cons pd_int (pas_cons pd_int pas_nil))) (pas_cons (pd_tup (pas_cons pd_int (pas_cons pd_int pas_nil))) (pas_cons (pd_tup (pas_cons pd_int (pas_cons (pd_neg pd_int) pas_nil))) (pas_cons (pd_tup (pas_cons pd_int (pas_cons pd_int pas_nil))) (pas_cons (pd_tup (pas_cons pd_int (pas_cons pd_int (pas_cons pd_int pas_nil)))) (pas_cons (pd_tup (pas_cons pd_int (pas_cons pd_int (pas_cons pd_int (pas_cons pd_int (pas_cons pd_int pas_nil)))))) pas_nil))))))))))))))) (pg_name (i := 2) sc_law_no_space.nd rfl (by first | exact Or.inl rfl | exact Or.inr rfl)))
      (pss_cons' (pds_expr (pd_mut PySem.F.plainAttrs_list PySem.F.slot_list_extend rfl mu_extend (pv 2) (pas_cons ((pn_lst (pas_cons (pd_tup (pas_cons pd_bl (pas_cons pd_int pas_nil))) (pas_cons (pd_tup (pas_cons pd_int (pas_cons pd_non pas_nil))) (pas_cons (pd_tup (pas_cons pd_str pas_nil)) (pas_cons (pd_tup (pas_cons (pd_tup (pas_cons pd_int pas_nil)) pas_nil)) (pas_cons ((pn_callTy nx_list (by rfl) t.n_list boot_list (pas_cons (pd_var (pv 1)) pas_nil)).pd) (pas_cons (pd_op ox_add (pd_var (pv 1)) (pd_tup (pas_cons pd_int pas_nil))) (pas_cons (pd_op ox_add (pd_var (pv 1)) (pd_tup (pas_cons pd_int pas_nil))) (pas_cons (pd_tup (pas_cons pd_int (pas_cons pd_int (pas_cons pd_int pas_nil)))) (pas_cons ((pn_dict (ppd_str pd_int ppd_nil) (by decide) (by decide)).pd) pas_nil)))))))))).pd) pas_nil)))
      (pss_one' (pds_ret (pd_callIoH (ok_law_any t) (hr.mono (by decide)) (by rfl) (fun σ => passAt (takes_of rfl rfl rfl rfl) σ) (pv 0) (ml_cons ml_nil) (pas_cons (pd_var (pv 2)) pas_nil))))))
/-! _law_spoiled: 0 hand, 1 space, 2 thing, 3 field, 4 found, 5 value -/
theorem sc_law_spoiled : FnScope ["hand", "space", "thing", "field", "found", "value"] ["hand", "space", "thing"] (defScope s_law_spoiled) := ⟨rfl, rfl, rfl, by decide +kernel, rfl, by decide +kernel, by decide +kernel⟩
def q_law_spoiled_0 : MS :=
  sasg (mcallIo F_law_draw 0 (mcons (mcall fLen (mcons (mvar 1) (mnil))) (mnil))) (tname 3)
def q_law_spoiled_1 : MS :=
  snew (mlst (mcons (mcall fList (mcons (mvar 2) (mnil))) (mcons (mop opAdd (mvar 2) (mtup (mcons (mret (.int 0)) (mnil)))) (mcons (mslice (mvar 2) (mpart (mret (.int 1))) (mret none)) (mcons (mtup (mnil)) (mcons (mret .none) (mcons (mret (.str "0")) (mcons (mret (.int 7)) (mcons (mtup (mcons (mvar 2) (mnil))) (mcons (mdict [.inr "0"] (mcons (mret (.int 1)) (mnil))) (mnil))))))))))) 4
def q_law_spoiled_2b0 : MS :=
  sdrop (mmut 4 "list" fAppend (mcons (mop opAdd (mop opAdd (mslice (mvar 2) (mret none) (mpart (mvar 3))) (mtup (mcons (mvar 5) (mnil)))) (mslice (mvar 2) (mpart (mop opAdd (mvar 3) (mret (.int 1)))) (mret none))) (mnil)))
def q_law_spoiled_2b : MS :=
  q_law_spoiled_2b0
def q_law_spoiled_2 : MS :=
  sfor (mitems (mtup (mcons (mixO 1 (mvar 3)) (mcons (mneg (mret (.int 1))) (mcons (mret (.bool true)) (mcons (mret (.bool false)) (mcons (mret (.str "0")) (mcons (mtup (mcons (mret (.int 0)) (mnil))) (mcons (mop opPow (mret (.int 10)) (mret (.int 30))) (mcons (mlst (mcons (mret (.int 0)) (mnil))) (mnil))))))))))) (tname 5) (q_law_spoiled_2b)
def q_law_spoiled_3 : MS :=
  sret (mcallIo F_law_any 0 (mcons (mvar 4) (mnil)))
def q_law_spoiled_ : MS :=
  sseq q_law_spoiled_0 (sseq q_law_spoiled_1 (sseq q_law_spoiled_2 (q_law_spoiled_3)))
def b_law_spoiled : MS := q_law_spoiled_
def F_law_spoiled : DEnv → Res D := runDef 3 b_law_spoiled
theorem ok_law_spoiled (t : Txt K mg base T) : Has P w K mg base T 3 "_law_spoiled" ["hand", "space", "thing"] F_law_spoiled := has_D (k := 2) t.d_law_spoiled sc_law_spoiled 3 rfl fun f A outer s H E hr =>
    (pss_cons' (pds_asg (pd_callIoH (ok_law_draw t) (hr.mono (by decide)) (by rfl) (fun σ => passAt (takes_of rfl rfl rfl rfl) σ) (pv 0) (ml_cons ml_nil) (pas_cons (pd_callB cx_len (by rfl) t.n_len boot_len (pas_cons (pd_var (pv 1)) pas_nil)) pas_nil)) (tg_name (pg_name (i := 3) sc_law_spoiled.nd rfl (by first | exact Or.inl rfl | exact Or.inr rfl))))
      (pss_cons' (pds_new (pn_lst (pas_cons ((pn_callTy nx_list (by rfl) t.n_list boot_list (pas_cons (pd_var (pv 2)) pas_nil)).pd) (pas_cons (pd_op ox_add (pd_var (pv 2)) (pd_tup (pas_cons pd_int pas_nil))) (pas_cons (pd_slice (pd_var (pv 2)) (pp_some pd_int) pp_none) (pas_cons (pd_tup pas_nil) (pas_cons pd_non (pas_cons pd_str (pas_cons pd_int (pas_cons (pd_tup (pas_cons (pd_var (pv 2)) pas_nil)) (pas_cons ((pn_dict (ppd_str pd_int ppd_nil) (by decide) (by decide)).pd) pas_nil)))))))))) (pg_name (i := 4) sc_law_spoiled.nd rfl (by first | exact Or.inl rfl | exact Or.inr rfl)))
      (pss_cons' (pds_for (passes_of rfl) rfl (pdi_val (pd_tup (pas_cons (pd_ixO (pv 1) (pd_var (pv 3))) (pas_cons (pd_neg pd_int) (pas_cons pd_bl (pas_cons pd_bl (pas_cons pd_str (pas_cons (pd_tup (pas_cons pd_int pas_nil)) (pas_cons (pd_op ox_pow pd_int pd_int) (pas_cons ((pn_lst (pas_cons pd_int pas_nil)).pd) pas_nil)))))))))) (tg_name (pg_name (i := 5) sc_law_spoiled.nd rfl (by first | exact Or.inl rfl | exact Or.inr rfl))) (pss_one' (pds_expr (pd_mut PySem.F.plainAttrs_list PySem.F.slot_list_append rfl mu_append (pv 4) (pas_cons (pd_op ox_add (pd_op ox_add (pd_slice (pd_var (pv 2)) pp_none (pp_some (pd_var (pv 3)))) (pd_tup (pas_cons (pd_var (pv 5)) pas_nil))) (pd_slice (pd_var (pv 2)) (pp_some (pd_op ox_add (pd_var (pv 3)) pd_int)) pp_none)) pas_nil)))))
      (pss_one' (pds_ret (pd_callIoH (ok_law_any t) (hr.mono (by decide)) (by rfl) (fun σ => passAt (takes_of rfl rfl rfl rfl) σ) (pv 0) (ml_cons ml_nil) (pas_cons (pd_var (pv 4)) pas_nil)))))))
/-! _law_are_refused: 0 hand, 1 space, 2 packets, 3 words, 4 due, 5 bad, 6 field, 7 odd, 8 packet, 9 value, 10 wrong -/
theorem sc_law_are_refused : FnScope ["hand", "space", "packets", "words", "due", "bad", "field", "odd", "packet", "value", "wrong"] ["hand", "space", "packets"] (defScope s_law_are_refused) := ⟨rfl, rfl, rfl, by decide +kernel, rfl, by decide +kernel, by decide +kernel⟩
def q_law_are_refused_0 : MS :=
  sasg (mtup (mcons (mcallIo F_law_no_space 0 (mcons (mvar 1) (mnil))) (mcons (mcallIo F_law_any 0 (mcons (mvar 2) (mnil))) (mnil)))) (ttup 2 (tcons (tname 7) (tcons (tname 8) (tnil))))
def q_law_are_refused_1 : MS :=
  sasg (mtup (mcons (mcallIo F_law_spoiled 0 (mcons (mvar 1) (mcons (mvar 8) (mnil)))) (mcons (mcallIo F_law_spoiled 0 (mcons (mvar 1) (mcons (mop opMul (mtup (mcons (mret .none) (mnil))) (mcall fLen (mcons (mvar 1) (mnil)))) (mnil)))) (mnil)))) (ttup 2 (tcons (tname 5) (tcons (tname 10) (tnil))))
def q_law_are_refused_2 : MS :=
  sasg (mtup (mcons (mcallIo F_law_any 0 (mcons (mlst (mcons (mcall fLen (mcons (mvar 1) (mnil))) (mcons (mneg (mret (.int 1))) (mcons (mret (.bool true)) (mcons (mret .none) (mcons (mret (.str "0")) (mnil))))))) (mnil))) (mcons (mcallIo F_law_any 0 (mcons (mlst (mcons (mret (.int 8)) (mcons (mneg (mret (.int 1))) (mcons (mret (.bool true)) (mcons (mret .none) (mcons (mret (.str "0")) (mnil))))))) (mnil))) (mnil)))) (ttup 2 (tcons (tname 6) (tcons (tname 9) (tnil))))
def q_law_are_refused_3 : MS :=
  sif (morB (mtestB (mop cmpIsNot (mcallF F_is_packet (mcons (mvar 1) (mcons (mvar 5) (mnil)))) (mret (.bool false)))) (mtestB (mop cmpIsNot (mcallF F_is_cube (mcons (mvar 1) (mcons (mvar 10) (mnil)))) (mret (.bool false))))) (sret (mret (.bool false))) (snext)
def q_law_are_refused_4 : MS :=
  snew (mlst (mcons (mword wl whs (mcallF F_with_value (mcons (mvar 7) (mcons (mvar 5) (mcons (mvar 6) (mcons (mvar 9) (mnil))))))) (mnil))) 3
def q_law_are_refused_5 : MS :=
  sdrop (mmut 3 "list" fAppend (mcons (mword wl whs (mcallF F_with_value (mcons (mvar 1) (mcons (mvar 5) (mcons (mvar 6) (mcons (mvar 9) (mnil))))))) (mnil)))
def q_law_are_refused_6 : MS :=
  sdrop (mmut 3 "list" fAppend (mcons (mword wl whs (mcallF F_with_value (mcons (mvar 1) (mcons (mvar 8) (mcons (mvar 6) (mcons (mvar 9) (mnil))))))) (mnil)))
def q_law_are_refused_7 : MS :=
  sdrop (mmut 3 "list" fAppend (mcons (mword wl whs (mcallF F_with_value (mcons (mvar 1) (mcons (mvar 8) (mcons (mop opSub (mcall fLen (mcons (mvar 1) (mnil))) (mret (.int 1))) (mcons (mvar 9) (mnil))))))) (mnil)))
def q_law_are_refused_8 : MS :=
  sdrop (mmut 3 "list" fAppend (mcons (mword wl whs (mcallF F_has_packet (mcons (mvar 7) (mcons (mvar 10) (mcons (mvar 5) (mnil)))))) (mnil)))
def q_law_are_refused_9 : MS :=
  sdrop (mmut 3 "list" fAppend (mcons (mword wl whs (mcallF F_has_packet (mcons (mvar 1) (mcons (mvar 10) (mcons (mvar 5) (mnil)))))) (mnil)))
def q_law_are_refused_10 : MS :=
  sdrop (mmut 3 "list" fAppend (mcons (mword wl whs (mcallF F_has_packet (mcons (mvar 1) (mcons (mvar 8) (mcons (mvar 5) (mnil)))))) (mnil)))
def q_law_are_refused_11 : MS :=
  sdrop (mmut 3 "list" fAppend (mcons (mword wl whs (mcallF F_packets_in (mcons (mvar 7) (mcons (mvar 10) (mnil))))) (mnil)))
def q_law_are_refused_12 : MS :=
  sdrop (mmut 3 "list" fAppend (mcons (mword wl whs (mcallF F_packets_in (mcons (mvar 1) (mcons (mvar 10) (mnil))))) (mnil)))
def q_law_are_refused_13 : MS :=
  sdrop (mmut 3 "list" fAppend (mcons (mword wl whs (mcallF F_is_packet (mcons (mvar 7) (mcons (mvar 8) (mnil))))) (mnil)))
def q_law_are_refused_14 : MS :=
  sdrop (mmut 3 "list" fAppend (mcons (mword wl whs (mcallF F_is_cube (mcons (mvar 7) (mcons (mvar 8) (mnil))))) (mnil)))
def q_law_are_refused_15 : MS :=
  sdrop (mmut 3 "list" fAppend (mcons (mword wl whs (mcallF F_packets_of (mcons (mvar 7) (mnil)))) (mnil)))
def q_law_are_refused_16 : MS :=
  sasg (mlst (mcons (mret (.str "NoSpace")) (mcons (mret (.str "NoPacket")) (mcons (mret (.str "NoField")) (mcons (mret (.str "NoValue")) (mcons (mret (.str "NoSpace")) (mcons (mret (.str "NoCube")) (mcons (mret (.str "NoPacket")) (mcons (mret (.str "NoSpace")) (mcons (mret (.str "NoCube")) (mnil))))))))))) (tname 4)
def q_law_are_refused_17 : MS :=
  sret (mand (mop cmpEq (mvar 3) (mop opAdd (mvar 4) (mop opMul (mlst (mcons (mret (.str "NoSpace")) (mnil))) (mret (.int 3))))) (mop cmpIs (mcallF F_is_space (mcons (mvar 7) (mnil))) (mret (.bool false))))
def q_law_are_refused_ : MS :=
  sseq q_law_are_refused_0 (sseq q_law_are_refused_1 (sseq q_law_are_refused_2 (sseq q_law_are_refused_3 (sseq q_law_are_refused_4 (sseq q_law_are_refused_5 (sseq q_law_are_refused_6 (sseq q_law_are_refused_7 (sseq q_law_are_refused_8 (sseq q_law_are_refused_9 (sseq q_law_are_refused_10 (sseq q_law_are_refused_11 (sseq q_law_are_refused_12 (sseq q_law_are_refused_13 (sseq q_law_are_refused_14 (sseq q_law_are_refused_15 (sseq q_law_are_refused_16 (q_law_are_refused_17)))))))))))))))))
def b_law_are_refused : MS := q_law_are_refused_
def F_law_are_refused : DEnv → Res D := runDef 8 b_law_are_refused
theorem ok_law_are_refused (t : Txt K mg base T) : Has P w K mg base T 11 "_law_are_refused" ["hand", "space", "packets"] F_law_are_refused := has_D (k := 10) t.d_law_are_refused sc_law_are_refused 8 rfl fun f A outer s H E hr =>
    (pss_cons' (pds_asg (pd_tup (pas_cons (pd_callIoH (ok_law_no_space t) (hr.mono (by decide)) (by rfl) (fun σ => passAt (takes_of rfl rfl rfl rfl) σ) (pv 0) (ml_cons ml_nil) (pas_cons (pd_var (pv 1)) pas_nil)) (pas_cons (pd_callIoH (ok_law_any t) (hr.mono (by decide)) (by rfl) (fun σ => passAt (takes_of rfl rfl rfl rfl) σ) (pv 0) (ml_cons ml_nil) (pas_cons (pd_var (pv 2)) pas_nil)) pas_nil))) (tg_tup (tgs_cons (tg_name (pg_name (i := 7) sc_law_are_refused.nd rfl (by first | exact Or.inl rfl | exact Or.inr rfl))) (tgs_cons (tg_name (pg_name (i := 8) sc_law_are_refused.nd rfl (by first | exact Or.inl rfl | exact Or.inr rfl))) (tgs_nil pgs_nil) (fun _ _ a b => pgs_cons a b)) (fun _ _ a b => pgs_cons a b)) (fun _ h => pg_tup rfl h)))
      (pss_cons' (pds_asg (pd_tup (pas_cons (pd_callIoH (ok_law_spoiled t) (hr.mono (by decide)) (by rfl) (fun σ => passAt (takes_of rfl rfl rfl rfl) σ) (pv 0) (ml_cons (ml_cons ml_nil)) (pas_cons (pd_var (pv 1)) (pas_cons (pd_var (pv 8)) pas_nil))) (pas_cons (pd_callIoH (ok_law_spoiled t) (hr.mono (by decide)) (by rfl) (fun σ => passAt (takes_of rfl rfl rfl rfl) σ) (pv 0) (ml_cons (ml_cons ml_nil)) (pas_cons (pd_var (pv 1)) (pas_cons (pd_op ox_mul (pd_tup (pas_cons pd_non pas_nil)) (pd_callB cx_len (by rfl) t.n_len boot_len (pas_cons (pd_var (pv 1)) pas_nil))) pas_nil))) pas_nil))) (tg_tup (tgs_cons (tg_name (pg_name (i := 5) sc_law_are_refused.nd rfl (by first | exact Or.inl rfl | exact Or.inr rfl))) (tgs_cons (tg_name (pg_name (i := 10) sc_law_are_refused.nd rfl (by first | exact Or.inl rfl | exact Or.inr rfl))) (tgs_nil pgs_nil) (fun _ _ a b => pgs_cons a b)) (fun _ _ a b => pgs_cons a b)) (fun _ h => pg_tup rfl h)))
      (pss_cons' (pds_asg (pd_tup (pas_cons (pd_callIoH (ok_law_any t) (hr.mono (by decide)) (by rfl) (fun σ => passAt (takes_of rfl rfl rfl rfl) σ) (pv 0) (ml_cons ml_nil) (pas_cons ((pn_lst (pas_cons (pd_callB cx_len (by rfl) t.n_len boot_len (pas_cons (pd_var (pv 1)) pas_nil)) (pas_cons (pd_neg pd_int) (pas_cons pd_bl (pas_cons pd_non (pas_cons pd_str pas_nil)))))).pd) pas_nil)) (pas_cons (pd_callIoH (ok_law_any t) (hr.mono (by decide)) (by rfl) (fun σ => passAt (takes_of rfl rfl rfl rfl) σ) (pv 0) (ml_cons ml_nil) (pas_cons ((pn_lst (pas_cons pd_int (pas_cons (pd_neg pd_int) (pas_cons pd_bl (pas_cons pd_non (pas_cons pd_str pas_nil)))))).pd) pas_nil)) pas_nil))) (tg_tup (tgs_cons (tg_name (pg_name (i := 6) sc_law_are_refused.nd rfl (by first | exact Or.inl rfl | exact Or.inr rfl))) (tgs_cons (tg_name (pg_name (i := 9) sc_law_are_refused.nd rfl (by first | exact Or.inl rfl | exact Or.inr rfl))) (tgs_nil pgs_nil) (fun _ _ a b => pgs_cons a b)) (fun _ _ a b => pgs_cons a b)) (fun _ h => pg_tup rfl h)))
      (pss_cons' (pds_if ((pbw_or (pb_cmp ox_isnot (pd_callH (ok_is_packet t) (hr.mono (by decide)) (by rfl) (fun σ => passAt (takes_of rfl rfl rfl rfl) σ) (ml_cons (ml_cons ml_nil)) (pas_cons (pd_var (pv 1)) (pas_cons (pd_var (pv 5)) pas_nil))) pd_bl) (pbw_or1 (pb_cmp ox_isnot (pd_callH (ok_is_cube t) (hr.mono (by decide)) (by rfl) (fun σ => passAt (takes_of rfl rfl rfl rfl) σ) (ml_cons (ml_cons ml_nil)) (pas_cons (pd_var (pv 1)) (pas_cons (pd_var (pv 10)) pas_nil))) pd_bl))).pb) (pss_one' (pds_ret pd_bl)) pss_nil')
      (pss_cons' (pds_new (pn_lst (pas_cons (pd_wordT t t.tab_law_are_refused (by rfl) (by rfl) rfl (k := 8) hr (lamS_by (sc := defScope s_law_are_refused) (by decide +kernel)) rfl (fun _ _ _ _ _ => rfl) (fun A outer s H E f c' hr => (pd_callH (ok_with_value t) (hr.mono (by decide)) (by rfl) (fun σ => passAt (takes_of rfl rfl rfl rfl) σ) (ml_cons (ml_cons (ml_cons (ml_cons ml_nil)))) (pas_cons (pd_var (pv 7)) (pas_cons (pd_var (pv 5)) (pas_cons (pd_var (pv 6)) (pas_cons (pd_var (pv 9)) pas_nil))))))) pas_nil)) (pg_name (i := 3) sc_law_are_refused.nd rfl (by first | exact Or.inl rfl | exact Or.inr rfl)))
      (pss_cons' (pds_expr (pd_mut PySem.F.plainAttrs_list PySem.F.slot_list_append rfl mu_append (pv 3) (pas_cons (pd_wordT t t.tab_law_are_refused (by rfl) (by rfl) rfl (k := 8) hr (lamS_by (sc := defScope s_law_are_refused) (by decide +kernel)) rfl (fun _ _ _ _ _ => rfl) (fun A outer s H E f c' hr => (pd_callH (ok_with_value t) (hr.mono (by decide)) (by rfl) (fun σ => passAt (takes_of rfl rfl rfl rfl) σ) (ml_cons (ml_cons (ml_cons (ml_cons ml_nil)))) (pas_cons (pd_var (pv 1)) (pas_cons (pd_var (pv 5)) (pas_cons (pd_var (pv 6)) (pas_cons (pd_var (pv 9)) pas_nil))))))) pas_nil)))
      (pss_cons' (pds_expr (pd_mut PySem.F.plainAttrs_list PySem.F.slot_list_append rfl mu_append (pv 3) (pas_cons (pd_wordT t t.tab_law_are_refused (by rfl) (by rfl) rfl (k := 8) hr (lamS_by (sc := defScope s_law_are_refused) (by decide +kernel)) rfl (fun _ _ _ _ _ => rfl) (fun A outer s H E f c' hr => (pd_callH (ok_with_value t) (hr.mono (by decide)) (by rfl) (fun σ => passAt (takes_of rfl rfl rfl rfl) σ) (ml_cons (ml_cons (ml_cons (ml_cons ml_nil)))) (pas_cons (pd_var (pv 1)) (pas_cons (pd_var (pv 8)) (pas_cons (pd_var (pv 6)) (pas_cons (pd_var (pv 9)) pas_nil))))))) pas_nil)))
      (pss_cons' (pds_expr (pd_mut PySem.F.plainAttrs_list PySem.F.slot_list_append rfl mu_append (pv 3) (pas_cons (pd_wordT t t.tab_law_are_refused (by rfl) (by rfl) rfl (k := 8) hr (lamS_by (sc := defScope s_law_are_refused) (by decide +kernel)) rfl (fun _ _ _ _ _ => rfl) (fun A outer s H E f c' hr => (pd_callH (ok_with_value t) (hr.mono (by decide)) (by rfl) (fun σ => passAt (takes_of rfl rfl rfl rfl) σ) (ml_cons (ml_cons (ml_cons (ml_cons ml_nil)))) (pas_cons (pd_var (pv 1)) (pas_cons (pd_var (pv 8)) (pas_cons (pd_op ox_sub (pd_callB cx_len (by rfl) t.n_len boot_len (pas_cons (pd_var (pv 1)) pas_nil)) pd_int) (pas_cons (pd_var (pv 9)) pas_nil))))))) pas_nil)))
      (pss_cons' (pds_expr (pd_mut PySem.F.plainAttrs_list PySem.F.slot_list_append rfl mu_append (pv 3) (pas_cons (pd_wordT t t.tab_law_are_refused (by rfl) (by rfl) rfl (k := 8) hr (lamS_by (sc := defScope s_law_are_refused) (by decide +kernel)) rfl (fun _ _ _ _ _ => rfl) (fun A outer s H E f c' hr => (pd_callH (ok_has_packet t) (hr.mono (by decide)) (by rfl) (fun σ => passAt (takes_of rfl rfl rfl rfl) σ) (ml_cons (ml_cons (ml_cons ml_nil))) (pas_cons (pd_var (pv 7)) (pas_cons (pd_var (pv 10)) (pas_cons (pd_var (pv 5)) pas_nil)))))) pas_nil)))
      (pss_cons' (pds_expr (pd_mut PySem.F.plainAttrs_list PySem.F.slot_list_append rfl mu_append (pv 3) (pas_cons (pd_wordT t t.tab_law_are_refused (by rfl) (by rfl) rfl (k := 8) hr (lamS_by (sc := defScope s_law_are_refused) (by decide +kernel)) rfl (fun _ _ _ _ _ => rfl) (fun A outer s H E f c' hr => (pd_callH (ok_has_packet t) (hr.mono (by decide)) (by rfl) (fun σ => passAt (takes_of rfl rfl rfl rfl) σ) (ml_cons (ml_cons (ml_cons ml_nil))) (pas_cons (pd_var (pv 1)) (pas_cons (pd_var (pv 10)) (pas_cons (pd_var (pv 5)) pas_nil)))))) pas_nil)))
      (pss_cons' (pds_expr (pd_mut PySem.F.plainAttrs_list PySem.F.slot_list_append rfl mu_append (pv 3) (pas_cons (pd_wordT t t.tab_law_are_refused (by rfl) (by rfl) rfl (k := 8) hr (lamS_by (sc := defScope s_law_are_refused) (by decide +kernel)) rfl (fun _ _ _ _ _ => rfl) (fun A outer s H E f c' hr => (pd_callH (ok_has_packet t) (hr.mono (by decide)) (by rfl) (fun σ => passAt (takes_of rfl rfl rfl rfl) σ) (ml_cons (ml_cons (ml_cons ml_nil))) (pas_cons (pd_var (pv 1)) (pas_cons (pd_var (pv 8)) (pas_cons (pd_var (pv 5)) pas_nil)))))) pas_nil)))
      (pss_cons' (pds_expr (pd_mut PySem.F.plainAttrs_list PySem.F.slot_list_append rfl mu_append (pv 3) (pas_cons (pd_wordT t t.tab_law_are_refused (by rfl) (by rfl) rfl (k := 8) hr (lamS_by (sc := defScope s_law_are_refused) (by decide +kernel)) rfl (fun _ _ _ _ _ => rfl) (fun A outer s H E f c' hr => (pd_callH (ok_packets_in t) (hr.mono (by decide)) (by rfl) (fun σ => passAt (takes_of rfl rfl rfl rfl) σ) (ml_cons (ml_cons ml_nil)) (pas_cons (pd_var (pv 7)) (pas_cons (pd_var (pv 10)) pas_nil))))) pas_nil)))
      (pss_cons' (pds_expr (pd_mut PySem.F.plainAttrs_list PySem.F.slot_list_append rfl mu_append (pv 3) (pas_cons (pd_wordT t t.tab_law_are_refused (by rfl) (by rfl) rfl (k := 8) hr (lamS_by (sc := defScope s_law_are_refused) (by decide +kernel)) rfl (fun _ _ _ _ _ => rfl) (fun A outer s H E f c' hr => (pd_callH (ok_packets_in t) (hr.mono (by decide)) (by rfl) (fun σ => passAt (takes_of rfl rfl rfl rfl) σ) (ml_cons (ml_cons ml_nil)) (pas_cons (pd_var (pv 1)) (pas_cons (pd_var (pv 10)) pas_nil))))) pas_nil)))
      (pss_cons' (pds_expr (pd_mut PySem.F.plainAttrs_list PySem.F.slot_list_append rfl mu_append (pv 3) (pas_cons (pd_wordT t t.tab_law_are_refused (by rfl) (by rfl) rfl (k := 8) hr (lamS_by (sc := defScope s_law_are_refused) (by decide +kernel)) rfl (fun _ _ _ _ _ => rfl) (fun A outer s H E f c' hr => (pd_callH (ok_is_packet t) (hr.mono (by decide)) (by rfl) (fun σ => passAt (takes_of rfl rfl rfl rfl) σ) (ml_cons (ml_cons ml_nil)) (pas_cons (pd_var (pv 7)) (pas_cons (pd_var (pv 8)) pas_nil))))) pas_nil)))
      (pss_cons' (pds_expr (pd_mut PySem.F.plainAttrs_list PySem.F.slot_list_append rfl mu_append (pv 3) (pas_cons (pd_wordT t t.tab_law_are_refused (by rfl) (by rfl) rfl (k := 8) hr (lamS_by (sc := defScope s_law_are_refused) (by decide +kernel)) rfl (fun _ _ _ _ _ => rfl) (fun A outer s H E f c' hr => (pd_callH (ok_is_cube t) (hr.mono (by decide)) (by rfl) (fun σ => passAt (takes_of rfl rfl rfl rfl) σ) (ml_cons (ml_cons ml_nil)) (pas_cons (pd_var (pv 7)) (pas_cons (pd_var (pv 8)) pas_nil))))) pas_nil)))
      (pss_cons' (pds_expr (pd_mut PySem.F.plainAttrs_list PySem.F.slot_list_append rfl mu_append (pv 3) (pas_cons (pd_wordT t t.tab_law_are_refused (by rfl) (by rfl) rfl (k := 8) hr (lamS_by (sc := defScope s_law_are_refused) (by decide +kernel)) rfl (fun _ _ _ _ _ => rfl) (fun A outer s H E f c' hr => (pd_callH (ok_packets_of t) (hr.mono (by decide)) (by rfl) (fun σ => passAt (takes_of rfl rfl rfl rfl) σ) (ml_cons ml_nil) (pas_cons (pd_var (pv 7)) pas_nil)))) pas_nil)))
      (pss_cons' (pds_asg ((pn_lst (pas_cons pd_str (pas_cons pd_str (pas_cons pd_str (pas_cons pd_str (pas_cons pd_str (pas_cons pd_str (pas_cons pd_str (pas_cons pd_str (pas_cons pd_str pas_nil)))))))))).pd) (tg_name (pg_name (i := 4) sc_law_are_refused.nd rfl (by first | exact Or.inl rfl | exact Or.inr rfl))))
      (pss_one' (pds_ret (pd_and (pd_cmp (ox_eq (hu64 hr)) (pd_var (pv 3)) (pd_op ox_add (pd_var (pv 4)) (pd_op ox_mul ((pn_lst (pas_cons pd_str pas_nil)).pd) pd_int))) (pd_one (pd_cmp ox_is (pd_callH (ok_is_space t) (hr.mono (by decide)) (by rfl) (fun σ => passAt (takes_of rfl rfl rfl rfl) σ) (ml_cons ml_nil) (pas_cons (pd_var (pv 7)) pas_nil)) pd_bl))))))))))))))))))))))
/-! law: 0 script, 1 hand, 2 turn, 3 space, 4 packets, 5 time, 6 packet -/
theorem sc_law : FnScope ["script", "hand", "turn", "space", "packets", "time", "packet"] ["script"] (defScope s_law) := ⟨rfl, rfl, rfl, by decide +kernel, rfl, by decide +kernel, by decide +kernel⟩
def q_law_0b0 : MS :=
  sasg (mcallIo F_law_wide 1 (mnil)) (tname 3)
def q_law_0b1 : MS :=
  sasg (mcallF F_law_packets (mcons (mvar 3) (mnil))) (tname 4)
def q_law_0b2 : MS :=
  sif (morB (mtestB (mop cmpIsNot (mcallF F_is_space (mcons (mvar 3) (mnil))) (mret (.bool true)))) (mtestB (mop cmpNe (mcallF F_packets_of (mcons (mvar 3) (mnil))) (mcall fTuple (mcons (mvar 4) (mnil)))))) (sret (mret (.bool false))) (snext)
def k_law_0 : M D :=
  mcomp (mitems (mvar 4)) [6] (tname 6) (mret true) (mand (mop cmpIs (mcallF F_is_packet (mcons (mvar 3) (mcons (mvar 6) (mnil)))) (mret (.bool true))) (mop cmpIs (mcallF F_is_cube (mcons (mvar 3) (mcons (mvar 6) (mnil)))) (mret (.bool true))))
def q_law_0b3 : MS :=
  sif (mnotB (mtest (mcall fAll (mcons (k_law_0) (mnil))))) (sret (mret (.bool false))) (snext)
def q_law_0b4 : MS :=
  sif (mtestB (mop cmpIsNot (mcallF F_is_packet (mcons (mvar 3) (mcons (mop opMul (mtup (mcons (mret .none) (mnil))) (mcall fLen (mcons (mvar 3) (mnil)))) (mnil)))) (mret (.bool false)))) (sret (mret (.bool false))) (snext)
def q_law_0b5 : MS :=
  sif (morB (mnotB (mtest (mcallIo F_law_are_turned_right 1 (mcons (mvar 3) (mcons (mvar 4) (mnil)))))) (mnotB (mtest (mcallIo F_law_are_cubes_right 1 (mcons (mvar 3) (mcons (mvar 4) (mnil))))))) (sret (mret (.bool false))) (snext)
def q_law_0b6b0 : MS :=
  sif (mnotB (mtest (mcallIo F_law_are_refused 1 (mcons (mvar 3) (mcons (mvar 4) (mnil)))))) (sret (mret (.bool false))) (snext)
def q_law_0b6b : MS :=
  q_law_0b6b0
def q_law_0b6 : MS :=
  sfor (mrange range1 (mcons (mret (.int 4)) (mnil))) (tname 5) (q_law_0b6b)
def q_law_0b : MS :=
  sseq q_law_0b0 (sseq q_law_0b1 (sseq q_law_0b2 (sseq q_law_0b3 (sseq q_law_0b4 (sseq q_law_0b5 (q_law_0b6))))))
def q_law_0 : MS :=
  sfor (mrange range1 (mcons (mret (.int 2)) (mnil))) (tname 2) (q_law_0b)
def q_law_1 : MS :=
  sret (mret (.bool true))
def q_law_ : MS :=
  sseq q_law_0 (q_law_1)
def b_law : MS := q_law_
theorem ok_lawrest (t : Txt K mg base T) (cdv : Value) (f : Addr) (A : Around) (outer : List Env) (s : Shared) (H : Hp) (E : XK) (hr : Room 11 (A.deeper (envOfC "law" (defScope s_law) s.heap.objs.size f cdv))) :
    PDss (cxOf (L2.CX P w) P w K mg base ["script", "hand", "turn", "space", "packets", "time", "packet"] "law" (defScope s_law) f cdv A outer s H E) T (Wd E) (defBody s_law).tail b_law :=
    (pss_cons' (pds_for (passes_of rfl) rfl (pdi_range1 (by rfl) t.n_range (pas_cons pd_int pas_nil)) (tg_name (pg_name (i := 2) sc_law.nd rfl (by first | exact Or.inl rfl | exact Or.inr rfl))) (pss_cons' (pds_asg (pd_callIoH (ok_law_wide t) (hr.mono (by decide)) (by rfl) (fun σ => passAt (takes_of rfl rfl rfl rfl) σ) (pv 1) ml_nil pas_nil) (tg_name (pg_name (i := 3) sc_law.nd rfl (by first | exact Or.inl rfl | exact Or.inr rfl))))
      (pss_cons' (pds_asg (pd_callH (ok_law_packets t) (hr.mono (by decide)) (by rfl) (fun σ => passAt (takes_of rfl rfl rfl rfl) σ) (ml_cons ml_nil) (pas_cons (pd_var (pv 3)) pas_nil)) (tg_name (pg_name (i := 4) sc_law.nd rfl (by first | exact Or.inl rfl | exact Or.inr rfl))))
      (pss_cons' (pds_if ((pbw_or (pb_cmp ox_isnot (pd_callH (ok_is_space t) (hr.mono (by decide)) (by rfl) (fun σ => passAt (takes_of rfl rfl rfl rfl) σ) (ml_cons ml_nil) (pas_cons (pd_var (pv 3)) pas_nil)) pd_bl) (pbw_or1 (pb_cmp (ox_ne (hu64 hr)) (pd_callH (ok_packets_of t) (hr.mono (by decide)) (by rfl) (fun σ => passAt (takes_of rfl rfl rfl rfl) σ) (ml_cons ml_nil) (pas_cons (pd_var (pv 3)) pas_nil)) (pd_callTy cx_tuple (by rfl) t.n_tuple boot_tuple (pas_cons (pd_var (pv 4)) pas_nil))))).pb) (pss_one' (pds_ret pd_bl)) pss_nil')
      (pss_cons' (pds_if (pb_not (pb_val (pd_callB (cx_all rfl) (by rfl) t.n_all boot_all (pas_cons ((pn_comp (own := [("packet", 6)]) rfl sc_law.nd (pdi_val (pd_var (pv 4))) (blkOk_by (N := ["script", "hand", "turn", "space", "packets", "time", "packet"]) (sc := defScope s_law) (own := [("packet", 6)]) (by decide +kernel)) (fun i => (tg_name (pg_name (i := 6) sc_law.nd rfl (by first | exact Or.inl rfl | exact Or.inr rfl)))) (by decide) (fun i => ptsD_nil) (fun i => (pd_and (pd_cmp ox_is (pd_callH (ok_is_packet t) (hr.mono (by decide)) (by rfl) (fun σ => passW0 σ) (ml_cons (ml_cons ml_nil)) (pas_cons (pd_var (pv 3)) (pas_cons (pd_var (pv 6)) pas_nil))) pd_bl) (pd_one (pd_cmp ox_is (pd_callH (ok_is_cube t) (hr.mono (by decide)) (by rfl) (fun σ => passW0 σ) (ml_cons (ml_cons ml_nil)) (pas_cons (pd_var (pv 3)) (pas_cons (pd_var (pv 6)) pas_nil))) pd_bl))))).pn.pd) pas_nil)))) (pss_one' (pds_ret pd_bl)) pss_nil')
      (pss_cons' (pds_if (pb_cmp ox_isnot (pd_callH (ok_is_packet t) (hr.mono (by decide)) (by rfl) (fun σ => passAt (takes_of rfl rfl rfl rfl) σ) (ml_cons (ml_cons ml_nil)) (pas_cons (pd_var (pv 3)) (pas_cons (pd_op ox_mul (pd_tup (pas_cons pd_non pas_nil)) (pd_callB cx_len (by rfl) t.n_len boot_len (pas_cons (pd_var (pv 3)) pas_nil))) pas_nil))) pd_bl) (pss_one' (pds_ret pd_bl)) pss_nil')
      (pss_cons' (pds_if ((pbw_or (pb_not (pb_val (pd_callIoH (ok_law_are_turned_right t) (hr.mono (by decide)) (by rfl) (fun σ => passAt (takes_of rfl rfl rfl rfl) σ) (pv 1) (ml_cons (ml_cons ml_nil)) (pas_cons (pd_var (pv 3)) (pas_cons (pd_var (pv 4)) pas_nil))))) (pbw_or1 (pb_not (pb_val (pd_callIoH (ok_law_are_cubes_right t) (hr.mono (by decide)) (by rfl) (fun σ => passAt (takes_of rfl rfl rfl rfl) σ) (pv 1) (ml_cons (ml_cons ml_nil)) (pas_cons (pd_var (pv 3)) (pas_cons (pd_var (pv 4)) pas_nil))))))).pb) (pss_one' (pds_ret pd_bl)) pss_nil')
      (pss_one' (pds_for (passes_of rfl) rfl (pdi_range1 (by rfl) t.n_range (pas_cons pd_int pas_nil)) (tg_name (pg_name (i := 5) sc_law.nd rfl (by first | exact Or.inl rfl | exact Or.inr rfl))) (pss_one' (pds_if (pb_not (pb_val (pd_callIoH (ok_law_are_refused t) (hr.mono (by decide)) (by rfl) (fun σ => passAt (takes_of rfl rfl rfl rfl) σ) (pv 1) (ml_cons (ml_cons ml_nil)) (pas_cons (pd_var (pv 3)) (pas_cons (pd_var (pv 4)) pas_nil))))) (pss_one' (pds_ret pd_bl)) pss_nil')))))))))))
      (pss_one' (pds_ret pd_bl)))
theorem sc_law_hand : FnScope ["script", "cells", "cell"] ["script"] (defScope s_law_hand) := ⟨rfl, rfl, rfl, by decide +kernel, rfl, by decide +kernel, by decide +kernel⟩
def m_hand1 : M D := mcall fAbs (mcons (mcall fInt (mcons (mvar 2) (mnil))) (mnil))
def m_hand2 : M D := mlst (mcons (mvar 1) (mcons (mret (.int 0)) (mcons (mret (.int 0)) (mcons (mop opAdd (mret (.int 79)) (mop opMul (mret (.int 11)) (mcall fLen (mcons (mvar 1) (mnil))))) (mcons (mret (.int 0)) (mnil))))))
def fz (n : Nat) : Int := 79 + 11 * n
theorem hand1 (z : Int) : ∃ y : Int, 0 ≤ y ∧ m_hand1 [.un, .un, .val (.int z)] = .ok (.int y) [.un, .un, .val (.int z)] := by
  refine ⟨if z < 0 then -z else z, by split <;> omega, ?_⟩
  simp [m_hand1, mcall, mcons, mnil, mret, mbind, mvar, mlift, fInt, fAbs]
theorem hand2 (cells : List Int) : m_hand2 [.un, .val (.list (cells.map .int)), .un] = .ok (handD cells (fz cells.length)) [.un, .val (.list (cells.map .int)), .un] := by
  simp [m_hand2, mlst, mcons, mnil, mret, mbind, mvar, mop, mcall, mlift, opAdd, opMul, smallMul, fLen, handD, fz]
theorem ok_law_hand (t : Txt K mg base T) : HasHand P w K mg base T 2 fz := hand_D (k := 1) t.d_law_hand sc_law_hand fun f A outer s H E hr =>
    hand_pss (T := T) (f := fz) rfl sc_law_hand.nd rfl (pv 0) rfl rfl (sw_true rfl rfl rfl rfl) (blkOk_by (N := ["script", "cells", "cell"]) (sc := defScope s_law_hand) (own := [("cell", 2)]) (by decide +kernel)) (fun i => tg_name (pg_name (i := 2) sc_law_hand.nd rfl (by first | exact Or.inl rfl | exact Or.inr rfl))) (fun i => (pd_callB cx_abs (by rfl) t.n_abs boot_abs (pas_cons (pd_callTy cx_int (by rfl) t.n_int boot_int (pas_cons (pd_var (pv 2)) pas_nil)) pas_nil))) (pn_lst (pas_cons (pd_var (pv 1)) (pas_cons pd_int (pas_cons pd_int (pas_cons (pd_op ox_add pd_int (pd_op ox_mul pd_int (pd_callB cx_len (by rfl) t.n_len boot_len (pas_cons (pd_var (pv 1)) pas_nil)))) (pas_cons pd_int pas_nil)))))) hand1 hand2 (by intro _; rfl)
/-- what is left: the mirror answers True -/
def Plain : Prop := ∀ cells : List Int, cells.length ≤ 63 → (∀ z ∈ cells, 0 ≤ z) → ∃ ρ', b_law (.un :: .own (handD cells (fz cells.length)) :: List.replicate 5 .un) = .ret (.bool true) ρ'
end
theorem law_at (plain : Plain) {l : PySem.W.OpenLaw} {w : World} {K : Frag} {mg : Str → Option Value} {fa : Addr} {h : Heap} (t : Fct K mg) (L : LawF K fa s_law) (f_law_are_refused : TabF K h t.a_law_are_refused t.p_law_are_refused) : LawAtS l w K (L2.CX l.prog w) 12 63 "script" mg fa h := by
  obtain ⟨oc, od, kV, doc, pm, an, cdv, ct, osl, lk, lc, lb⟩ := L.ex
  refine ⟨_, [(t.a_law_are_refused, t.p_law_are_refused)], spLaw K [(t.p_law_are_refused, "_law_are_refused.<locals>.<lambda>")], (fun p hp => by simp only [List.mem_cons, List.not_mem_nil, or_false] at hp; (rcases hp with rfl); (exact f_law_are_refused.tb)), (fun p hp => by simp only [List.mem_cons, List.not_mem_nil, or_false] at hp; (rcases hp with rfl); (exact f_law_are_refused.nK)), (fun p hp => by simp only [List.mem_cons, List.not_mem_nil, or_false] at hp; (rcases hp with rfl); (exact f_law_are_refused.hd)), fun s u => .of_eq (lb u), fun H a ns hn _ hH hS => ⟨a, ns, rfl, hS, hn, (fun p hp => by simp only [List.mem_cons, List.not_mem_nil, or_false] at hp; (rcases hp with rfl); (exact TabS.nil (hH (t.a_law_are_refused, t.p_law_are_refused) (by simp)))), fun _ => rfl⟩, fun base KB GB TB => ?_⟩
  have t2 : Txt K mg base [(t.p_law_are_refused, "_law_are_refused.<locals>.<lambda>")] := { t with tab_law_are_refused := ⟨TB (t.a_law_are_refused, t.p_law_are_refused) (by simp), by simp, by simp⟩ }
  exact law_D (N := ["turn", "space", "packets", "time", "packet"]) (fz := fz) (m := 5) (kh := 2) (k := 11) ⟨oc, od, kV, doc, pm, an, ct, osl, rfl, lk, lc⟩ sc_law rfl rfl (ok_law_hand t2) (by decide) rfl rfl rfl (fun A outer s H E hr => ok_lawrest t2 cdv fa A outer s H E hr) plain
end Lw
namespace Lw
open PySem PySem.Spec PyProof.Rows L2 RZ LamX PL
open PySem.W (Frag)
def HD (c : List Int) (i j k l : Int) : D := .list [.list (c.map .int), .int i, .int j, .int k, .int l]
theorem atI_ok {α : Type} {xs : List α} {i : Int} (h0 : 0 ≤ i) (h : i < xs.length) : atI xs i = xs[i.toNat]? := by
  unfold atI ixN
  rw [if_pos h0, if_pos h]
  rfl
theorem cmpEq_int (a b : Int) : cmpEq (.int a) (.int b) = some (.bool (decide (a = b))) := by
  rw [cmpEq_of (Shp.int (n := 0) a) (Shp.int (n := 0) b)]
  rfl
theorem e_draw_tail (c : List Int) (b : Int) (h1 : 1 ≤ b) (h2 : b < 1073741824) (hc : c.length ≤ 63) (hn : ∀ z ∈ c, 0 ≤ z) (i j k l : Int) (x : Slot) (hi : 0 ≤ i) (hj : 0 ≤ j) (hx : isIo (some x) = false) :
    ∃ (d : Int) (h' : D) (ρ' : DEnv), 0 ≤ d ∧ d < b ∧ HandOk h' ∧ (sseq q_law_draw_1 (sseq q_law_draw_2 (sseq q_law_draw_3 (sseq q_law_draw_4 (sseq q_law_draw_5 q_law_draw_6)))) : MS) [.io (HD c i j k l), .val (.int b), x, .un, .un] = .ret (.int d) (.io h' :: .val (.int b) :: ρ') := by
  have h1' : ¬ b = 0 := by omega
  have hb0 : 0 < b := by omega
  by_cases hp : 0 < j
  · refine ⟨j % b, HD c i (j / b) k l, [x, .val (.int (j % b)), .un], Int.emod_nonneg _ h1', Int.emod_lt_of_pos _ hb0, ⟨c, i, j / b, k, l, rfl, hi, Int.ediv_nonneg hj (by omega), hc, hn⟩, ?_⟩
    simp [HD, q_law_draw_1, mbind, mret, mvar, mop, mcall, mcons, mnil, mlift, mtup, mlst, mif, mand, mor, mnot, mandB, morB, mnotB, mtest, mtestB, truth, mbool, mchain, mneg, uNeg, sbind, sseq, sif, sret, sretN, sdrop, snext, sraise, sasg, tname, ttup, tcons, tnil, isIo, mitems, items, mrange, mpart, dInt, mslice, runDef, outs, ssub, ssub2, mineAt, Slot.mine, Slot.put, mixO, mixO2, spar, sparN, sparO, snew, mmut, mmut2, mcallF, mcallIo, mcallIo2, wipeD, restD, calmAt, fLen, fInt, fAbs, fTuple, fList, opAdd, opSub, cmpLt, cmpLe, cmpGt, cmpGe, cmpIs, cmpIsNot, isNone, fIx, atI, ixN, listSet, opMod, opFdiv, hp, hb0, h2]
  · generalize ha : ((k + 7919 * (l + 1)) * 48271) % 2147483647 = a
    generalize hb' : (a * (a / 1009 + 69621)) % 2147483647 = a2
    generalize hc' : (a2 * (a2 / 2003 + 40014)) % 2147483563 = a3
    have ha1 : 0 ≤ a ∧ a < 2147483647 := by omega
    have ha2 : 0 ≤ a2 ∧ a2 < 2147483647 := by omega
    have s1 : smallMul 7919 (l + 1) = true := by simp [smallMul]
    have s2 : smallMul (k + 7919 * (l + 1)) 48271 = true := by simp [smallMul]
    have s3 : smallMul a (a / 1009 + 69621) = true := by
      have : (-18446744073709551616 < a) ∧ a < 18446744073709551616 := by omega
      simp [smallMul, this.1, this.2]
    have s4 : smallMul a2 (a2 / 2003 + 40014) = true := by
      have : (-18446744073709551616 < a2) ∧ a2 < 18446744073709551616 := by omega
      simp [smallMul, this.1, this.2]
    refine ⟨(a3 / 16) % b, HD c i j k (l + 1), [x, .un, .val (.int a3)], Int.emod_nonneg _ h1', Int.emod_lt_of_pos _ hb0, ⟨c, i, j, k, l + 1, rfl, hi, hj, hc, hn⟩, ?_⟩
    have e1 : q_law_draw_1 ([.io (HD c i j k l), .val (.int b), x, .un, .un] : DEnv) = .next [.io (HD c i j k l), .val (.int b), x, .un, .un] := by
      simp [HD, q_law_draw_1, mbind, mret, mvar, mop, mcall, mcons, mnil, mlift, mtup, mlst, mif, mand, mor, mnot, mandB, morB, mnotB, mtest, mtestB, truth, mbool, mchain, mneg, uNeg, sbind, sseq, sif, sret, sretN, sdrop, snext, sraise, sasg, tname, ttup, tcons, tnil, isIo, mitems, items, mrange, mpart, dInt, mslice, runDef, outs, ssub, ssub2, mineAt, Slot.mine, Slot.put, mixO, mixO2, spar, sparN, sparO, snew, mmut, mmut2, mcallF, mcallIo, mcallIo2, wipeD, restD, calmAt, fLen, fInt, fAbs, fTuple, fList, opAdd, opSub, cmpLt, cmpLe, cmpGt, cmpGe, cmpIs, cmpIsNot, isNone, fIx, atI, ixN, listSet, hp]
    have e2 : q_law_draw_2 ([.io (HD c i j k l), .val (.int b), x, .un, .un] : DEnv) = .next [.io (HD c i j k (l + 1)), .val (.int b), x, .un, .un] := by
      simp [HD, q_law_draw_2, mbind, mret, mvar, mop, mcall, mcons, mnil, mlift, mtup, mlst, mif, mand, mor, mnot, mandB, morB, mnotB, mtest, mtestB, truth, mbool, mchain, mneg, uNeg, sbind, sseq, sif, sret, sretN, sdrop, snext, sraise, sasg, tname, ttup, tcons, tnil, isIo, mitems, items, mrange, mpart, dInt, mslice, runDef, outs, ssub, ssub2, mineAt, Slot.mine, Slot.put, mixO, mixO2, spar, sparN, sparO, snew, mmut, mmut2, mcallF, mcallIo, mcallIo2, wipeD, restD, calmAt, fLen, fInt, fAbs, fTuple, fList, opAdd, opSub, cmpLt, cmpLe, cmpGt, cmpGe, cmpIs, cmpIsNot, isNone, fIx, atI, ixN, listSet]
    have e3 : q_law_draw_3 ([.io (HD c i j k (l + 1)), .val (.int b), x, .un, .un] : DEnv) = .next [.io (HD c i j k (l + 1)), .val (.int b), x, .un, .val (.int a)] := by
      simp [HD, q_law_draw_3, mbind, mret, mvar, mop, mcall, mcons, mnil, mlift, mtup, mlst, mif, mand, mor, mnot, mandB, morB, mnotB, mtest, mtestB, truth, mbool, mchain, mneg, uNeg, sbind, sseq, sif, sret, sretN, sdrop, snext, sraise, sasg, tname, ttup, tcons, tnil, isIo, mitems, items, mrange, mpart, dInt, mslice, runDef, outs, ssub, ssub2, mineAt, Slot.mine, Slot.put, mixO, mixO2, spar, sparN, sparO, snew, mmut, mmut2, mcallF, mcallIo, mcallIo2, wipeD, restD, calmAt, fLen, fInt, fAbs, fTuple, fList, opAdd, opSub, cmpLt, cmpLe, cmpGt, cmpGe, cmpIs, cmpIsNot, isNone, fIx, atI, ixN, listSet, opMod, opMul, s1, s2, ha]
    have e4 : q_law_draw_4 ([.io (HD c i j k (l + 1)), .val (.int b), x, .un, .val (.int a)] : DEnv) = .next [.io (HD c i j k (l + 1)), .val (.int b), x, .un, .val (.int a2)] := by
      simp [q_law_draw_4, mbind, mret, mvar, mop, mcall, mcons, mnil, mlift, mtup, mlst, mif, mand, mor, mnot, mandB, morB, mnotB, mtest, mtestB, truth, mbool, mchain, mneg, uNeg, sbind, sseq, sif, sret, sretN, sdrop, snext, sraise, sasg, tname, ttup, tcons, tnil, isIo, mitems, items, mrange, mpart, dInt, mslice, runDef, outs, ssub, ssub2, mineAt, Slot.mine, Slot.put, mixO, mixO2, spar, sparN, sparO, snew, mmut, mmut2, mcallF, mcallIo, mcallIo2, wipeD, restD, calmAt, fLen, fInt, fAbs, fTuple, fList, opAdd, opSub, cmpLt, cmpLe, cmpGt, cmpGe, cmpIs, cmpIsNot, isNone, opMod, opMul, opFdiv, s3, hb']
    have e5 : q_law_draw_5 ([.io (HD c i j k (l + 1)), .val (.int b), x, .un, .val (.int a2)] : DEnv) = .next [.io (HD c i j k (l + 1)), .val (.int b), x, .un, .val (.int a3)] := by
      simp [q_law_draw_5, mbind, mret, mvar, mop, mcall, mcons, mnil, mlift, mtup, mlst, mif, mand, mor, mnot, mandB, morB, mnotB, mtest, mtestB, truth, mbool, mchain, mneg, uNeg, sbind, sseq, sif, sret, sretN, sdrop, snext, sraise, sasg, tname, ttup, tcons, tnil, isIo, mitems, items, mrange, mpart, dInt, mslice, runDef, outs, ssub, ssub2, mineAt, Slot.mine, Slot.put, mixO, mixO2, spar, sparN, sparO, snew, mmut, mmut2, mcallF, mcallIo, mcallIo2, wipeD, restD, calmAt, fLen, fInt, fAbs, fTuple, fList, opAdd, opSub, cmpLt, cmpLe, cmpGt, cmpGe, cmpIs, cmpIsNot, isNone, opMod, opMul, opFdiv, s4, hc']
    rw [sseq_next e1, sseq_next e2, sseq_next e3, sseq_next e4, sseq_next e5]
    simp [q_law_draw_6, mbind, mret, mvar, mop, mcall, mcons, mnil, mlift, mtup, mlst, mif, mand, mor, mnot, mandB, morB, mnotB, mtest, mtestB, truth, mbool, mchain, mneg, uNeg, sbind, sseq, sif, sret, sretN, sdrop, snext, sraise, sasg, tname, ttup, tcons, tnil, isIo, mitems, items, mrange, mpart, dInt, mslice, runDef, outs, ssub, ssub2, mineAt, Slot.mine, Slot.put, mixO, mixO2, spar, sparN, sparO, snew, mmut, mmut2, mcallF, mcallIo, mcallIo2, wipeD, restD, calmAt, fLen, fInt, fAbs, fTuple, fList, opAdd, opSub, cmpLt, cmpLe, cmpGt, cmpGe, cmpIs, cmpIsNot, isNone, opMod, opFdiv, hb0]
theorem e_law_draw (h : D) (b : Int) (hh : HandOk h) (h1 : 1 ≤ b) (h2 : b < 1073741824) : ∃ (d : Int) (h' : D), 0 ≤ d ∧ d < b ∧ HandOk h' ∧ F_law_draw [.io h, .val (.int b)] = .ok (.int d) [.io h', .val (.int b)] := by
  obtain ⟨c, i, j, k, l, rfl, hi, hj, hc, hn⟩ := hh
  have first : ∃ (i' j' k' : Int) (x : Slot), 0 ≤ i' ∧ 0 ≤ j' ∧ isIo (some x) = false ∧ q_law_draw_0 ([.io (HD c i j k l), .val (.int b), .un, .un, .un] : DEnv) = .next ([.io (HD c i' j' k' l), .val (.int b), x, .un, .un] : DEnv) := by
    by_cases hj0 : j = 0
    · by_cases hil : i < c.length
      · obtain ⟨z, hat⟩ : ∃ z, c[i.toNat]? = some z := ⟨_, List.getElem?_eq_getElem (by omega)⟩
        have hge : ∀ hp : i.toNat < c.length, c[i.toNat]'hp = z := fun hp => by rw [List.getElem?_eq_getElem hp] at hat; exact Option.some.inj hat
        have hz0 : 0 ≤ z := hn z (List.mem_of_getElem? hat)
        by_cases hbig : (1000000000000000000 : Int) ≤ z
        · refine ⟨i + 1, z, (k * 48271 + z * 69621 + 37) % 2147483629, .val (.int z), by omega, by omega, rfl, ?_⟩
          simp [HD, q_law_draw_0, mbind, mret, mvar, mop, mcall, mcons, mnil, mlift, mtup, mlst, mif, mand, mor, mnot, mandB, morB, mnotB, mtest, mtestB, truth, mbool, mchain, mneg, uNeg, sbind, sseq, sif, sret, sretN, sdrop, snext, sraise, sasg, tname, ttup, tcons, tnil, isIo, mitems, items, mrange, mpart, dInt, mslice, runDef, outs, ssub, ssub2, mineAt, Slot.mine, Slot.put, mixO, mixO2, spar, sparN, sparO, snew, mmut, mmut2, mcallF, mcallIo, mcallIo2, wipeD, restD, calmAt, fLen, fInt, fAbs, fTuple, fList, opAdd, opSub, cmpLt, cmpLe, cmpGt, cmpGe, cmpIs, cmpIsNot, isNone, hat, hge, hi, fIx, atI, ixN, listSet, cmpEq_int, opMod, opMul, opPow, smallMul, hj0, hil, hbig]
        · refine ⟨i + 1, j, (k * 48271 + z * 69621 + 37) % 2147483629, .val (.int z), by omega, by omega, rfl, ?_⟩
          simp [HD, q_law_draw_0, mbind, mret, mvar, mop, mcall, mcons, mnil, mlift, mtup, mlst, mif, mand, mor, mnot, mandB, morB, mnotB, mtest, mtestB, truth, mbool, mchain, mneg, uNeg, sbind, sseq, sif, sret, sretN, sdrop, snext, sraise, sasg, tname, ttup, tcons, tnil, isIo, mitems, items, mrange, mpart, dInt, mslice, runDef, outs, ssub, ssub2, mineAt, Slot.mine, Slot.put, mixO, mixO2, spar, sparN, sparO, snew, mmut, mmut2, mcallF, mcallIo, mcallIo2, wipeD, restD, calmAt, fLen, fInt, fAbs, fTuple, fList, opAdd, opSub, cmpLt, cmpLe, cmpGt, cmpGe, cmpIs, cmpIsNot, isNone, hat, hge, hi, fIx, atI, ixN, listSet, cmpEq_int, opMod, opMul, opPow, smallMul, hj0, hil, hbig]
      · refine ⟨i, j, k, .un, hi, hj, rfl, ?_⟩
        simp [HD, q_law_draw_0, mbind, mret, mvar, mop, mcall, mcons, mnil, mlift, mtup, mlst, mif, mand, mor, mnot, mandB, morB, mnotB, mtest, mtestB, truth, mbool, mchain, mneg, uNeg, sbind, sseq, sif, sret, sretN, sdrop, snext, sraise, sasg, tname, ttup, tcons, tnil, isIo, mitems, items, mrange, mpart, dInt, mslice, runDef, outs, ssub, ssub2, mineAt, Slot.mine, Slot.put, mixO, mixO2, spar, sparN, sparO, snew, mmut, mmut2, mcallF, mcallIo, mcallIo2, wipeD, restD, calmAt, fLen, fInt, fAbs, fTuple, fList, opAdd, opSub, cmpLt, cmpLe, cmpGt, cmpGe, cmpIs, cmpIsNot, isNone, fIx, atI, ixN, listSet, cmpEq_int, hj0, hil]
    · refine ⟨i, j, k, .un, hi, hj, rfl, ?_⟩
      simp [HD, q_law_draw_0, mbind, mret, mvar, mop, mcall, mcons, mnil, mlift, mtup, mlst, mif, mand, mor, mnot, mandB, morB, mnotB, mtest, mtestB, truth, mbool, mchain, mneg, uNeg, sbind, sseq, sif, sret, sretN, sdrop, snext, sraise, sasg, tname, ttup, tcons, tnil, isIo, mitems, items, mrange, mpart, dInt, mslice, runDef, outs, ssub, ssub2, mineAt, Slot.mine, Slot.put, mixO, mixO2, spar, sparN, sparO, snew, mmut, mmut2, mcallF, mcallIo, mcallIo2, wipeD, restD, calmAt, fLen, fInt, fAbs, fTuple, fList, opAdd, opSub, cmpLt, cmpLe, cmpGt, cmpGe, cmpIs, cmpIsNot, isNone, fIx, atI, ixN, listSet, cmpEq_int, hj0]
  obtain ⟨i', j', k', x, hi', hj', hx, e1⟩ := first
  obtain ⟨d, h', ρ', hd0, hd1, ho, e2⟩ := e_draw_tail c b h1 h2 hc hn i' j' k' l x hi' hj' hx
  refine ⟨d, h', hd0, hd1, ho, ?_⟩
  unfold F_law_draw runDef b_law_draw q_law_draw_
  show (match (sseq _ _ : MS) ([.io (HD c i j k l), .val (.int b), .un, .un, .un] : DEnv) with | .ret d ρ => Res.ok d (outs _ ρ) | .next ρ => .ok .none (outs _ ρ) | .err c ρ => .err c (outs _ ρ) | _ => .bad) = _
  rw [sseq_next e1, e2]
  rfl
end Lw
namespace Lw
open PySem PySem.Spec PyProof.Rows L2 RZ LamX PL
open PySem.W (Frag)
def isInt : D → Bool
  | .int _ => true
  | _ => false
def toI : D → Int
  | .int i => i
  | _ => 0
theorem e_is_integer (d : D) : F_is_integer [.val d] = .ok (.bool (isInt d)) [.val d] := by
  cases d <;> rfl
def isIn (d : D) (a b : Int) : Bool := match d with
  | .int i => decide (a ≤ i) && decide (i ≤ b)
  | _ => false
theorem e_is_within (d : D) (a b : Int) : F_is_within [.val d, .val (.int a), .val (.int b)] = .ok (.bool (isIn d a b)) [.val d, .val (.int a), .val (.int b)] := by
  have h : ∀ ρ, mcallF F_is_integer (mcons (mvar 0) mnil) (.val d :: ρ) = .ok (.bool (isInt d)) (.val d :: ρ) := fun ρ => by
    simp [mbind, mret, mvar, mop, mcall, mcons, mnil, mlift, mtup, mlst, mif, mand, mor, mnot, mandB, morB, mnotB, mtest, mtestB, truth, mbool, mchain, mneg, uNeg, sbind, sseq, sif, sret, sretN, sdrop, snext, sraise, sasg, tname, ttup, tcons, tnil, isIo, mitems, items, mrange, mpart, dInt, mslice, runDef, outs, ssub, ssub2, mineAt, Slot.mine, Slot.put, mixO, mixO2, spar, sparN, sparO, snew, mmut, mmut2, mcallF, mcallIo, mcallIo2, wipeD, restD, calmAt, fLen, fInt, fAbs, fTuple, fList, opAdd, opSub, cmpLt, cmpLe, cmpGt, cmpGe, cmpIs, cmpIsNot, isNone, e_is_integer]
  unfold F_is_within runDef b_is_within q_is_within_ q_is_within_0
  cases d <;> simp [sret, sbind, mand, mbind, h, isInt, isIn, mlift, mbool, mret, outs, mchain, mvar, cmpLe]
  rename_i i
  by_cases h1 : a ≤ i <;> simp [h1, outs, mbind, mvar, mret, mlift]
def isSz (d : D) (a b : Int) : Bool := match d with
  | .tuple ds => decide (a ≤ ds.length) && decide ((ds.length : Int) ≤ b)
  | _ => false
theorem e_is_sized (d : D) (a b : Int) : F_is_sized [.val d, .val (.int a), .val (.int b)] = .ok (.bool (isSz d a b)) [.val d, .val (.int a), .val (.int b)] := by
  unfold F_is_sized runDef b_is_sized q_is_sized_ q_is_sized_0
  have h : ∀ ρ, misi "tuple" (mvar 0) (.val d :: ρ) = .ok (.bool (match d with | .tuple _ => true | _ => false)) (.val d :: ρ) := fun ρ => by cases d <;> rfl
  cases d <;> simp [sret, sbind, mand, mbind, h, isSz, mlift, mbool, mret, outs, mchain, mvar, cmpLe, mcall, mcons, mnil, fLen]
  rename_i ds
  by_cases h1 : a ≤ (ds.length : Int) <;> simp [h1, outs, mbind, mvar, mret, mlift]
def prodI (xs : List Int) : Int := xs.foldl (· * ·) 1
theorem e_product_of (xs : List Int) (h : ∀ x ∈ xs, 2 ≤ x ∧ x ≤ 8) : F_product_of [.val (.tuple (xs.map .int))] = .ok (.int (prodI xs)) [.val (.tuple (xs.map .int))] := by
  have l := sfor_inv (m := mitems (mvar 0)) (f := tname 2) (b := q_product_of_1b) (ρ := [.val (.tuple (xs.map .int)), .val (.int 1), .un]) (ds := xs.map .int) (ρ0 := [.val (.tuple (xs.map .int)), .val (.int 1), .un])
    (fun j ρ => ∃ x, isIo (some x) = false ∧ ρ = [.val (.tuple (xs.map .int)), .val (.int (prodI (xs.take j))), x]) (by simp [mbind, mret, mvar, mop, mcall, mcons, mnil, mlift, mtup, mlst, mif, mand, mor, mnot, mandB, morB, mnotB, mtest, mtestB, truth, mbool, mchain, mneg, uNeg, sbind, sseq, sif, sret, sretN, sdrop, snext, sraise, sasg, tname, ttup, tcons, tnil, isIo, mitems, items, mrange, mpart, dInt, mslice, runDef, outs, ssub, ssub2, mineAt, Slot.mine, Slot.put, mixO, mixO2, spar, sparN, sparO, snew, mmut, mmut2, mcallF, mcallIo, mcallIo2, wipeD, restD, calmAt, fLen, fInt, fAbs, fTuple, fList, opAdd, opSub, cmpLt, cmpLe, cmpGt, cmpGe, cmpIs, cmpIsNot, isNone]) ⟨.un, rfl, rfl⟩ fun j d ρ hj ⟨x, hx, e⟩ => by
      subst e
      rw [List.getElem?_map] at hj
      obtain ⟨z, hz, rfl⟩ := Option.map_eq_some_iff.mp hj
      have hm := h z (List.mem_of_getElem? hz)
      have sm : smallMul (prodI (xs.take j)) z = true := by
        have : (-18446744073709551616 < z) ∧ z < 18446744073709551616 := by omega
        simp [smallMul, this.1, this.2]
      refine ⟨[.val (.tuple (xs.map .int)), .val (.int (prodI (xs.take j))), .val (.int z)], [.val (.tuple (xs.map .int)), .val (.int (prodI (xs.take j) * z)), .val (.int z)], ?_, ?_, .val (.int z), rfl, ?_⟩
      · cases x with
        | io d => cases hx
        | _ => rfl
      · simp [q_product_of_1b, q_product_of_1b0, mbind, mret, mvar, mop, mcall, mcons, mnil, mlift, mtup, mlst, mif, mand, mor, mnot, mandB, morB, mnotB, mtest, mtestB, truth, mbool, mchain, mneg, uNeg, sbind, sseq, sif, sret, sretN, sdrop, snext, sraise, sasg, tname, ttup, tcons, tnil, isIo, mitems, items, mrange, mpart, dInt, mslice, runDef, outs, ssub, ssub2, mineAt, Slot.mine, Slot.put, mixO, mixO2, spar, sparN, sparO, snew, mmut, mmut2, mcallF, mcallIo, mcallIo2, wipeD, restD, calmAt, fLen, fInt, fAbs, fTuple, fList, opAdd, opSub, cmpLt, cmpLe, cmpGt, cmpGe, cmpIs, cmpIsNot, isNone, opMul, sm]
      · have e : xs.take (j + 1) = xs.take j ++ [z] := by rw [List.take_add_one, hz]; rfl
        rw [e]
        simp [prodI, List.foldl_append]
  obtain ⟨ρ', e1, x, _, rfl⟩ := l
  unfold F_product_of runDef b_product_of q_product_of_
  have e0 : q_product_of_0 ([.val (.tuple (xs.map .int))] ++ List.replicate 2 .un) = .next [.val (.tuple (xs.map .int)), .val (.int 1), .un] := by simp [q_product_of_0, mbind, mret, mvar, mop, mcall, mcons, mnil, mlift, mtup, mlst, mif, mand, mor, mnot, mandB, morB, mnotB, mtest, mtestB, truth, mbool, mchain, mneg, uNeg, sbind, sseq, sif, sret, sretN, sdrop, snext, sraise, sasg, tname, ttup, tcons, tnil, isIo, mitems, items, mrange, mpart, dInt, mslice, runDef, outs, ssub, ssub2, mineAt, Slot.mine, Slot.put, mixO, mixO2, spar, sparN, sparO, snew, mmut, mmut2, mcallF, mcallIo, mcallIo2, wipeD, restD, calmAt, fLen, fInt, fAbs, fTuple, fList, opAdd, opSub, cmpLt, cmpLe, cmpGt, cmpGe, cmpIs, cmpIsNot, isNone]
  rw [sseq_next e0]
  have e2 : q_product_of_1 [.val (.tuple (xs.map .int)), .val (.int 1), .un] = .next _ := e1
  rw [sseq_next e2]
  simp [q_product_of_2, mbind, mret, mvar, mop, mcall, mcons, mnil, mlift, mtup, mlst, mif, mand, mor, mnot, mandB, morB, mnotB, mtest, mtestB, truth, mbool, mchain, mneg, uNeg, sbind, sseq, sif, sret, sretN, sdrop, snext, sraise, sasg, tname, ttup, tcons, tnil, isIo, mitems, items, mrange, mpart, dInt, mslice, runDef, outs, ssub, ssub2, mineAt, Slot.mine, Slot.put, mixO, mixO2, spar, sparN, sparO, snew, mmut, mmut2, mcallF, mcallIo, mcallIo2, wipeD, restD, calmAt, fLen, fInt, fAbs, fTuple, fList, opAdd, opSub, cmpLt, cmpLe, cmpGt, cmpGe, cmpIs, cmpIsNot, isNone, List.take_of_length_le]
theorem bools_bool (bs : List Bool) : bools (bs.map .bool) = some bs := by
  induction bs with
  | nil => rfl
  | cons b bs ih => simp [bools, ih]
theorem bools_map' {α : Type} (xs : List α) (g : α → Bool) : bools (xs.map fun x => .bool (g x)) = some (xs.map g) := by
  rw [show (xs.map fun x => PyData.bool (g x)) = (xs.map g).map .bool by rw [List.map_map]; rfl, bools_bool]
def isSpace (d : D) : Bool := match d with
  | .tuple ds => (decide (1 ≤ ds.length) && decide (ds.length ≤ 4)) && (ds.all (isIn · 2 8) && decide (prodI (ds.map toI) ≤ 64))
  | _ => false
theorem fAll_map {α : Type} (xs : List α) (g : α → Bool) : fAll [.list (xs.map fun x => .bool (g x))] = some (.bool (xs.all g)) := by
  show (bools (xs.map fun x => .bool (g x))).map (fun bs => PyData.bool (bs.all id)) = _
  rw [bools_map', Option.map_some, List.all_map]
  rfl
theorem isIn_ints {ds : List D} {a b : Int} (h : ds.all (isIn · a b) = true) : ds = (ds.map toI).map .int ∧ ∀ x ∈ ds.map toI, a ≤ x ∧ x ≤ b := by
  induction ds with
  | nil => exact ⟨rfl, fun x hx => by cases hx⟩
  | cons d ds ih =>
    rw [List.all_cons, Bool.and_eq_true] at h
    obtain ⟨h1, h2⟩ := ih h.2
    cases d with
    | int i =>
      have hi := h.1
      simp only [isIn, Bool.and_eq_true, decide_eq_true_eq] at hi
      refine ⟨by rw [List.map_cons, List.map_cons, ← h1]; rfl, fun x hx => ?_⟩
      rw [List.map_cons] at hx
      rcases List.mem_cons.mp hx with rfl | hx
      · exact hi
      · exact h2 x hx
    | _ => exact absurd h.1 (by simp [isIn])
theorem k_is_space (ds : List D) : k_is_space_0 [.val (.tuple ds), .un] = .ok (.list (ds.map fun d => .bool (isIn d 2 8))) [.val (.tuple ds), .un] :=
  mcomp_map (fun d => .bool (isIn d 2 8)) (fun d => [.val (.tuple ds), .val d]) (ρ0 := [.val (.tuple ds), .un]) (ds := ds) (by simp [mbind, mret, mvar, mop, mcall, mcons, mnil, mlift, mtup, mlst, mif, mand, mor, mnot, mandB, morB, mnotB, mtest, mtestB, truth, mbool, mchain, mneg, uNeg, sbind, sseq, sif, sret, sretN, sdrop, snext, sraise, sasg, tname, ttup, tcons, tnil, isIo, mitems, items, mrange, mpart, dInt, mslice, runDef, outs, ssub, ssub2, mineAt, Slot.mine, Slot.put, mixO, mixO2, spar, sparN, sparO, snew, mmut, mmut2, mcallF, mcallIo, mcallIo2, wipeD, restD, calmAt, fLen, fInt, fAbs, fTuple, fList, opAdd, opSub, cmpLt, cmpLe, cmpGt, cmpGe, cmpIs, cmpIsNot, isNone]) (by simp [mbind, mret, mvar, mop, mcall, mcons, mnil, mlift, mtup, mlst, mif, mand, mor, mnot, mandB, morB, mnotB, mtest, mtestB, truth, mbool, mchain, mneg, uNeg, sbind, sseq, sif, sret, sretN, sdrop, snext, sraise, sasg, tname, ttup, tcons, tnil, isIo, mitems, items, mrange, mpart, dInt, mslice, runDef, outs, ssub, ssub2, mineAt, Slot.mine, Slot.put, mixO, mixO2, spar, sparN, sparO, snew, mmut, mmut2, mcallF, mcallIo, mcallIo2, wipeD, restD, calmAt, fLen, fInt, fAbs, fTuple, fList, opAdd, opSub, cmpLt, cmpLe, cmpGt, cmpGe, cmpIs, cmpIsNot, isNone]) (fun d hd => ⟨by simp [mbind, mret, mvar, mop, mcall, mcons, mnil, mlift, mtup, mlst, mif, mand, mor, mnot, mandB, morB, mnotB, mtest, mtestB, truth, mbool, mchain, mneg, uNeg, sbind, sseq, sif, sret, sretN, sdrop, snext, sraise, sasg, tname, ttup, tcons, tnil, isIo, mitems, items, mrange, mpart, dInt, mslice, runDef, outs, ssub, ssub2, mineAt, Slot.mine, Slot.put, mixO, mixO2, spar, sparN, sparO, snew, mmut, mmut2, mcallF, mcallIo, mcallIo2, wipeD, restD, calmAt, fLen, fInt, fAbs, fTuple, fList, opAdd, opSub, cmpLt, cmpLe, cmpGt, cmpGe, cmpIs, cmpIsNot, isNone], by simp [mbind, mret, mvar, mop, mcall, mcons, mnil, mlift, mtup, mlst, mif, mand, mor, mnot, mandB, morB, mnotB, mtest, mtestB, truth, mbool, mchain, mneg, uNeg, sbind, sseq, sif, sret, sretN, sdrop, snext, sraise, sasg, tname, ttup, tcons, tnil, isIo, mitems, items, mrange, mpart, dInt, mslice, runDef, outs, ssub, ssub2, mineAt, Slot.mine, Slot.put, mixO, mixO2, spar, sparN, sparO, snew, mmut, mmut2, mcallF, mcallIo, mcallIo2, wipeD, restD, calmAt, fLen, fInt, fAbs, fTuple, fList, opAdd, opSub, cmpLt, cmpLe, cmpGt, cmpGe, cmpIs, cmpIsNot, isNone, e_is_within], by simp [mbind, mret, mvar, mop, mcall, mcons, mnil, mlift, mtup, mlst, mif, mand, mor, mnot, mandB, morB, mnotB, mtest, mtestB, truth, mbool, mchain, mneg, uNeg, sbind, sseq, sif, sret, sretN, sdrop, snext, sraise, sasg, tname, ttup, tcons, tnil, isIo, mitems, items, mrange, mpart, dInt, mslice, runDef, outs, ssub, ssub2, mineAt, Slot.mine, Slot.put, mixO, mixO2, spar, sparN, sparO, snew, mmut, mmut2, mcallF, mcallIo, mcallIo2, wipeD, restD, calmAt, fLen, fInt, fAbs, fTuple, fList, opAdd, opSub, cmpLt, cmpLe, cmpGt, cmpGe, cmpIs, cmpIsNot, isNone]⟩)
theorem e_is_space (d : D) : F_is_space [.val d] = .ok (.bool (isSpace d)) [.val d] := by
  unfold F_is_space runDef b_is_space q_is_space_ q_is_space_0 q_is_space_1
  cases d with
  | tuple ds =>
    have hs : isSz (.tuple ds) 1 4 = (decide (1 ≤ ds.length) && decide (ds.length ≤ 4)) := by
      have a1 : decide ((1 : Int) ≤ ds.length) = decide (1 ≤ ds.length) := by congr 1; apply propext; omega
      have a2 : decide ((ds.length : Int) ≤ 4) = decide (ds.length ≤ 4) := by congr 1; apply propext; omega
      simp only [isSz, a1, a2]
    have hi : isSpace (.tuple ds) = ((decide (1 ≤ ds.length) && decide (ds.length ≤ 4)) && (ds.all (isIn · 2 8) && decide (prodI (ds.map toI) ≤ 64))) := rfl
    rw [hi]
    generalize hB : (decide (1 ≤ ds.length) && decide (ds.length ≤ 4)) = B at hs ⊢
    cases B with
    | false => simp [mbind, mret, mvar, mop, mcall, mcons, mnil, mlift, mtup, mlst, mif, mand, mor, mnot, mandB, morB, mnotB, mtest, mtestB, truth, mbool, mchain, mneg, uNeg, sbind, sseq, sif, sret, sretN, sdrop, snext, sraise, sasg, tname, ttup, tcons, tnil, isIo, mitems, items, mrange, mpart, dInt, mslice, runDef, outs, ssub, ssub2, mineAt, Slot.mine, Slot.put, mixO, mixO2, spar, sparN, sparO, snew, mmut, mmut2, mcallF, mcallIo, mcallIo2, wipeD, restD, calmAt, fLen, fInt, fAbs, fTuple, fList, opAdd, opSub, cmpLt, cmpLe, cmpGt, cmpGe, cmpIs, cmpIsNot, isNone, e_is_sized, hs]
    | true =>
      cases hA : ds.all (isIn · 2 8) with
      | false => simp [mbind, mret, mvar, mop, mcall, mcons, mnil, mlift, mtup, mlst, mif, mand, mor, mnot, mandB, morB, mnotB, mtest, mtestB, truth, mbool, mchain, mneg, uNeg, sbind, sseq, sif, sret, sretN, sdrop, snext, sraise, sasg, tname, ttup, tcons, tnil, isIo, mitems, items, mrange, mpart, dInt, mslice, runDef, outs, ssub, ssub2, mineAt, Slot.mine, Slot.put, mixO, mixO2, spar, sparN, sparO, snew, mmut, mmut2, mcallF, mcallIo, mcallIo2, wipeD, restD, calmAt, fLen, fInt, fAbs, fTuple, fList, opAdd, opSub, cmpLt, cmpLe, cmpGt, cmpGe, cmpIs, cmpIsNot, isNone, e_is_sized, hs, k_is_space, fAll_map, hA]
      | true =>
        obtain ⟨e, hb⟩ := isIn_ints hA
        have hp := e_product_of _ hb
        rw [← e] at hp
        simp [mbind, mret, mvar, mop, mcall, mcons, mnil, mlift, mtup, mlst, mif, mand, mor, mnot, mandB, morB, mnotB, mtest, mtestB, truth, mbool, mchain, mneg, uNeg, sbind, sseq, sif, sret, sretN, sdrop, snext, sraise, sasg, tname, ttup, tcons, tnil, isIo, mitems, items, mrange, mpart, dInt, mslice, runDef, outs, ssub, ssub2, mineAt, Slot.mine, Slot.put, mixO, mixO2, spar, sparN, sparO, snew, mmut, mmut2, mcallF, mcallIo, mcallIo2, wipeD, restD, calmAt, fLen, fInt, fAbs, fTuple, fList, opAdd, opSub, cmpLt, cmpLe, cmpGt, cmpGe, cmpIs, cmpIsNot, isNone, e_is_sized, hs, k_is_space, fAll_map, hA, hp]
  | _ => simp [mbind, mret, mvar, mop, mcall, mcons, mnil, mlift, mtup, mlst, mif, mand, mor, mnot, mandB, morB, mnotB, mtest, mtestB, truth, mbool, mchain, mneg, uNeg, sbind, sseq, sif, sret, sretN, sdrop, snext, sraise, sasg, tname, ttup, tcons, tnil, isIo, mitems, items, mrange, mpart, dInt, mslice, runDef, outs, ssub, ssub2, mineAt, Slot.mine, Slot.put, mixO, mixO2, spar, sparN, sparO, snew, mmut, mmut2, mcallF, mcallIo, mcallIo2, wipeD, restD, calmAt, fLen, fInt, fAbs, fTuple, fList, opAdd, opSub, cmpLt, cmpLe, cmpGt, cmpGe, cmpIs, cmpIsNot, isNone, e_is_sized, isSz, isSpace]
end Lw
namespace Lw
open PySem PySem.Spec PyProof.Rows L2 RZ LamX PL
open PySem.W (Frag)
structure SpOk (s : List Int) : Prop where
  one : 1 ≤ s.length
  four : s.length ≤ 4
  all : ∀ x ∈ s, 2 ≤ x ∧ x ≤ 8
  prod : prodI s ≤ 64
abbrev tupI (p : List Int) : D := .tuple (p.map .int)
theorem map_toI (s : List Int) : (s.map PyData.int).map toI = s := by
  rw [List.map_map]
  exact (List.map_congr_left fun _ _ => rfl).trans (List.map_id s)
theorem isSpace_ok {s : List Int} (h : SpOk s) : isSpace (tupI s) = true := by
  have h1 := h.one
  have h2 := h.four
  have h3 : (s.map PyData.int).all (isIn · 2 8) = true := by
    rw [List.all_map, List.all_eq_true]
    intro x hx
    have := h.all x hx
    simp [isIn, this.1, this.2]
  show (_ && (_ && decide (prodI ((s.map PyData.int).map toI) ≤ 64))) = true
  rw [map_toI, h3]
  simp [h1, h2, h.prod]
theorem e_check_space (d : D) : F_check_space [.val d] = if isSpace d = true then .ok .none [.val d] else .err "NoSpace" [.val d] := by
  unfold F_check_space runDef b_check_space q_check_space_ q_check_space_0
  cases h : isSpace d <;> simp [mbind, mret, mvar, mop, mcall, mcons, mnil, mlift, mtup, mlst, mif, mand, mor, mnot, mandB, morB, mnotB, mtest, mtestB, truth, mbool, mchain, mneg, uNeg, sbind, sseq, sif, sret, sretN, sdrop, snext, sraise, sasg, tname, ttup, tcons, tnil, isIo, mitems, items, mrange, mpart, dInt, mslice, runDef, outs, ssub, ssub2, mineAt, Slot.mine, Slot.put, mixO, mixO2, spar, sparN, sparO, snew, mmut, mmut2, mcallF, mcallIo, mcallIo2, wipeD, restD, calmAt, fLen, fInt, fAbs, fTuple, fList, opAdd, opSub, cmpLt, cmpLe, cmpGt, cmpGe, cmpIs, cmpIsNot, isNone, e_is_space, h]
theorem check_ok {s : List Int} (h : SpOk s) : F_check_space [.val (tupI s)] = .ok .none [.val (tupI s)] := by rw [e_check_space, if_pos (isSpace_ok h)]
theorem check_bad {d : D} (h : isSpace d = false) : F_check_space [.val d] = .err "NoSpace" [.val d] := by rw [e_check_space, if_neg (by simp [h])]
/-! ### packets -/
def rangeI (n : Nat) : List Int := (List.range n).map fun (i : Nat) => (i : Int)
theorem rangeD_eq (n : Nat) : rangeD 0 n = (rangeI n).map .int := by
  unfold rangeD rangeI
  rw [List.map_map]
  exact List.map_congr_left fun i _ => by simp
theorem mem_rangeI {n : Nat} {x : Int} : x ∈ rangeI n ↔ 0 ≤ x ∧ x < n := by
  unfold rangeI
  rw [List.mem_map]
  constructor
  · rintro ⟨i, hi, rfl⟩
    rw [List.mem_range] at hi
    omega
  · rintro ⟨h1, h2⟩
    exact ⟨x.toNat, by rw [List.mem_range]; omega, by omega⟩
def grow1 (found : List (List Int)) (z : Int) : List (List Int) := found.flatMap fun p => (rangeI z.toNat).map fun v => p ++ [v]
def pk (s : List Int) : List (List Int) := s.foldl grow1 [[]]
theorem pk_snoc (s : List Int) (z : Int) : pk (s ++ [z]) = grow1 (pk s) z := by simp [pk, List.foldl_append]
theorem grow1_len (found : List (List Int)) (z : Int) : (grow1 found z).length = found.length * z.toNat := by
  unfold grow1
  induction found with
  | nil => simp
  | cons p r ih =>
    rw [List.flatMap_cons, List.length_append, ih, List.length_map]
    unfold rangeI
    rw [List.length_map, List.length_range, List.length_cons, Nat.add_mul]
    omega
theorem snoc_ind {α : Type} {P : List α → Prop} (h0 : P []) (h1 : ∀ t z, P t → P (t ++ [z])) (s : List α) : P s := by
  have : ∀ r : List α, P r.reverse := fun r => by
    induction r with
    | nil => exact h0
    | cons z t ih => rw [List.reverse_cons]; exact h1 _ _ ih
  have q := this s.reverse
  rwa [List.reverse_reverse] at q
theorem pk_len : ∀ (n : Nat) (s : List Int), s.length ≤ n → (∀ x ∈ s, 2 ≤ x ∧ x ≤ 8) → (pk s).length ≤ 8 ^ n
  | n, s, hl, h => by
    rcases List.eq_nil_or_concat s with rfl | ⟨t, z, rfl⟩
    · exact Nat.one_le_pow _ _ (by decide)
    · rw [List.concat_eq_append] at hl h ⊢
      rw [List.length_append] at hl
      have hl : t.length + 1 ≤ n := hl
      match n, hl with
      | n + 1, hl =>
        have ih := pk_len n t (by omega) fun x hx => h x (by simp [hx])
        have hz := h z (by simp)
        rw [pk_snoc, grow1_len, Nat.pow_succ]
        exact Nat.mul_le_mul ih (by omega)
theorem mem_pk (s : List Int) : ∀ p ∈ pk s, p.length = s.length ∧ ∀ (i : Nat) (v z : Int), p[i]? = some v → s[i]? = some z → 0 ≤ v ∧ v < z := by
  refine snoc_ind (P := fun s => ∀ p ∈ pk s, p.length = s.length ∧ ∀ (i : Nat) (v z : Int), p[i]? = some v → s[i]? = some z → 0 ≤ v ∧ v < z) ?_ ?_ s
  · intro p hp
    simp [pk] at hp
    subst hp
    exact ⟨rfl, fun i v z h => by simp at h⟩
  · intro t z ih p hp
    rw [pk_snoc] at hp
    unfold grow1 at hp
    obtain ⟨q, hq, hp⟩ := List.mem_flatMap.mp hp
    obtain ⟨v, hv, rfl⟩ := List.mem_map.mp hp
    obtain ⟨h1, h2⟩ := ih q hq
    rw [mem_rangeI] at hv
    refine ⟨by simp [h1], fun i a b ha hb => ?_⟩
    by_cases hi : i < q.length
    · rw [List.getElem?_append_left hi] at ha
      rw [List.getElem?_append_left (by omega)] at hb
      exact h2 i a b ha hb
    · rw [List.getElem?_append_right (by omega)] at ha
      rw [List.getElem?_append_right (by omega)] at hb
      have e : i - q.length = 0 := by
        have := (List.getElem?_eq_some_iff.mp ha).1
        simp at this
        omega
      rw [e] at ha
      rw [← h1, e] at hb
      simp at ha hb
      subst ha; subst hb
      omega
theorem range1_ok {z : Int} (h0 : 0 ≤ z) (h1 : z ≤ 16777216) : range1 [.int z] = some ((rangeI z.toNat).map .int) := by
  show (if z ≤ 16777216 ∧ -(2 ^ 62) ≤ z then some (rangeD 0 z.toNat) else none) = _
  rw [if_pos ⟨h1, by omega⟩, rangeD_eq]
theorem opAdd_tup {xs ys : List D} (h : xs.length + ys.length ≤ 16777216) : opAdd (.tuple xs) (.tuple ys) = some (.tuple (xs ++ ys)) := by
  show (if xs.length + ys.length ≤ sizeLine then some (PyData.tuple (xs ++ ys)) else none) = _
  rw [if_pos (by rw [sizeLine_eq]; omega)]
def snocD (d v : D) : D := match d with
  | .tuple ds => .tuple (ds ++ [v])
  | _ => .none
theorem k_raw_packets (s : List Int) (f : List (List Int)) (z : Int) (hz : 0 ≤ z ∧ z ≤ 8) (hl : f.length ≤ 4096) (hf : ∀ p ∈ f, p.length ≤ 100) :
    k_raw_packets_0 [.val (tupI s), .val (.list (f.map tupI)), .val (.int z), .un, .un] = .ok (.list ((grow1 f z).map tupI)) [.val (tupI s), .val (.list (f.map tupI)), .val (.int z), .un, .un] := by
  have e : (grow1 f z).map tupI = (f.map tupI).flatMap fun d => ((rangeI z.toNat).map PyData.int).map (snocD d) := by
    unfold grow1
    rw [List.map_flatMap, List.flatMap_map]
    congr 1
    funext p
    rw [List.map_map, List.map_map]
    refine List.map_congr_left fun v _ => ?_
    simp [tupI, snocD]
  have hlen : ((grow1 f z).map tupI).length ≤ sizeLine := by
    rw [List.length_map, grow1_len, sizeLine_eq]
    have : z.toNat ≤ 8 := by omega
    have := Nat.mul_le_mul hl this
    omega
  rw [e] at hlen ⊢
  refine (mcompB_pure (fun _ => (rangeI z.toNat).map .int) snocD (fun d => [.val (tupI s), .val (.list (f.map tupI)), .val (.int z), .val d, .un]) (fun d v => [.val (tupI s), .val (.list (f.map tupI)), .val (.int z), .val d, .val v]) (ρ0 := [.val (tupI s), .val (.list (f.map tupI)), .val (.int z), .un, .un]) (ds := f.map tupI) (by simp [mbind, mret, mvar, mop, mcall, mcons, mnil, mlift, mtup, mlst, mif, mand, mor, mnot, mandB, morB, mnotB, mtest, mtestB, truth, mbool, mchain, mneg, uNeg, sbind, sseq, sif, sret, sretN, sdrop, snext, sraise, sasg, tname, ttup, tcons, tnil, isIo, mitems, items, mrange, mpart, dInt, mslice, runDef, outs, ssub, ssub2, mineAt, Slot.mine, Slot.put, mixO, mixO2, spar, sparN, sparO, snew, mmut, mmut2, mcallF, mcallIo, mcallIo2, wipeD, restD, calmAt, fLen, fInt, fAbs, fTuple, fList, opAdd, opSub, cmpLt, cmpLe, cmpGt, cmpGe, cmpIs, cmpIsNot, isNone]) rfl hlen ?_).trans ?_
  · intro d hd
    obtain ⟨p, hp, rfl⟩ := List.mem_map.mp hd
    have ha : ∀ v : D, opAdd (tupI p) (.tuple [v]) = some (snocD (tupI p) v) := fun v => opAdd_tup (by have := hf p hp; simp; omega)
    refine ⟨by simp [mbind, mret, mvar, mop, mcall, mcons, mnil, mlift, mtup, mlst, mif, mand, mor, mnot, mandB, morB, mnotB, mtest, mtestB, truth, mbool, mchain, mneg, uNeg, sbind, sseq, sif, sret, sretN, sdrop, snext, sraise, sasg, tname, ttup, tcons, tnil, isIo, mitems, items, mrange, mpart, dInt, mslice, runDef, outs, ssub, ssub2, mineAt, Slot.mine, Slot.put, mixO, mixO2, spar, sparN, sparO, snew, mmut, mmut2, mcallF, mcallIo, mcallIo2, wipeD, restD, calmAt, fLen, fInt, fAbs, fTuple, fList, opAdd, opSub, cmpLt, cmpLe, cmpGt, cmpGe, cmpIs, cmpIsNot, isNone], rfl, by simp [mbind, mret, mvar, mop, mcall, mcons, mnil, mlift, mtup, mlst, mif, mand, mor, mnot, mandB, morB, mnotB, mtest, mtestB, truth, mbool, mchain, mneg, uNeg, sbind, sseq, sif, sret, sretN, sdrop, snext, sraise, sasg, tname, ttup, tcons, tnil, isIo, mitems, items, mrange, mpart, dInt, mslice, runDef, outs, ssub, ssub2, mineAt, Slot.mine, Slot.put, mixO, mixO2, spar, sparN, sparO, snew, mmut, mmut2, mcallF, mcallIo, mcallIo2, wipeD, restD, calmAt, fLen, fInt, fAbs, fTuple, fList, opAdd, opSub, cmpLt, cmpLe, cmpGt, cmpGe, cmpIs, cmpIsNot, isNone, range1_ok hz.1 (show z ≤ 16777216 by omega)], rfl, fun v hv => ⟨rfl, rfl, ?_, rfl⟩, rfl⟩
    simp only [mop, mbind, mvar, mtup, mcons, mnil, mret, mlift, List.getElem?_cons_succ, List.getElem?_cons_zero, List.length_cons, List.length_nil]
    rw [if_pos (by decide)]
    simp only [ha]
  · rfl
theorem e_raw_packets {s : List Int} (h : SpOk s) : F_raw_packets [.val (tupI s)] = .ok (.list ((pk s).map tupI)) [.val (tupI s)] := by
  have e0 : q_raw_packets_0 ([.val (tupI s)] ++ List.replicate 4 .un) = .next [.val (tupI s), .val (.list [.tuple []]), .un, .un, .un] := by simp [q_raw_packets_0, mbind, mret, mvar, mop, mcall, mcons, mnil, mlift, mtup, mlst, mif, mand, mor, mnot, mandB, morB, mnotB, mtest, mtestB, truth, mbool, mchain, mneg, uNeg, sbind, sseq, sif, sret, sretN, sdrop, snext, sraise, sasg, tname, ttup, tcons, tnil, isIo, mitems, items, mrange, mpart, dInt, mslice, runDef, outs, ssub, ssub2, mineAt, Slot.mine, Slot.put, mixO, mixO2, spar, sparN, sparO, snew, mmut, mmut2, mcallF, mcallIo, mcallIo2, wipeD, restD, calmAt, fLen, fInt, fAbs, fTuple, fList, opAdd, opSub, cmpLt, cmpLe, cmpGt, cmpGe, cmpIs, cmpIsNot, isNone]
  obtain ⟨ρ', e1, x, _, rfl⟩ := sfor_inv (m := mitems (mvar 0)) (f := tname 2) (b := q_raw_packets_1b) (ρ := [.val (tupI s), .val (.list [.tuple []]), .un, .un, .un]) (ds := s.map .int) (ρ0 := [.val (tupI s), .val (.list [.tuple []]), .un, .un, .un])
    (fun j ρ => ∃ x, (x = .un ∨ ∃ d, x = .val d) ∧ ρ = [.val (tupI s), .val (.list ((pk (s.take j)).map tupI)), x, .un, .un]) (by simp [mbind, mret, mvar, mop, mcall, mcons, mnil, mlift, mtup, mlst, mif, mand, mor, mnot, mandB, morB, mnotB, mtest, mtestB, truth, mbool, mchain, mneg, uNeg, sbind, sseq, sif, sret, sretN, sdrop, snext, sraise, sasg, tname, ttup, tcons, tnil, isIo, mitems, items, mrange, mpart, dInt, mslice, runDef, outs, ssub, ssub2, mineAt, Slot.mine, Slot.put, mixO, mixO2, spar, sparN, sparO, snew, mmut, mmut2, mcallF, mcallIo, mcallIo2, wipeD, restD, calmAt, fLen, fInt, fAbs, fTuple, fList, opAdd, opSub, cmpLt, cmpLe, cmpGt, cmpGe, cmpIs, cmpIsNot, isNone, tupI]) ⟨.un, .inl rfl, rfl⟩ fun j d ρ hj ⟨x, hx, e⟩ => by
      subst e
      rw [List.getElem?_map] at hj
      obtain ⟨z, hz, rfl⟩ := Option.map_eq_some_iff.mp hj
      have hm := h.all z (List.mem_of_getElem? hz)
      have ht : ∀ x ∈ s.take j, 2 ≤ x ∧ x ≤ 8 := fun x hx => h.all x (List.mem_of_mem_take hx)
      have hl : (pk (s.take j)).length ≤ 4096 := pk_len 4 (s.take j) (by have := h.four; simp; omega) ht
      have hf : ∀ p ∈ pk (s.take j), p.length ≤ 100 := fun p hp => by
        have := (mem_pk _ p hp).1
        have := h.four
        simp at *
        omega
      refine ⟨[.val (tupI s), .val (.list ((pk (s.take j)).map tupI)), .val (.int z), .un, .un], [.val (tupI s), .val (.list ((grow1 (pk (s.take j)) z).map tupI)), .val (.int z), .un, .un], ?_, ?_, .val (.int z), .inr ⟨_, rfl⟩, ?_⟩
      · rcases hx with rfl | ⟨d, rfl⟩ <;> rfl
      · simp [q_raw_packets_1b, q_raw_packets_1b0, sasg, sbind, k_raw_packets s _ z (by omega) hl hf, tname, isIo]
      · have e : s.take (j + 1) = s.take j ++ [z] := by rw [List.take_add_one, hz]; rfl
        rw [e, pk_snoc]
  unfold F_raw_packets runDef b_raw_packets q_raw_packets_
  rw [sseq_next e0]
  have e2 : q_raw_packets_1 [.val (tupI s), .val (.list [.tuple []]), .un, .un, .un] = .next _ := e1
  rw [sseq_next e2]
  simp [q_raw_packets_2, mbind, mret, mvar, mop, mcall, mcons, mnil, mlift, mtup, mlst, mif, mand, mor, mnot, mandB, morB, mnotB, mtest, mtestB, truth, mbool, mchain, mneg, uNeg, sbind, sseq, sif, sret, sretN, sdrop, snext, sraise, sasg, tname, ttup, tcons, tnil, isIo, mitems, items, mrange, mpart, dInt, mslice, runDef, outs, ssub, ssub2, mineAt, Slot.mine, Slot.put, mixO, mixO2, spar, sparN, sparO, snew, mmut, mmut2, mcallF, mcallIo, mcallIo2, wipeD, restD, calmAt, fLen, fInt, fAbs, fTuple, fList, opAdd, opSub, cmpLt, cmpLe, cmpGt, cmpGe, cmpIs, cmpIsNot, isNone]
end Lw
namespace Lw
open PySem PySem.Spec PyProof.Rows L2 RZ LamX PL
open PySem.W (Frag)
theorem e_packets_of (d : D) (s : List Int) (hs : isSpace d = true → d = tupI s ∧ SpOk s) : F_packets_of [.val d] = if isSpace d = true then .ok (.tuple ((pk s).map tupI)) [.val d] else .err "NoSpace" [.val d] := by
  unfold F_packets_of runDef b_packets_of q_packets_of_ q_packets_of_0 q_packets_of_1
  cases h : isSpace d with
  | false => simp [mbind, mret, mvar, mop, mcall, mcons, mnil, mlift, mtup, mlst, mif, mand, mor, mnot, mandB, morB, mnotB, mtest, mtestB, truth, mbool, mchain, mneg, uNeg, sbind, sseq, sif, sret, sretN, sdrop, snext, sraise, sasg, tname, ttup, tcons, tnil, isIo, mitems, items, mrange, mpart, dInt, mslice, runDef, outs, ssub, ssub2, mineAt, Slot.mine, Slot.put, mixO, mixO2, spar, sparN, sparO, snew, mmut, mmut2, mcallF, mcallIo, mcallIo2, wipeD, restD, calmAt, fLen, fInt, fAbs, fTuple, fList, opAdd, opSub, cmpLt, cmpLe, cmpGt, cmpGe, cmpIs, cmpIsNot, isNone, check_bad h]
  | true =>
    obtain ⟨rfl, ok⟩ := hs h
    simp [mbind, mret, mvar, mop, mcall, mcons, mnil, mlift, mtup, mlst, mif, mand, mor, mnot, mandB, morB, mnotB, mtest, mtestB, truth, mbool, mchain, mneg, uNeg, sbind, sseq, sif, sret, sretN, sdrop, snext, sraise, sasg, tname, ttup, tcons, tnil, isIo, mitems, items, mrange, mpart, dInt, mslice, runDef, outs, ssub, ssub2, mineAt, Slot.mine, Slot.put, mixO, mixO2, spar, sparN, sparO, snew, mmut, mmut2, mcallF, mcallIo, mcallIo2, wipeD, restD, calmAt, fLen, fInt, fAbs, fTuple, fList, opAdd, opSub, cmpLt, cmpLe, cmpGt, cmpGe, cmpIs, cmpIsNot, isNone, check_ok ok, e_raw_packets ok]
/-- thing is a packet of the space s -/
def isPkL : List D → List Int → Bool
  | [], [] => true
  | d :: ds, z :: s => isIn d 0 (z - 1) && isPkL ds s
  | _, _ => false
def isPk (s : List Int) (d : D) : Bool := match d with
  | .tuple ds => isPkL ds s
  | _ => false
theorem isPkL_len : ∀ {ds : List D} {s : List Int}, ds.length ≠ s.length → isPkL ds s = false
  | [], [], h => absurd rfl h
  | [], _ :: _, _ => rfl
  | _ :: _, [], _ => rfl
  | d :: ds, z :: s, h => by
    unfold isPkL
    rw [isPkL_len (ds := ds) (s := s) (fun e => h (by simp [e])), Bool.and_false]
/-- what a comprehension over zip(thing, space) tells -/
theorem zip_all (g : D → Int → Bool) : ∀ (ds : List D) (s : List Int), ((zipD ds (s.map .int)).map fun p => match p with | .tuple [d, .int z] => PyData.bool (g d z) | _ => .none) = (ds.zip s).map fun p => .bool (g p.1 p.2)
  | [], [] => rfl
  | [], _ :: _ => rfl
  | _ :: _, [] => rfl
  | d :: ds, z :: s => by
    have ih := zip_all g ds s
    unfold zipD at ih ⊢
    rw [List.map_cons, List.zipWith_cons_cons, List.map_cons, ih]
    rfl
theorem isPkL_all : ∀ {ds : List D} {s : List Int}, ds.length = s.length → ((ds.zip s).all fun p => isIn p.1 0 (p.2 - 1)) = isPkL ds s
  | [], [], _ => rfl
  | [], _ :: _, h => by cases h
  | _ :: _, [], h => by cases h
  | d :: ds, z :: s, h => by
    rw [List.zip_cons_cons, List.all_cons, isPkL_all (by simpa using h)]
    rfl
theorem mem_zipD {ds : List D} {s : List Int} {p : D} (h : p ∈ zipD ds (s.map .int)) : ∃ d z, p = .tuple [d, .int z] := by
  unfold zipD at h
  obtain ⟨i, hi⟩ := List.mem_iff_getElem?.mp h
  rw [List.getElem?_zipWith] at hi
  split at hi
  · rename_i a b h1 h2
    rw [List.getElem?_map] at h2
    obtain ⟨z, _, rfl⟩ := Option.map_eq_some_iff.mp h2
    exact ⟨a, z, (Option.some.inj hi).symm⟩
  · cases hi
theorem k_raw_is_packet (s : List Int) (ds : List D) : k_raw_is_packet_0 [.val (tupI s), .val (.tuple ds), .un, .un] = .ok (.list ((ds.zip s).map fun p => .bool (isIn p.1 0 (p.2 - 1)))) [.val (tupI s), .val (.tuple ds), .un, .un] := by
  rw [← zip_all (fun d z => isIn d 0 (z - 1))]
  refine (mcomp_map _ (fun p => match p with | .tuple [d, z] => [.val (tupI s), .val (.tuple ds), .val d, .val z] | _ => []) (ρ0 := [.val (tupI s), .val (.tuple ds), .un, .un]) (ds := zipD ds (s.map .int)) (by simp [mbind, mret, mvar, mop, mcall, mcons, mnil, mlift, mtup, mlst, mif, mand, mor, mnot, mandB, morB, mnotB, mtest, mtestB, truth, mbool, mchain, mneg, uNeg, sbind, sseq, sif, sret, sretN, sdrop, snext, sraise, sasg, tname, ttup, tcons, tnil, isIo, mitems, items, mrange, mpart, dInt, mslice, runDef, outs, ssub, ssub2, mineAt, Slot.mine, Slot.put, mixO, mixO2, spar, sparN, sparO, snew, mmut, mmut2, mcallF, mcallIo, mcallIo2, wipeD, restD, calmAt, fLen, fInt, fAbs, fTuple, fList, opAdd, opSub, cmpLt, cmpLe, cmpGt, cmpGe, cmpIs, cmpIsNot, isNone, zip2, tupI]) rfl ?_).trans rfl
  intro p hp
  obtain ⟨d, z, rfl⟩ := mem_zipD hp
  exact ⟨rfl, by simp [mbind, mret, mvar, mop, mcall, mcons, mnil, mlift, mtup, mlst, mif, mand, mor, mnot, mandB, morB, mnotB, mtest, mtestB, truth, mbool, mchain, mneg, uNeg, sbind, sseq, sif, sret, sretN, sdrop, snext, sraise, sasg, tname, ttup, tcons, tnil, isIo, mitems, items, mrange, mpart, dInt, mslice, runDef, outs, ssub, ssub2, mineAt, Slot.mine, Slot.put, mixO, mixO2, spar, sparN, sparO, snew, mmut, mmut2, mcallF, mcallIo, mcallIo2, wipeD, restD, calmAt, fLen, fInt, fAbs, fTuple, fList, opAdd, opSub, cmpLt, cmpLe, cmpGt, cmpGe, cmpIs, cmpIsNot, isNone, e_is_within], rfl⟩
theorem e_raw_is_packet (s : List Int) (d : D) : F_raw_is_packet [.val (tupI s), .val d] = .ok (.bool (isPk s d)) [.val (tupI s), .val d] := by
  unfold F_raw_is_packet runDef b_raw_is_packet q_raw_is_packet_ q_raw_is_packet_0 q_raw_is_packet_1
  have hl : ∀ ρ, mcall fLen (mcons (mvar 0) mnil) (.val (tupI s) :: ρ) = .ok (.int s.length) (.val (tupI s) :: ρ) := fun ρ => by simp [mbind, mret, mvar, mop, mcall, mcons, mnil, mlift, mtup, mlst, mif, mand, mor, mnot, mandB, morB, mnotB, mtest, mtestB, truth, mbool, mchain, mneg, uNeg, sbind, sseq, sif, sret, sretN, sdrop, snext, sraise, sasg, tname, ttup, tcons, tnil, isIo, mitems, items, mrange, mpart, dInt, mslice, runDef, outs, ssub, ssub2, mineAt, Slot.mine, Slot.put, mixO, mixO2, spar, sparN, sparO, snew, mmut, mmut2, mcallF, mcallIo, mcallIo2, wipeD, restD, calmAt, fLen, fInt, fAbs, fTuple, fList, opAdd, opSub, cmpLt, cmpLe, cmpGt, cmpGe, cmpIs, cmpIsNot, isNone, tupI]
  cases d with
  | tuple ds =>
    have hsz : isSz (.tuple ds) s.length s.length = decide (ds.length = s.length) := by
      show (decide ((s.length : Int) ≤ ds.length) && decide ((ds.length : Int) ≤ s.length)) = _
      by_cases h : ds.length = s.length
      · simp [h]
      · rw [decide_eq_false h]
        simp only [Bool.and_eq_false_iff, decide_eq_false_iff_not]
        omega
    by_cases h : ds.length = s.length
    · have hz : isSz (.tuple ds) s.length s.length = true := by rw [hsz, decide_eq_true h]
      simp [mbind, mret, mvar, mop, mcall, mcons, mnil, mlift, mtup, mlst, mif, mand, mor, mnot, mandB, morB, mnotB, mtest, mtestB, truth, mbool, mchain, mneg, uNeg, sbind, sseq, sif, sret, sretN, sdrop, snext, sraise, sasg, tname, ttup, tcons, tnil, isIo, mitems, items, mrange, mpart, dInt, mslice, runDef, outs, ssub, ssub2, mineAt, Slot.mine, Slot.put, mixO, mixO2, spar, sparN, sparO, snew, mmut, mmut2, mcallF, mcallIo, mcallIo2, wipeD, restD, calmAt, fLen, fInt, fAbs, fTuple, fList, opAdd, opSub, cmpLt, cmpLe, cmpGt, cmpGe, cmpIs, cmpIsNot, isNone, e_is_sized, hz, k_raw_is_packet, fAll_map, isPkL_all h, isPk]
    · have hz : isSz (.tuple ds) s.length s.length = false := by rw [hsz, decide_eq_false h]
      simp [mbind, mret, mvar, mop, mcall, mcons, mnil, mlift, mtup, mlst, mif, mand, mor, mnot, mandB, morB, mnotB, mtest, mtestB, truth, mbool, mchain, mneg, uNeg, sbind, sseq, sif, sret, sretN, sdrop, snext, sraise, sasg, tname, ttup, tcons, tnil, isIo, mitems, items, mrange, mpart, dInt, mslice, runDef, outs, ssub, ssub2, mineAt, Slot.mine, Slot.put, mixO, mixO2, spar, sparN, sparO, snew, mmut, mmut2, mcallF, mcallIo, mcallIo2, wipeD, restD, calmAt, fLen, fInt, fAbs, fTuple, fList, opAdd, opSub, cmpLt, cmpLe, cmpGt, cmpGe, cmpIs, cmpIsNot, isNone, e_is_sized, hz, isPk, isPkL_len h]
  | _ => simp [mbind, mret, mvar, mop, mcall, mcons, mnil, mlift, mtup, mlst, mif, mand, mor, mnot, mandB, morB, mnotB, mtest, mtestB, truth, mbool, mchain, mneg, uNeg, sbind, sseq, sif, sret, sretN, sdrop, snext, sraise, sasg, tname, ttup, tcons, tnil, isIo, mitems, items, mrange, mpart, dInt, mslice, runDef, outs, ssub, ssub2, mineAt, Slot.mine, Slot.put, mixO, mixO2, spar, sparN, sparO, snew, mmut, mmut2, mcallF, mcallIo, mcallIo2, wipeD, restD, calmAt, fLen, fInt, fAbs, fTuple, fList, opAdd, opSub, cmpLt, cmpLe, cmpGt, cmpGe, cmpIs, cmpIsNot, isNone, e_is_sized, isSz, isPk]
end Lw
namespace Lw
open PySem PySem.Spec PyProof.Rows L2 RZ LamX PL
open PySem.W (Frag)
theorem e_is_packet {s : List Int} (h : SpOk s) (d : D) : F_is_packet [.val (tupI s), .val d] = .ok (.bool (isPk s d)) [.val (tupI s), .val d] := by
  unfold F_is_packet runDef b_is_packet q_is_packet_ q_is_packet_0 q_is_packet_1
  simp [mbind, mret, mvar, mop, mcall, mcons, mnil, mlift, mtup, mlst, mif, mand, mor, mnot, mandB, morB, mnotB, mtest, mtestB, truth, mbool, mchain, mneg, uNeg, sbind, sseq, sif, sret, sretN, sdrop, snext, sraise, sasg, tname, ttup, tcons, tnil, isIo, mitems, items, mrange, mpart, dInt, mslice, runDef, outs, ssub, ssub2, mineAt, Slot.mine, Slot.put, mixO, mixO2, spar, sparN, sparO, snew, mmut, mmut2, mcallF, mcallIo, mcallIo2, wipeD, restD, calmAt, fLen, fInt, fAbs, fTuple, fList, opAdd, opSub, cmpLt, cmpLe, cmpGt, cmpGe, cmpIs, cmpIsNot, isNone, check_ok h, e_raw_is_packet]
theorem e_is_packet_bad {o : D} (h : isSpace o = false) (d : D) : F_is_packet [.val o, .val d] = .err "NoSpace" [.val o, .val d] := by
  unfold F_is_packet runDef b_is_packet q_is_packet_ q_is_packet_0 q_is_packet_1
  simp [mbind, mret, mvar, mop, mcall, mcons, mnil, mlift, mtup, mlst, mif, mand, mor, mnot, mandB, morB, mnotB, mtest, mtestB, truth, mbool, mchain, mneg, uNeg, sbind, sseq, sif, sret, sretN, sdrop, snext, sraise, sasg, tname, ttup, tcons, tnil, isIo, mitems, items, mrange, mpart, dInt, mslice, runDef, outs, ssub, ssub2, mineAt, Slot.mine, Slot.put, mixO, mixO2, spar, sparN, sparO, snew, mmut, mmut2, mcallF, mcallIo, mcallIo2, wipeD, restD, calmAt, fLen, fInt, fAbs, fTuple, fList, opAdd, opSub, cmpLt, cmpLe, cmpGt, cmpGe, cmpIs, cmpIsNot, isNone, check_bad h]
theorem e_check_packet {s : List Int} (h : SpOk s) (d : D) : F_check_packet [.val (tupI s), .val d] = if isPk s d = true then .ok .none [.val (tupI s), .val d] else .err "NoPacket" [.val (tupI s), .val d] := by
  unfold F_check_packet runDef b_check_packet q_check_packet_ q_check_packet_0 q_check_packet_1
  cases hp : isPk s d <;> simp [mbind, mret, mvar, mop, mcall, mcons, mnil, mlift, mtup, mlst, mif, mand, mor, mnot, mandB, morB, mnotB, mtest, mtestB, truth, mbool, mchain, mneg, uNeg, sbind, sseq, sif, sret, sretN, sdrop, snext, sraise, sasg, tname, ttup, tcons, tnil, isIo, mitems, items, mrange, mpart, dInt, mslice, runDef, outs, ssub, ssub2, mineAt, Slot.mine, Slot.put, mixO, mixO2, spar, sparN, sparO, snew, mmut, mmut2, mcallF, mcallIo, mcallIo2, wipeD, restD, calmAt, fLen, fInt, fAbs, fTuple, fList, opAdd, opSub, cmpLt, cmpLe, cmpGt, cmpGe, cmpIs, cmpIsNot, isNone, check_ok h, e_raw_is_packet, hp]
theorem e_check_packet_bad {o : D} (h : isSpace o = false) (d : D) : F_check_packet [.val o, .val d] = .err "NoSpace" [.val o, .val d] := by
  unfold F_check_packet runDef b_check_packet q_check_packet_ q_check_packet_0 q_check_packet_1
  simp [mbind, mret, mvar, mop, mcall, mcons, mnil, mlift, mtup, mlst, mif, mand, mor, mnot, mandB, morB, mnotB, mtest, mtestB, truth, mbool, mchain, mneg, uNeg, sbind, sseq, sif, sret, sretN, sdrop, snext, sraise, sasg, tname, ttup, tcons, tnil, isIo, mitems, items, mrange, mpart, dInt, mslice, runDef, outs, ssub, ssub2, mineAt, Slot.mine, Slot.put, mixO, mixO2, spar, sparN, sparO, snew, mmut, mmut2, mcallF, mcallIo, mcallIo2, wipeD, restD, calmAt, fLen, fInt, fAbs, fTuple, fList, opAdd, opSub, cmpLt, cmpLe, cmpGt, cmpGe, cmpIs, cmpIsNot, isNone, check_bad h]
theorem e_check_field_no {s : List Int} {f v : D} (hf : isIn f 0 ((s.length : Int) - 1) = false) : F_check_field [.val (tupI s), .val f, .val v] = .err "NoField" [.val (tupI s), .val f, .val v] := by
  unfold F_check_field runDef b_check_field q_check_field_ q_check_field_0 q_check_field_1
  simp [mbind, mret, mvar, mop, mcall, mcons, mnil, mlift, mtup, mlst, mif, mand, mor, mnot, mandB, morB, mnotB, mtest, mtestB, truth, mbool, mchain, mneg, uNeg, sbind, sseq, sif, sret, sretN, sdrop, snext, sraise, sasg, tname, ttup, tcons, tnil, isIo, mitems, items, mrange, mpart, dInt, mslice, runDef, outs, ssub, ssub2, mineAt, Slot.mine, Slot.put, mixO, mixO2, spar, sparN, sparO, snew, mmut, mmut2, mcallF, mcallIo, mcallIo2, wipeD, restD, calmAt, fLen, fInt, fAbs, fTuple, fList, opAdd, opSub, cmpLt, cmpLe, cmpGt, cmpGe, cmpIs, cmpIsNot, isNone, e_is_within, hf]
theorem e_check_field {s : List Int} {i : Nat} {z : Int} {v : D} (hz : s[i]? = some z) : F_check_field [.val (tupI s), .val (.int i), .val v] = if isIn v 0 (z - 1) = true then .ok .none [.val (tupI s), .val (.int i), .val v] else .err "NoValue" [.val (tupI s), .val (.int i), .val v] := by
  have hi := (List.getElem?_eq_some_iff.mp hz).1
  have hf : isIn (.int i) 0 ((s.length : Int) - 1) = true := by simp only [isIn, Bool.and_eq_true, decide_eq_true_eq]; omega
  have hx : fIx (tupI s) (.int i) = some (.int z) := by
    show atI (s.map PyData.int) i = _
    rw [atI_ok (by omega) (by simpa using hi), Int.toNat_natCast, List.getElem?_map, hz]
    rfl
  have h1 : q_check_field_0 ([.val (tupI s), .val (.int i), .val v] : DEnv) = .next [.val (tupI s), .val (.int i), .val v] := by
    unfold q_check_field_0
    simp [mbind, mret, mvar, mop, mcall, mcons, mnil, mlift, mtup, mlst, mif, mand, mor, mnot, mandB, morB, mnotB, mtest, mtestB, truth, mbool, mchain, mneg, uNeg, sbind, sseq, sif, sret, sretN, sdrop, snext, sraise, sasg, tname, ttup, tcons, tnil, isIo, mitems, items, mrange, mpart, dInt, mslice, runDef, outs, ssub, ssub2, mineAt, Slot.mine, Slot.put, mixO, mixO2, spar, sparN, sparO, snew, mmut, mmut2, mcallF, mcallIo, mcallIo2, wipeD, restD, calmAt, fLen, fInt, fAbs, fTuple, fList, opAdd, opSub, cmpLt, cmpLe, cmpGt, cmpGe, cmpIs, cmpIsNot, isNone, e_is_within, hf]
  unfold F_check_field runDef b_check_field q_check_field_
  simp only [List.replicate, List.append_nil]
  rw [sseq_next h1]
  unfold q_check_field_1
  cases hv : isIn v 0 (z - 1) <;> simp [mbind, mret, mvar, mop, mcall, mcons, mnil, mlift, mtup, mlst, mif, mand, mor, mnot, mandB, morB, mnotB, mtest, mtestB, truth, mbool, mchain, mneg, uNeg, sbind, sseq, sif, sret, sretN, sdrop, snext, sraise, sasg, tname, ttup, tcons, tnil, isIo, mitems, items, mrange, mpart, dInt, mslice, runDef, outs, ssub, ssub2, mineAt, Slot.mine, Slot.put, mixO, mixO2, spar, sparN, sparO, snew, mmut, mmut2, mcallF, mcallIo, mcallIo2, wipeD, restD, calmAt, fLen, fInt, fAbs, fTuple, fList, opAdd, opSub, cmpLt, cmpLe, cmpGt, cmpGe, cmpIs, cmpIsNot, isNone, e_is_within, hx, hv]
theorem cutD_take (ds : List D) (i : Nat) (h : i ≤ ds.length) : PL.cutD ds none (some i) = ds.take i := by
  have h1 : ¬ ((i : Int) < 0) := by omega
  simp only [PL.cutD, HT.sIx, if_neg h1, Int.toNat_natCast, List.drop_zero, Nat.sub_zero]
  rw [Nat.min_eq_left h]
theorem cutD_drop (ds : List D) (i : Nat) (h : i ≤ ds.length) : PL.cutD ds (some i) none = ds.drop i := by
  have h1 : ¬ ((i : Int) < 0) := by omega
  simp only [PL.cutD, HT.sIx, if_neg h1, Int.toNat_natCast]
  rw [Nat.min_eq_left h, List.take_of_length_le (by simp)]
theorem set_eq {α : Type} : ∀ (xs : List α) (i : Nat) (v : α), i < xs.length → xs.take i ++ [v] ++ xs.drop (i + 1) = xs.set i v
  | x :: xs, 0, v, _ => by simp
  | x :: xs, i + 1, v, h => by
    have := set_eq xs i v (by simpa using h)
    simp only [List.take_succ_cons, List.cons_append, List.drop_succ_cons, List.set_cons_succ]
    rw [this]
theorem e_raw_with (p : List D) (i : Nat) (v : D) (hi : i < p.length) (hl : p.length ≤ 100) : F_raw_with [.val (.tuple p), .val (.int i), .val v] = .ok (.tuple (p.set i v)) [.val (.tuple p), .val (.int i), .val v] := by
  have a1 : opAdd (.tuple (p.take i)) (.tuple [v]) = some (.tuple (p.take i ++ [v])) := opAdd_tup (by simp; omega)
  have a2 : opAdd (.tuple (p.take i ++ [v])) (.tuple (p.drop (i + 1))) = some (.tuple (p.take i ++ [v] ++ p.drop (i + 1))) := opAdd_tup (by simp; omega)
  have c1 := cutD_take p i (by omega)
  have c2 : PL.cutD p (some ((i : Int) + 1)) none = p.drop (i + 1) := cutD_drop p (i + 1) (by omega)
  unfold F_raw_with runDef b_raw_with q_raw_with_ q_raw_with_0
  rw [← set_eq p i v hi]
  simp only [sret, sbind, mop, mbind, mslice, mvar, mpart, mret, mlift, dInt, fSlice, c1, c2, mtup, mcons, mnil, List.replicate, List.append_nil, List.getElem?_cons_succ, List.getElem?_cons_zero, List.length_cons, List.length_nil, a1, if_pos (show 0 + 1 ≤ 1000 by decide), show opAdd (.int i) (.int 1) = some (PyData.int ((i : Int) + 1)) from rfl, a2, outs, List.drop]
theorem e_with_bad {o : D} (h : isSpace o = false) (a b c : D) : F_with_value [.val o, .val a, .val b, .val c] = .err "NoSpace" [.val o, .val a, .val b, .val c] := by
  unfold F_with_value runDef b_with_value q_with_value_ q_with_value_0
  simp [mbind, mret, mvar, mop, mcall, mcons, mnil, mlift, mtup, mlst, mif, mand, mor, mnot, mandB, morB, mnotB, mtest, mtestB, truth, mbool, mchain, mneg, uNeg, sbind, sseq, sif, sret, sretN, sdrop, snext, sraise, sasg, tname, ttup, tcons, tnil, isIo, mitems, items, mrange, mpart, dInt, mslice, runDef, outs, ssub, ssub2, mineAt, Slot.mine, Slot.put, mixO, mixO2, spar, sparN, sparO, snew, mmut, mmut2, mcallF, mcallIo, mcallIo2, wipeD, restD, calmAt, fLen, fInt, fAbs, fTuple, fList, opAdd, opSub, cmpLt, cmpLe, cmpGt, cmpGe, cmpIs, cmpIsNot, isNone, e_check_packet_bad h]
theorem e_with_pk {s : List Int} (h : SpOk s) {a : D} (ha : isPk s a = false) (b c : D) : F_with_value [.val (tupI s), .val a, .val b, .val c] = .err "NoPacket" [.val (tupI s), .val a, .val b, .val c] := by
  unfold F_with_value runDef b_with_value q_with_value_ q_with_value_0
  simp [mbind, mret, mvar, mop, mcall, mcons, mnil, mlift, mtup, mlst, mif, mand, mor, mnot, mandB, morB, mnotB, mtest, mtestB, truth, mbool, mchain, mneg, uNeg, sbind, sseq, sif, sret, sretN, sdrop, snext, sraise, sasg, tname, ttup, tcons, tnil, isIo, mitems, items, mrange, mpart, dInt, mslice, runDef, outs, ssub, ssub2, mineAt, Slot.mine, Slot.put, mixO, mixO2, spar, sparN, sparO, snew, mmut, mmut2, mcallF, mcallIo, mcallIo2, wipeD, restD, calmAt, fLen, fInt, fAbs, fTuple, fList, opAdd, opSub, cmpLt, cmpLe, cmpGt, cmpGe, cmpIs, cmpIsNot, isNone, e_check_packet h, ha]
theorem e_with_fd {s : List Int} (h : SpOk s) {a b : D} (ha : isPk s a = true) (hb : isIn b 0 ((s.length : Int) - 1) = false) (c : D) : F_with_value [.val (tupI s), .val a, .val b, .val c] = .err "NoField" [.val (tupI s), .val a, .val b, .val c] := by
  unfold F_with_value runDef b_with_value q_with_value_ q_with_value_0 q_with_value_1
  simp [mbind, mret, mvar, mop, mcall, mcons, mnil, mlift, mtup, mlst, mif, mand, mor, mnot, mandB, morB, mnotB, mtest, mtestB, truth, mbool, mchain, mneg, uNeg, sbind, sseq, sif, sret, sretN, sdrop, snext, sraise, sasg, tname, ttup, tcons, tnil, isIo, mitems, items, mrange, mpart, dInt, mslice, runDef, outs, ssub, ssub2, mineAt, Slot.mine, Slot.put, mixO, mixO2, spar, sparN, sparO, snew, mmut, mmut2, mcallF, mcallIo, mcallIo2, wipeD, restD, calmAt, fLen, fInt, fAbs, fTuple, fList, opAdd, opSub, cmpLt, cmpLe, cmpGt, cmpGe, cmpIs, cmpIsNot, isNone, e_check_packet h, ha, e_check_field_no hb]
theorem e_with_vl {s : List Int} (h : SpOk s) {a : D} (ha : isPk s a = true) {i : Nat} {z : Int} {c : D} (hz : s[i]? = some z) (hc : isIn c 0 (z - 1) = false) : F_with_value [.val (tupI s), .val a, .val (.int i), .val c] = .err "NoValue" [.val (tupI s), .val a, .val (.int i), .val c] := by
  unfold F_with_value runDef b_with_value q_with_value_ q_with_value_0 q_with_value_1
  simp [mbind, mret, mvar, mop, mcall, mcons, mnil, mlift, mtup, mlst, mif, mand, mor, mnot, mandB, morB, mnotB, mtest, mtestB, truth, mbool, mchain, mneg, uNeg, sbind, sseq, sif, sret, sretN, sdrop, snext, sraise, sasg, tname, ttup, tcons, tnil, isIo, mitems, items, mrange, mpart, dInt, mslice, runDef, outs, ssub, ssub2, mineAt, Slot.mine, Slot.put, mixO, mixO2, spar, sparN, sparO, snew, mmut, mmut2, mcallF, mcallIo, mcallIo2, wipeD, restD, calmAt, fLen, fInt, fAbs, fTuple, fList, opAdd, opSub, cmpLt, cmpLe, cmpGt, cmpGe, cmpIs, cmpIsNot, isNone, e_check_packet h, ha, e_check_field hz, hc]
theorem isPkL_iff {p s : List Int} : isPkL (p.map .int) s = true ↔ p.length = s.length ∧ ∀ (i : Nat) (v z : Int), p[i]? = some v → s[i]? = some z → 0 ≤ v ∧ v < z := by
  induction p generalizing s with
  | nil => cases s with
    | nil => simp [isPkL]
    | cons z s => simp [isPkL]
  | cons v p ih => cases s with
    | nil => simp [isPkL]
    | cons z s =>
      show (isIn (.int v) 0 (z - 1) && isPkL (p.map .int) s) = true ↔ _
      rw [Bool.and_eq_true, ih]
      simp only [isIn, Bool.and_eq_true, decide_eq_true_eq, List.length_cons]
      constructor
      · rintro ⟨h1, h2, h3⟩
        refine ⟨by omega, fun i a b ha hb => ?_⟩
        cases i with
        | zero => simp at ha hb; omega
        | succ i => exact h3 i a b (by simpa using ha) (by simpa using hb)
      · rintro ⟨h1, h2⟩
        have := h2 0 v z rfl rfl
        exact ⟨by omega, by omega, fun i a b ha hb => h2 (i + 1) a b (by simpa using ha) (by simpa using hb)⟩
theorem isPk_pk {s p : List Int} (h : p ∈ pk s) : isPk s (tupI p) = true := isPkL_iff.mpr (mem_pk s p h)
theorem isPk_set {s p : List Int} (h : isPk s (tupI p) = true) {i : Nat} {v z : Int} (hz : s[i]? = some z) (hv : 0 ≤ v ∧ v < z) : isPk s (tupI (p.set i v)) = true := by
  obtain ⟨h1, h2⟩ := isPkL_iff.mp h
  refine isPkL_iff.mpr ⟨by simp [h1], fun j a b ha hb => ?_⟩
  rw [List.getElem?_set] at ha
  split at ha
  · rename_i e
    subst e
    split at ha
    · cases ha
      rw [hz] at hb; cases hb
      exact hv
    · cases ha
  · exact h2 j a b ha hb
theorem e_with {s p : List Int} (h : SpOk s) (hp : isPk s (tupI p) = true) {i : Nat} {v z : Int} (hz : s[i]? = some z) (hv : 0 ≤ v ∧ v < z) : F_with_value [.val (tupI s), .val (tupI p), .val (.int i), .val (.int v)] = .ok (tupI (p.set i v)) [.val (tupI s), .val (tupI p), .val (.int i), .val (.int v)] := by
  have hl := (isPkL_iff.mp hp).1
  have h4 := h.four
  have hi := (List.getElem?_eq_some_iff.mp hz).1
  have hc : isIn (.int v) 0 (z - 1) = true := by simp only [isIn, Bool.and_eq_true, decide_eq_true_eq]; omega
  have hr := e_raw_with (p.map .int) i (.int v) (by simp; omega) (by simp; omega)
  rw [← List.map_set] at hr
  unfold F_with_value runDef b_with_value q_with_value_ q_with_value_0 q_with_value_1 q_with_value_2
  simp [mbind, mret, mvar, mop, mcall, mcons, mnil, mlift, mtup, mlst, mif, mand, mor, mnot, mandB, morB, mnotB, mtest, mtestB, truth, mbool, mchain, mneg, uNeg, sbind, sseq, sif, sret, sretN, sdrop, snext, sraise, sasg, tname, ttup, tcons, tnil, isIo, mitems, items, mrange, mpart, dInt, mslice, runDef, outs, ssub, ssub2, mineAt, Slot.mine, Slot.put, mixO, mixO2, spar, sparN, sparO, snew, mmut, mmut2, mcallF, mcallIo, mcallIo2, wipeD, restD, calmAt, fLen, fInt, fAbs, fTuple, fList, opAdd, opSub, cmpLt, cmpLe, cmpGt, cmpGe, cmpIs, cmpIsNot, isNone, e_check_packet h, hp, e_check_field hz, hc, hr]
/-! ### cubes -/
def isCuL : List D → List Int → Bool
  | [], [] => true
  | d :: ds, z :: s => (isNone d || isIn d 0 (z - 1)) && isCuL ds s
  | _, _ => false
def isCu (s : List Int) (d : D) : Bool := match d with
  | .tuple ds => isCuL ds s
  | _ => false
theorem isCuL_len : ∀ {ds : List D} {s : List Int}, ds.length ≠ s.length → isCuL ds s = false
  | [], [], h => absurd rfl h
  | [], _ :: _, _ => rfl
  | _ :: _, [], _ => rfl
  | d :: ds, z :: s, h => by
    unfold isCuL
    rw [isCuL_len (ds := ds) (s := s) (fun e => h (by simp [e])), Bool.and_false]
theorem isCuL_all : ∀ {ds : List D} {s : List Int}, ds.length = s.length → ((ds.zip s).all fun p => isNone p.1 || isIn p.1 0 (p.2 - 1)) = isCuL ds s
  | [], [], _ => rfl
  | [], _ :: _, h => by cases h
  | _ :: _, [], h => by cases h
  | d :: ds, z :: s, h => by
    rw [List.zip_cons_cons, List.all_cons, isCuL_all (by simpa using h)]
    rfl
theorem k_raw_is_cube (s : List Int) (ds : List D) : k_raw_is_cube_0 [.val (tupI s), .val (.tuple ds), .un, .un] = .ok (.list ((ds.zip s).map fun p => .bool (isNone p.1 || isIn p.1 0 (p.2 - 1)))) [.val (tupI s), .val (.tuple ds), .un, .un] := by
  rw [← zip_all (fun d z => isNone d || isIn d 0 (z - 1))]
  refine (mcomp_map _ (fun p => match p with | .tuple [d, z] => [.val (tupI s), .val (.tuple ds), .val d, .val z] | _ => []) (ρ0 := [.val (tupI s), .val (.tuple ds), .un, .un]) (ds := zipD ds (s.map .int)) (by simp [mbind, mret, mvar, mop, mcall, mcons, mnil, mlift, mtup, mlst, mif, mand, mor, mnot, mandB, morB, mnotB, mtest, mtestB, truth, mbool, mchain, mneg, uNeg, sbind, sseq, sif, sret, sretN, sdrop, snext, sraise, sasg, tname, ttup, tcons, tnil, isIo, mitems, items, mrange, mpart, dInt, mslice, runDef, outs, ssub, ssub2, mineAt, Slot.mine, Slot.put, mixO, mixO2, spar, sparN, sparO, snew, mmut, mmut2, mcallF, mcallIo, mcallIo2, wipeD, restD, calmAt, fLen, fInt, fAbs, fTuple, fList, opAdd, opSub, cmpLt, cmpLe, cmpGt, cmpGe, cmpIs, cmpIsNot, isNone, zip2, tupI]) rfl ?_).trans rfl
  intro p hp
  obtain ⟨d, z, rfl⟩ := mem_zipD hp
  refine ⟨rfl, ?_, rfl⟩
  cases hn : isNone d <;> simp [mor, mop, mbind, mvar, mret, mlift, cmpIs, hn, mbool] <;> simp [mbind, mret, mvar, mop, mcall, mcons, mnil, mlift, mtup, mlst, mif, mand, mor, mnot, mandB, morB, mnotB, mtest, mtestB, truth, mbool, mchain, mneg, uNeg, sbind, sseq, sif, sret, sretN, sdrop, snext, sraise, sasg, tname, ttup, tcons, tnil, isIo, mitems, items, mrange, mpart, dInt, mslice, runDef, outs, ssub, ssub2, mineAt, Slot.mine, Slot.put, mixO, mixO2, spar, sparN, sparO, snew, mmut, mmut2, mcallF, mcallIo, mcallIo2, wipeD, restD, calmAt, fLen, fInt, fAbs, fTuple, fList, opAdd, opSub, cmpLt, cmpLe, cmpGt, cmpGe, cmpIs, cmpIsNot, isNone, e_is_within]
theorem e_raw_is_cube (s : List Int) (d : D) : F_raw_is_cube [.val (tupI s), .val d] = .ok (.bool (isCu s d)) [.val (tupI s), .val d] := by
  unfold F_raw_is_cube runDef b_raw_is_cube q_raw_is_cube_ q_raw_is_cube_0 q_raw_is_cube_1
  cases d with
  | tuple ds =>
    have hsz : isSz (.tuple ds) s.length s.length = decide (ds.length = s.length) := by
      show (decide ((s.length : Int) ≤ ds.length) && decide ((ds.length : Int) ≤ s.length)) = _
      by_cases h : ds.length = s.length
      · simp [h]
      · rw [decide_eq_false h]
        simp only [Bool.and_eq_false_iff, decide_eq_false_iff_not]
        omega
    by_cases h : ds.length = s.length
    · have hz : isSz (.tuple ds) s.length s.length = true := by rw [hsz, decide_eq_true h]
      simp [mbind, mret, mvar, mop, mcall, mcons, mnil, mlift, mtup, mlst, mif, mand, mor, mnot, mandB, morB, mnotB, mtest, mtestB, truth, mbool, mchain, mneg, uNeg, sbind, sseq, sif, sret, sretN, sdrop, snext, sraise, sasg, tname, ttup, tcons, tnil, isIo, mitems, items, mrange, mpart, dInt, mslice, runDef, outs, ssub, ssub2, mineAt, Slot.mine, Slot.put, mixO, mixO2, spar, sparN, sparO, snew, mmut, mmut2, mcallF, mcallIo, mcallIo2, wipeD, restD, calmAt, fLen, fInt, fAbs, fTuple, fList, opAdd, opSub, cmpLt, cmpLe, cmpGt, cmpGe, cmpIs, cmpIsNot, isNone, e_is_sized, hz, k_raw_is_cube, fAll_map, isCu]
      exact isCuL_all h
    · have hz : isSz (.tuple ds) s.length s.length = false := by rw [hsz, decide_eq_false h]
      simp [mbind, mret, mvar, mop, mcall, mcons, mnil, mlift, mtup, mlst, mif, mand, mor, mnot, mandB, morB, mnotB, mtest, mtestB, truth, mbool, mchain, mneg, uNeg, sbind, sseq, sif, sret, sretN, sdrop, snext, sraise, sasg, tname, ttup, tcons, tnil, isIo, mitems, items, mrange, mpart, dInt, mslice, runDef, outs, ssub, ssub2, mineAt, Slot.mine, Slot.put, mixO, mixO2, spar, sparN, sparO, snew, mmut, mmut2, mcallF, mcallIo, mcallIo2, wipeD, restD, calmAt, fLen, fInt, fAbs, fTuple, fList, opAdd, opSub, cmpLt, cmpLe, cmpGt, cmpGe, cmpIs, cmpIsNot, isNone, e_is_sized, hz, isCu, isCuL_len h]
  | _ => simp [mbind, mret, mvar, mop, mcall, mcons, mnil, mlift, mtup, mlst, mif, mand, mor, mnot, mandB, morB, mnotB, mtest, mtestB, truth, mbool, mchain, mneg, uNeg, sbind, sseq, sif, sret, sretN, sdrop, snext, sraise, sasg, tname, ttup, tcons, tnil, isIo, mitems, items, mrange, mpart, dInt, mslice, runDef, outs, ssub, ssub2, mineAt, Slot.mine, Slot.put, mixO, mixO2, spar, sparN, sparO, snew, mmut, mmut2, mcallF, mcallIo, mcallIo2, wipeD, restD, calmAt, fLen, fInt, fAbs, fTuple, fList, opAdd, opSub, cmpLt, cmpLe, cmpGt, cmpGe, cmpIs, cmpIsNot, isNone, e_is_sized, isSz, isCu]
end Lw
namespace Lw
open PySem PySem.Spec PyProof.Rows L2 RZ LamX PL
open PySem.W (Frag)
theorem e_is_cube {s : List Int} (h : SpOk s) (d : D) : F_is_cube [.val (tupI s), .val d] = .ok (.bool (isCu s d)) [.val (tupI s), .val d] := by
  unfold F_is_cube runDef b_is_cube q_is_cube_ q_is_cube_0 q_is_cube_1
  simp [mbind, mret, mvar, mop, mcall, mcons, mnil, mlift, mtup, mlst, mif, mand, mor, mnot, mandB, morB, mnotB, mtest, mtestB, truth, mbool, mchain, mneg, uNeg, sbind, sseq, sif, sret, sretN, sdrop, snext, sraise, sasg, tname, ttup, tcons, tnil, isIo, mitems, items, mrange, mpart, dInt, mslice, runDef, outs, ssub, ssub2, mineAt, Slot.mine, Slot.put, mixO, mixO2, spar, sparN, sparO, snew, mmut, mmut2, mcallF, mcallIo, mcallIo2, wipeD, restD, calmAt, fLen, fInt, fAbs, fTuple, fList, opAdd, opSub, cmpLt, cmpLe, cmpGt, cmpGe, cmpIs, cmpIsNot, isNone, check_ok h, e_raw_is_cube]
theorem e_is_cube_bad {o : D} (h : isSpace o = false) (d : D) : F_is_cube [.val o, .val d] = .err "NoSpace" [.val o, .val d] := by
  unfold F_is_cube runDef b_is_cube q_is_cube_ q_is_cube_0 q_is_cube_1
  simp [mbind, mret, mvar, mop, mcall, mcons, mnil, mlift, mtup, mlst, mif, mand, mor, mnot, mandB, morB, mnotB, mtest, mtestB, truth, mbool, mchain, mneg, uNeg, sbind, sseq, sif, sret, sretN, sdrop, snext, sraise, sasg, tname, ttup, tcons, tnil, isIo, mitems, items, mrange, mpart, dInt, mslice, runDef, outs, ssub, ssub2, mineAt, Slot.mine, Slot.put, mixO, mixO2, spar, sparN, sparO, snew, mmut, mmut2, mcallF, mcallIo, mcallIo2, wipeD, restD, calmAt, fLen, fInt, fAbs, fTuple, fList, opAdd, opSub, cmpLt, cmpLe, cmpGt, cmpGe, cmpIs, cmpIsNot, isNone, check_bad h]
theorem e_check_cube (s : List Int) (d : D) : F_check_cube [.val (tupI s), .val d] = if isCu s d = true then .ok .none [.val (tupI s), .val d] else .err "NoCube" [.val (tupI s), .val d] := by
  unfold F_check_cube runDef b_check_cube q_check_cube_ q_check_cube_0
  cases hp : isCu s d <;> simp [mbind, mret, mvar, mop, mcall, mcons, mnil, mlift, mtup, mlst, mif, mand, mor, mnot, mandB, morB, mnotB, mtest, mtestB, truth, mbool, mchain, mneg, uNeg, sbind, sseq, sif, sret, sretN, sdrop, snext, sraise, sasg, tname, ttup, tcons, tnil, isIo, mitems, items, mrange, mpart, dInt, mslice, runDef, outs, ssub, ssub2, mineAt, Slot.mine, Slot.put, mixO, mixO2, spar, sparN, sparO, snew, mmut, mmut2, mcallF, mcallIo, mcallIo2, wipeD, restD, calmAt, fLen, fInt, fAbs, fTuple, fList, opAdd, opSub, cmpLt, cmpLe, cmpGt, cmpGe, cmpIs, cmpIsNot, isNone, e_raw_is_cube, hp]
def optD : Option Int → D
  | none => .none
  | some v => .int v
abbrev cuD (c : List (Option Int)) : D := .tuple (c.map optD)
def agrees (o : Option Int) (v : Int) : Bool := match o with
  | none => true
  | some w => decide (w = v)
def hasC (c : List (Option Int)) (p : List Int) : Bool := (c.zip p).all fun q => agrees q.1 q.2
theorem zip_has : ∀ (c : List (Option Int)) (p : List Int), ((zipD (c.map optD) (p.map .int)).map fun q => match q with | .tuple [.none, .int v] => PyData.bool true | .tuple [.int w, .int v] => .bool (decide (w = v)) | _ => .none) = (c.zip p).map fun q => .bool (agrees q.1 q.2)
  | [], [] => rfl
  | [], _ :: _ => rfl
  | _ :: _, [] => rfl
  | o :: c, v :: p => by
    have ih := zip_has c p
    unfold zipD at ih ⊢
    rw [List.map_cons, List.map_cons, List.zipWith_cons_cons, List.map_cons, ih]
    cases o <;> rfl
theorem mem_zip_has {c : List (Option Int)} {p : List Int} {q : D} (h : q ∈ zipD (c.map optD) (p.map .int)) : ∃ o v, q = .tuple [optD o, .int v] := by
  obtain ⟨d, z, rfl⟩ := mem_zipD h
  unfold zipD at h
  obtain ⟨i, hi⟩ := List.mem_iff_getElem?.mp h
  rw [List.getElem?_zipWith] at hi
  split at hi
  · rename_i a b h1 h2
    rw [List.getElem?_map] at h1
    obtain ⟨o, _, rfl⟩ := Option.map_eq_some_iff.mp h1
    injection hi with hi
    injection hi with hi
    injection hi with hi hj
    exact ⟨o, z, by rw [hi]⟩
  · cases hi
theorem has_elt (o : Option Int) (v : Int) (a b : D) : mor (mop cmpIs (mvar 2) (mret .none)) (mop cmpEq (mvar 2) (mvar 3)) ([.val a, .val b, .val (optD o), .val (.int v)] : DEnv) = .ok (.bool (agrees o v)) [.val a, .val b, .val (optD o), .val (.int v)] := by
  cases o with
  | none => rfl
  | some w =>
    simp [mor, mop, mbind, mvar, mret, mlift, cmpIs, isNone, optD, mbool, cmpEq_int, agrees]
theorem k_raw_has (c : List (Option Int)) (p : List Int) : k_raw_has_0 [.val (cuD c), .val (tupI p), .un, .un] = .ok (.list ((c.zip p).map fun q => .bool (agrees q.1 q.2))) [.val (cuD c), .val (tupI p), .un, .un] := by
  rw [← zip_has]
  refine (mcomp_map _ (fun q => match q with | .tuple [d, z] => [.val (cuD c), .val (tupI p), .val d, .val z] | _ => []) (ρ0 := [.val (cuD c), .val (tupI p), .un, .un]) (ds := zipD (c.map optD) (p.map .int)) (by simp [mbind, mret, mvar, mop, mcall, mcons, mnil, mlift, mtup, mlst, mif, mand, mor, mnot, mandB, morB, mnotB, mtest, mtestB, truth, mbool, mchain, mneg, uNeg, sbind, sseq, sif, sret, sretN, sdrop, snext, sraise, sasg, tname, ttup, tcons, tnil, isIo, mitems, items, mrange, mpart, dInt, mslice, runDef, outs, ssub, ssub2, mineAt, Slot.mine, Slot.put, mixO, mixO2, spar, sparN, sparO, snew, mmut, mmut2, mcallF, mcallIo, mcallIo2, wipeD, restD, calmAt, fLen, fInt, fAbs, fTuple, fList, opAdd, opSub, cmpLt, cmpLe, cmpGt, cmpGe, cmpIs, cmpIsNot, isNone, zip2]) rfl ?_).trans rfl
  intro q hq
  obtain ⟨o, v, rfl⟩ := mem_zip_has hq
  refine ⟨rfl, ?_, rfl⟩
  rw [has_elt]
  cases o <;> rfl
theorem e_raw_has (c : List (Option Int)) (p : List Int) : F_raw_has [.val (cuD c), .val (tupI p)] = .ok (.bool (hasC c p)) [.val (cuD c), .val (tupI p)] := by
  unfold F_raw_has runDef b_raw_has q_raw_has_ q_raw_has_0
  simp [mbind, mret, mvar, mop, mcall, mcons, mnil, mlift, mtup, mlst, mif, mand, mor, mnot, mandB, morB, mnotB, mtest, mtestB, truth, mbool, mchain, mneg, uNeg, sbind, sseq, sif, sret, sretN, sdrop, snext, sraise, sasg, tname, ttup, tcons, tnil, isIo, mitems, items, mrange, mpart, dInt, mslice, runDef, outs, ssub, ssub2, mineAt, Slot.mine, Slot.put, mixO, mixO2, spar, sparN, sparO, snew, mmut, mmut2, mcallF, mcallIo, mcallIo2, wipeD, restD, calmAt, fLen, fInt, fAbs, fTuple, fList, opAdd, opSub, cmpLt, cmpLe, cmpGt, cmpGe, cmpIs, cmpIsNot, isNone, k_raw_has, fAll_map, hasC]
theorem k_law_has (c : List (Option Int)) (p : List Int) : k_law_has_0 [.val (cuD c), .val (tupI p), .un, .un] = .ok (.list ((c.zip p).map fun q => .bool (agrees q.1 q.2))) [.val (cuD c), .val (tupI p), .un, .un] := k_raw_has c p
theorem e_law_has (c : List (Option Int)) (p : List Int) : F_law_has [.val (cuD c), .val (tupI p)] = .ok (.bool (hasC c p)) [.val (cuD c), .val (tupI p)] := e_raw_has c p
theorem k_raw_packets_in {s : List Int} (h : SpOk s) (c : List (Option Int)) : k_raw_packets_in_0 [.val (tupI s), .val (cuD c), .un] = .ok (.list (((pk s).filter (hasC c)).map tupI)) [.val (tupI s), .val (cuD c), .un] := by
  have e : ((pk s).filter (hasC c)).map tupI = (((pk s).map tupI).filter fun d => match d with | .tuple ds => hasC c (ds.map toI) | _ => false).map id := by
    rw [List.filter_map, List.map_id]
    congr 1
    refine List.filter_congr fun p _ => ?_
    show hasC c p = hasC c ((p.map PyData.int).map toI)
    rw [map_toI]
  rw [e]
  refine (mcomp_pure _ id (fun d => [.val (tupI s), .val (cuD c), .val d]) (ρ0 := [.val (tupI s), .val (cuD c), .un]) (ds := (pk s).map tupI) (by simp [mbind, mret, mvar, mop, mcall, mcons, mnil, mlift, mtup, mlst, mif, mand, mor, mnot, mandB, morB, mnotB, mtest, mtestB, truth, mbool, mchain, mneg, uNeg, sbind, sseq, sif, sret, sretN, sdrop, snext, sraise, sasg, tname, ttup, tcons, tnil, isIo, mitems, items, mrange, mpart, dInt, mslice, runDef, outs, ssub, ssub2, mineAt, Slot.mine, Slot.put, mixO, mixO2, spar, sparN, sparO, snew, mmut, mmut2, mcallF, mcallIo, mcallIo2, wipeD, restD, calmAt, fLen, fInt, fAbs, fTuple, fList, opAdd, opSub, cmpLt, cmpLe, cmpGt, cmpGe, cmpIs, cmpIsNot, isNone, e_raw_packets h]) rfl ?_).trans rfl
  intro d hd
  obtain ⟨p, hp, rfl⟩ := List.mem_map.mp hd
  refine ⟨rfl, ?_, fun _ => rfl, rfl⟩
  simp [mtest, mbind, mcallF, mcons, mnil, mvar, mret, e_raw_has, mlift, truth]
  rw [← List.map_map, map_toI]
theorem e_packets_in {s : List Int} (h : SpOk s) {c : List (Option Int)} (hc : isCu s (cuD c) = true) : F_packets_in [.val (tupI s), .val (cuD c)] = .ok (.tuple (((pk s).filter (hasC c)).map tupI)) [.val (tupI s), .val (cuD c)] := by
  have hr : F_raw_packets_in [.val (tupI s), .val (cuD c)] = .ok (.list (((pk s).filter (hasC c)).map tupI)) [.val (tupI s), .val (cuD c)] := by
    unfold F_raw_packets_in runDef b_raw_packets_in q_raw_packets_in_ q_raw_packets_in_0
    simp [sret, sbind, k_raw_packets_in h, outs]
  unfold F_packets_in runDef b_packets_in q_packets_in_ q_packets_in_0 q_packets_in_1 q_packets_in_2
  simp [mbind, mret, mvar, mop, mcall, mcons, mnil, mlift, mtup, mlst, mif, mand, mor, mnot, mandB, morB, mnotB, mtest, mtestB, truth, mbool, mchain, mneg, uNeg, sbind, sseq, sif, sret, sretN, sdrop, snext, sraise, sasg, tname, ttup, tcons, tnil, isIo, mitems, items, mrange, mpart, dInt, mslice, runDef, outs, ssub, ssub2, mineAt, Slot.mine, Slot.put, mixO, mixO2, spar, sparN, sparO, snew, mmut, mmut2, mcallF, mcallIo, mcallIo2, wipeD, restD, calmAt, fLen, fInt, fAbs, fTuple, fList, opAdd, opSub, cmpLt, cmpLe, cmpGt, cmpGe, cmpIs, cmpIsNot, isNone, check_ok h, e_check_cube, hc, hr]
theorem e_packets_in_bad {o : D} (h : isSpace o = false) (d : D) : F_packets_in [.val o, .val d] = .err "NoSpace" [.val o, .val d] := by
  unfold F_packets_in runDef b_packets_in q_packets_in_ q_packets_in_0
  simp [mbind, mret, mvar, mop, mcall, mcons, mnil, mlift, mtup, mlst, mif, mand, mor, mnot, mandB, morB, mnotB, mtest, mtestB, truth, mbool, mchain, mneg, uNeg, sbind, sseq, sif, sret, sretN, sdrop, snext, sraise, sasg, tname, ttup, tcons, tnil, isIo, mitems, items, mrange, mpart, dInt, mslice, runDef, outs, ssub, ssub2, mineAt, Slot.mine, Slot.put, mixO, mixO2, spar, sparN, sparO, snew, mmut, mmut2, mcallF, mcallIo, mcallIo2, wipeD, restD, calmAt, fLen, fInt, fAbs, fTuple, fList, opAdd, opSub, cmpLt, cmpLe, cmpGt, cmpGe, cmpIs, cmpIsNot, isNone, check_bad h]
theorem e_packets_in_no {s : List Int} (h : SpOk s) {d : D} (hd : isCu s d = false) : F_packets_in [.val (tupI s), .val d] = .err "NoCube" [.val (tupI s), .val d] := by
  unfold F_packets_in runDef b_packets_in q_packets_in_ q_packets_in_0 q_packets_in_1
  simp [mbind, mret, mvar, mop, mcall, mcons, mnil, mlift, mtup, mlst, mif, mand, mor, mnot, mandB, morB, mnotB, mtest, mtestB, truth, mbool, mchain, mneg, uNeg, sbind, sseq, sif, sret, sretN, sdrop, snext, sraise, sasg, tname, ttup, tcons, tnil, isIo, mitems, items, mrange, mpart, dInt, mslice, runDef, outs, ssub, ssub2, mineAt, Slot.mine, Slot.put, mixO, mixO2, spar, sparN, sparO, snew, mmut, mmut2, mcallF, mcallIo, mcallIo2, wipeD, restD, calmAt, fLen, fInt, fAbs, fTuple, fList, opAdd, opSub, cmpLt, cmpLe, cmpGt, cmpGe, cmpIs, cmpIsNot, isNone, check_ok h, e_check_cube, hd]
theorem e_has_packet {s : List Int} (h : SpOk s) {c : List (Option Int)} (hc : isCu s (cuD c) = true) {p : List Int} (hp : isPk s (tupI p) = true) : F_has_packet [.val (tupI s), .val (cuD c), .val (tupI p)] = .ok (.bool (hasC c p)) [.val (tupI s), .val (cuD c), .val (tupI p)] := by
  unfold F_has_packet runDef b_has_packet q_has_packet_ q_has_packet_0 q_has_packet_1 q_has_packet_2 q_has_packet_3
  simp [mbind, mret, mvar, mop, mcall, mcons, mnil, mlift, mtup, mlst, mif, mand, mor, mnot, mandB, morB, mnotB, mtest, mtestB, truth, mbool, mchain, mneg, uNeg, sbind, sseq, sif, sret, sretN, sdrop, snext, sraise, sasg, tname, ttup, tcons, tnil, isIo, mitems, items, mrange, mpart, dInt, mslice, runDef, outs, ssub, ssub2, mineAt, Slot.mine, Slot.put, mixO, mixO2, spar, sparN, sparO, snew, mmut, mmut2, mcallF, mcallIo, mcallIo2, wipeD, restD, calmAt, fLen, fInt, fAbs, fTuple, fList, opAdd, opSub, cmpLt, cmpLe, cmpGt, cmpGe, cmpIs, cmpIsNot, isNone, check_ok h, e_check_cube, hc, e_check_packet h, hp, e_raw_has]
theorem e_has_bad {o : D} (h : isSpace o = false) (a b : D) : F_has_packet [.val o, .val a, .val b] = .err "NoSpace" [.val o, .val a, .val b] := by
  unfold F_has_packet runDef b_has_packet q_has_packet_ q_has_packet_0
  simp [mbind, mret, mvar, mop, mcall, mcons, mnil, mlift, mtup, mlst, mif, mand, mor, mnot, mandB, morB, mnotB, mtest, mtestB, truth, mbool, mchain, mneg, uNeg, sbind, sseq, sif, sret, sretN, sdrop, snext, sraise, sasg, tname, ttup, tcons, tnil, isIo, mitems, items, mrange, mpart, dInt, mslice, runDef, outs, ssub, ssub2, mineAt, Slot.mine, Slot.put, mixO, mixO2, spar, sparN, sparO, snew, mmut, mmut2, mcallF, mcallIo, mcallIo2, wipeD, restD, calmAt, fLen, fInt, fAbs, fTuple, fList, opAdd, opSub, cmpLt, cmpLe, cmpGt, cmpGe, cmpIs, cmpIsNot, isNone, check_bad h]
theorem e_has_no {s : List Int} (h : SpOk s) {a : D} (ha : isCu s a = false) (b : D) : F_has_packet [.val (tupI s), .val a, .val b] = .err "NoCube" [.val (tupI s), .val a, .val b] := by
  unfold F_has_packet runDef b_has_packet q_has_packet_ q_has_packet_0 q_has_packet_1
  simp [mbind, mret, mvar, mop, mcall, mcons, mnil, mlift, mtup, mlst, mif, mand, mor, mnot, mandB, morB, mnotB, mtest, mtestB, truth, mbool, mchain, mneg, uNeg, sbind, sseq, sif, sret, sretN, sdrop, snext, sraise, sasg, tname, ttup, tcons, tnil, isIo, mitems, items, mrange, mpart, dInt, mslice, runDef, outs, ssub, ssub2, mineAt, Slot.mine, Slot.put, mixO, mixO2, spar, sparN, sparO, snew, mmut, mmut2, mcallF, mcallIo, mcallIo2, wipeD, restD, calmAt, fLen, fInt, fAbs, fTuple, fList, opAdd, opSub, cmpLt, cmpLe, cmpGt, cmpGe, cmpIs, cmpIsNot, isNone, check_ok h, e_check_cube, ha]
theorem e_has_np {s : List Int} (h : SpOk s) {a : D} (ha : isCu s a = true) {b : D} (hb : isPk s b = false) : F_has_packet [.val (tupI s), .val a, .val b] = .err "NoPacket" [.val (tupI s), .val a, .val b] := by
  unfold F_has_packet runDef b_has_packet q_has_packet_ q_has_packet_0 q_has_packet_1 q_has_packet_2
  simp [mbind, mret, mvar, mop, mcall, mcons, mnil, mlift, mtup, mlst, mif, mand, mor, mnot, mandB, morB, mnotB, mtest, mtestB, truth, mbool, mchain, mneg, uNeg, sbind, sseq, sif, sret, sretN, sdrop, snext, sraise, sasg, tname, ttup, tcons, tnil, isIo, mitems, items, mrange, mpart, dInt, mslice, runDef, outs, ssub, ssub2, mineAt, Slot.mine, Slot.put, mixO, mixO2, spar, sparN, sparO, snew, mmut, mmut2, mcallF, mcallIo, mcallIo2, wipeD, restD, calmAt, fLen, fInt, fAbs, fTuple, fList, opAdd, opSub, cmpLt, cmpLe, cmpGt, cmpGe, cmpIs, cmpIsNot, isNone, check_ok h, e_check_cube, ha, e_check_packet h, hb]
end Lw
namespace Lw
open PySem PySem.Spec PyProof.Rows L2 RZ LamX PL
open PySem.W (Frag)
theorem e_law_any (h : D) (ds : List D) (hh : HandOk h) (h1 : ds ≠ []) (h2 : ds.length ≤ 1000000) : ∃ (d h' : D), d ∈ ds ∧ HandOk h' ∧ F_law_any [.io h, .val (.list ds)] = .ok d [.io h', .val (.list ds)] := by
  have hl : 1 ≤ ds.length := by cases ds with | nil => exact absurd rfl h1 | cons _ _ => simp
  obtain ⟨n, h', n0, n1, ho, e⟩ := e_law_draw h ds.length hh (by omega) (by omega)
  have hn : n.toNat < ds.length := by omega
  refine ⟨ds[n.toNat], h', List.getElem_mem _, ho, ?_⟩
  have hx : fIx (.list ds) (.int n) = some ds[n.toNat] := by
    show atI ds n = _
    rw [atI_ok n0 n1, List.getElem?_eq_getElem hn]
  unfold F_law_any runDef b_law_any q_law_any_ q_law_any_0
  simp [mbind, mret, mvar, mop, mcall, mcons, mnil, mlift, mtup, mlst, mif, mand, mor, mnot, mandB, morB, mnotB, mtest, mtestB, truth, mbool, mchain, mneg, uNeg, sbind, sseq, sif, sret, sretN, sdrop, snext, sraise, sasg, tname, ttup, tcons, tnil, isIo, mitems, items, mrange, mpart, dInt, mslice, runDef, outs, ssub, ssub2, mineAt, Slot.mine, Slot.put, mixO, mixO2, spar, sparN, sparO, snew, mmut, mmut2, mcallF, mcallIo, mcallIo2, wipeD, restD, calmAt, fLen, fInt, fAbs, fTuple, fList, opAdd, opSub, cmpLt, cmpLe, cmpGt, cmpGe, cmpIs, cmpIsNot, isNone, e, hx]
theorem mem_range2 (x : D) (h : x ∈ rangeD 2 7) : ∃ z : Int, x = .int z ∧ 2 ≤ z ∧ z ≤ 8 := by
  unfold rangeD at h
  obtain ⟨i, hi, rfl⟩ := List.mem_map.mp h
  rw [List.mem_range] at hi
  exact ⟨2 + i, rfl, by omega, by omega⟩
theorem prod_pos : ∀ (s : List Int), (∀ x ∈ s, 2 ≤ x ∧ x ≤ 8) → 1 ≤ prodI s := by
  refine snoc_ind ?_ ?_
  · intro _; decide
  · intro t z ih h
    have h1 := ih fun x hx => h x (by simp [hx])
    have h2 := h z (by simp)
    have e : prodI (t ++ [z]) = prodI t * z := by simp [prodI, List.foldl_append]
    rw [e]
    have := Int.mul_le_mul h1 h2.1 (by omega) (by omega)
    omega
theorem prod_snoc (t : List Int) (z : Int) : prodI (t ++ [z]) = prodI t * z := by simp [prodI, List.foldl_append]
theorem k_law_wide (h : Slot) (s : List Int) (m : Int) (x y : Slot) (hh : ∃ d, h = .io d) (hm : m < 18446744073709551616 ∧ -18446744073709551616 < m) : k_law_wide_0 [h, .val (tupI s), .val (.int m), x, y, .un] = .ok (.list ((rangeD 2 7).filter fun d => decide (toI d * m ≤ 64))) [h, .val (tupI s), .val (.int m), x, y, .un] := by
  obtain ⟨d0, rfl⟩ := hh
  refine (mcomp_pure (fun d => decide (toI d * m ≤ 64)) id (fun d => [.io d0, .val (tupI s), .val (.int m), x, y, .val d]) (ρ0 := [.io d0, .val (tupI s), .val (.int m), x, y, .un]) (ds := rangeD 2 7) (by simp [mbind, mret, mvar, mop, mcall, mcons, mnil, mlift, mtup, mlst, mif, mand, mor, mnot, mandB, morB, mnotB, mtest, mtestB, truth, mbool, mchain, mneg, uNeg, sbind, sseq, sif, sret, sretN, sdrop, snext, sraise, sasg, tname, ttup, tcons, tnil, isIo, mitems, items, mrange, mpart, dInt, mslice, runDef, outs, ssub, ssub2, mineAt, Slot.mine, Slot.put, mixO, mixO2, spar, sparN, sparO, snew, mmut, mmut2, mcallF, mcallIo, mcallIo2, wipeD, restD, calmAt, fLen, fInt, fAbs, fTuple, fList, opAdd, opSub, cmpLt, cmpLe, cmpGt, cmpGe, cmpIs, cmpIsNot, isNone]; rfl) rfl ?_).trans (by rw [List.map_id]; rfl)
  intro d hd
  obtain ⟨z, rfl, hz⟩ := mem_range2 d hd
  refine ⟨rfl, ?_, fun _ => rfl, rfl⟩
  have sm : smallMul z m = true := by simp [smallMul, hm.1, hm.2]
  simp [mtestB, mop, mbind, mvar, mret, mlift, opMul, sm, cmpLe, mbool, toI]
  try exact decide_eq_decide.mpr Iff.rfl
theorem e_law_wide (h : D) (hh : HandOk h) : ∃ (s : List Int) (h' : D), SpOk s ∧ HandOk h' ∧ F_law_wide [.io h] = .ok (tupI s) [.io h'] := by
  have e0 : q_law_wide_0 ([.io h] ++ List.replicate 5 .un) = .next [.io h, .val (tupI []), .val (.int 1), .un, .un, .un] := by simp [q_law_wide_0, mbind, mret, mvar, mop, mcall, mcons, mnil, mlift, mtup, mlst, mif, mand, mor, mnot, mandB, morB, mnotB, mtest, mtestB, truth, mbool, mchain, mneg, uNeg, sbind, sseq, sif, sret, sretN, sdrop, snext, sraise, sasg, tname, ttup, tcons, tnil, isIo, mitems, items, mrange, mpart, dInt, mslice, runDef, outs, ssub, ssub2, mineAt, Slot.mine, Slot.put, mixO, mixO2, spar, sparN, sparO, snew, mmut, mmut2, mcallF, mcallIo, mcallIo2, wipeD, restD, calmAt, fLen, fInt, fAbs, fTuple, fList, opAdd, opSub, cmpLt, cmpLe, cmpGt, cmpGe, cmpIs, cmpIsNot, isNone]
  obtain ⟨n, h1, n0, n1, ho1, e1⟩ := e_law_draw h 4 hh (by omega) (by omega)
  have hr : (mrange range1 (mcons (mop opAdd (mret (.int 1)) (mcallIo F_law_draw 0 (mcons (mret (.int 4)) (mnil)))) (mnil))) ([.io h, .val (tupI []), .val (.int 1), .un, .un, .un] : DEnv) = .ok ((rangeI (1 + n).toNat).map .int) [.io h1, .val (tupI []), .val (.int 1), .un, .un, .un] := by
    simp [mbind, mret, mvar, mop, mcall, mcons, mnil, mlift, mtup, mlst, mif, mand, mor, mnot, mandB, morB, mnotB, mtest, mtestB, truth, mbool, mchain, mneg, uNeg, sbind, sseq, sif, sret, sretN, sdrop, snext, sraise, sasg, tname, ttup, tcons, tnil, isIo, mitems, items, mrange, mpart, dInt, mslice, runDef, outs, ssub, ssub2, mineAt, Slot.mine, Slot.put, mixO, mixO2, spar, sparN, sparO, snew, mmut, mmut2, mcallF, mcallIo, mcallIo2, wipeD, restD, calmAt, fLen, fInt, fAbs, fTuple, fList, opAdd, opSub, cmpLt, cmpLe, cmpGt, cmpGe, cmpIs, cmpIsNot, isNone, e1, range1_ok (show 0 ≤ 1 + n by omega) (by omega)]
  obtain ⟨ρ', e2, h2, s, x, y, ho2, rfl, c1, c2, c3, c4⟩ := sfor_inv (f := tname 3) (b := q_law_wide_1b)
    (fun j ρ => ∃ h s x y, HandOk h ∧ ρ = [.io h, .val (tupI s), .val (.int (prodI s)), x, y, .un] ∧ s.length ≤ j ∧ (1 ≤ j → 1 ≤ s.length) ∧ (∀ z ∈ s, 2 ≤ z ∧ z ≤ 8) ∧ prodI s ≤ 64 ∧ isIo (some x) = false ∧ isIo (some y) = false) hr ⟨h1, [], .un, .un, ho1, rfl, Nat.le_refl _, (fun z => absurd z (by omega)), (fun z hz => by cases hz), by decide, rfl, rfl⟩ fun j d ρ hj ⟨h, s, x, y, ho, e, c1, c2, c3, c4, c5, c6⟩ => by
      subst e
      have hp := prod_pos s c3
      have hj4 : j < 4 := by
        have := (List.getElem?_eq_some_iff.mp hj).1
        simp [rangeI] at this
        omega
      have f1 : tname 3 d ([.io h, .val (tupI s), .val (.int (prodI s)), x, y, .un] : DEnv) = some [.io h, .val (tupI s), .val (.int (prodI s)), .val d, y, .un] := by
        cases x with
        | io _ => cases c5
        | _ => rfl
      have f2 : q_law_wide_1b0 ([.io h, .val (tupI s), .val (.int (prodI s)), .val d, y, .un] : DEnv) = .next [.io h, .val (tupI s), .val (.int (prodI s)), .val d, .val (.list ((rangeD 2 7).filter fun d => decide (toI d * prodI s ≤ 64))), .un] := by
        unfold q_law_wide_1b0
        simp only [sasg, sbind, k_law_wide (.io h) s (prodI s) (.val d) y ⟨h, rfl⟩ (by omega)]
        cases y with
        | io _ => cases c6
        | _ => rfl
      by_cases hne : ((rangeD 2 7).filter fun d => decide (toI d * prodI s ≤ 64)) = []
      · refine ⟨_, [.io h, .val (tupI s), .val (.int (prodI s)), .val d, .val (.list ((rangeD 2 7).filter fun d => decide (toI d * prodI s ≤ 64))), .un], f1, ?_, h, s, .val d, _, ho, rfl, by omega, fun _ => ?_, c3, c4, rfl, rfl⟩
        · unfold q_law_wide_1b
          rw [sseq_next f2, hne]
          simp [q_law_wide_1b1, mbind, mret, mvar, mop, mcall, mcons, mnil, mlift, mtup, mlst, mif, mand, mor, mnot, mandB, morB, mnotB, mtest, mtestB, truth, mbool, mchain, mneg, uNeg, sbind, sseq, sif, sret, sretN, sdrop, snext, sraise, sasg, tname, ttup, tcons, tnil, isIo, mitems, items, mrange, mpart, dInt, mslice, runDef, outs, ssub, ssub2, mineAt, Slot.mine, Slot.put, mixO, mixO2, spar, sparN, sparO, snew, mmut, mmut2, mcallF, mcallIo, mcallIo2, wipeD, restD, calmAt, fLen, fInt, fAbs, fTuple, fList, opAdd, opSub, cmpLt, cmpLe, cmpGt, cmpGe, cmpIs, cmpIsNot, isNone]
        · cases s with
          | nil => exact absurd hne (by decide)
          | cons _ _ => simp
      · have hlen : ((rangeD 2 7).filter fun d => decide (toI d * prodI s ≤ 64)).length ≤ 1000000 := Nat.le_trans (List.length_filter_le _ _) (by decide)
        obtain ⟨w, h', hw, ho', ea⟩ := e_law_any h _ ho hne hlen
        have hw2 := List.mem_filter.mp hw
        obtain ⟨z, rfl, hz⟩ := mem_range2 w hw2.1
        have hz2 : z * prodI s ≤ 64 := of_decide_eq_true hw2.2
        have sm : smallMul (prodI s) z = true := by
          have : (-18446744073709551616 < z) ∧ z < 18446744073709551616 := by omega
          simp [smallMul, this.1, this.2]
        refine ⟨_, [.io h', .val (tupI (s ++ [z])), .val (.int (prodI (s ++ [z]))), .val d, .val (.list ((rangeD 2 7).filter fun d => decide (toI d * prodI s ≤ 64))), .un], f1, ?_, h', s ++ [z], .val d, _, ho', rfl, by simp; omega, fun _ => by simp, fun a ha => ?_, by rw [prod_snoc, Int.mul_comm]; exact hz2, rfl, rfl⟩
        · unfold q_law_wide_1b
          rw [sseq_next f2]
          have hpos : 0 < ((rangeD 2 7).filter fun d => decide (toI d * prodI s ≤ 64)).length := List.length_pos_iff.mpr hne
          generalize hL : ((rangeD 2 7).filter fun d => decide (toI d * prodI s ≤ 64)) = L at *
          have hx : opAdd (tupI s) (.tuple [.int z]) = some (tupI (s ++ [z])) := by
            rw [opAdd_tup (by simp; omega)]
            simp
          have hy : fIx (tupI (s ++ [z])) (.int (-1)) = some (.int z) := by
            show atI ((s ++ [z]).map PyData.int) (-1) = _
            have e1 : (-1 + (((s ++ [z]).map PyData.int).length : Int)).toNat = s.length := by simp; omega
            unfold atI ixN
            rw [if_neg (by decide), if_pos (by simp; omega), Option.bind_some, e1, List.getElem?_map]
            simp
          simp [q_law_wide_1b1, mbind, mret, mvar, mop, mcall, mcons, mnil, mlift, mtup, mlst, mif, mand, mor, mnot, mandB, morB, mnotB, mtest, mtestB, truth, mbool, mchain, mneg, uNeg, sbind, sseq, sif, sret, sretN, sdrop, snext, sraise, sasg, tname, ttup, tcons, tnil, isIo, mitems, items, mrange, mpart, dInt, mslice, runDef, outs, ssub, ssub2, mineAt, Slot.mine, Slot.put, mixO, mixO2, spar, sparN, sparO, snew, mmut, mmut2, mcallF, mcallIo, mcallIo2, wipeD, restD, calmAt, fLen, fInt, fAbs, fTuple, fList, opSub, cmpLt, cmpLe, cmpGt, cmpGe, cmpIs, cmpIsNot, isNone, hpos, ea, hx, hy, opMul, sm, prod_snoc]
        · rcases List.mem_append.mp ha with ha | ha
          · exact c3 a ha
          · rw [List.mem_singleton.mp ha]; exact hz
  have hlen : ((rangeI (1 + n).toNat).map PyData.int).length = (1 + n).toNat := by simp [rangeI]
  rw [hlen] at c1 c2
  refine ⟨s, h2, ⟨c2 (by omega), by omega, c3, c4.1⟩, ho2, ?_⟩
  unfold F_law_wide runDef b_law_wide q_law_wide_
  rw [sseq_next e0]
  have e3 : q_law_wide_1 [.io h, .val (tupI []), .val (.int 1), .un, .un, .un] = .next _ := e2
  rw [sseq_next e3]
  simp [q_law_wide_2, mbind, mret, mvar, mop, mcall, mcons, mnil, mlift, mtup, mlst, mif, mand, mor, mnot, mandB, morB, mnotB, mtest, mtestB, truth, mbool, mchain, mneg, uNeg, sbind, sseq, sif, sret, sretN, sdrop, snext, sraise, sasg, tname, ttup, tcons, tnil, isIo, mitems, items, mrange, mpart, dInt, mslice, runDef, outs, ssub, ssub2, mineAt, Slot.mine, Slot.put, mixO, mixO2, spar, sparN, sparO, snew, mmut, mmut2, mcallF, mcallIo, mcallIo2, wipeD, restD, calmAt, fLen, fInt, fAbs, fTuple, fList, opAdd, opSub, cmpLt, cmpLe, cmpGt, cmpGe, cmpIs, cmpIsNot, isNone]
end Lw
namespace Lw
open PySem PySem.Spec PyProof.Rows L2 RZ LamX PL
open PySem.W (Frag)
theorem k_law_packets (a b o : Slot) (z : Int) (p : List Int) (hz : 0 ≤ z ∧ z ≤ 8) (hp : p.length ≤ 100) :
    k_law_packets_0 [a, b, .val (.int z), o, .val (tupI p), .un] = .ok (.list (((rangeI z.toNat).map fun v => p ++ [v]).map tupI)) [a, b, .val (.int z), o, .val (tupI p), .un] := by
  refine (mcomp_map (snocD (tupI p)) (fun v => [a, b, .val (.int z), o, .val (tupI p), .val v]) (ρ0 := [a, b, .val (.int z), o, .val (tupI p), .un]) (ds := (rangeI z.toNat).map .int) (by simp [mbind, mret, mvar, mop, mcall, mcons, mnil, mlift, mtup, mlst, mif, mand, mor, mnot, mandB, morB, mnotB, mtest, mtestB, truth, mbool, mchain, mneg, uNeg, sbind, sseq, sif, sret, sretN, sdrop, snext, sraise, sasg, tname, ttup, tcons, tnil, isIo, mitems, items, mrange, mpart, dInt, mslice, runDef, outs, ssub, ssub2, mineAt, Slot.mine, Slot.put, mixO, mixO2, spar, sparN, sparO, snew, mmut, mmut2, mcallF, mcallIo, mcallIo2, wipeD, restD, calmAt, fLen, fInt, fAbs, fTuple, fList, opAdd, opSub, cmpLt, cmpLe, cmpGt, cmpGe, cmpIs, cmpIsNot, isNone, range1_ok hz.1 (show z ≤ 16777216 by omega)]) rfl ?_).trans ?_
  · intro v hv
    have ha : ∀ v : D, opAdd (tupI p) (.tuple [v]) = some (snocD (tupI p) v) := fun v => opAdd_tup (by simp; omega)
    refine ⟨rfl, ?_, rfl⟩
    simp only [mop, mbind, mvar, mtup, mcons, mnil, mret, mlift, List.getElem?_cons_succ, List.getElem?_cons_zero, List.length_cons, List.length_nil]
    rw [if_pos (by decide)]
    simp only [ha]
  · rw [List.map_map, List.map_map]
    have e : (List.map (snocD (tupI p) ∘ PyData.int) (rangeI z.toNat)) = List.map (tupI ∘ fun v => p ++ [v]) (rangeI z.toNat) := List.map_congr_left fun v _ => by simp [tupI, snocD]
    rw [e]
    rfl
theorem grow1_snoc (f : List (List Int)) (p : List Int) (z : Int) : grow1 (f ++ [p]) z = grow1 f z ++ (rangeI z.toNat).map fun v => p ++ [v] := by
  simp [grow1, List.flatMap_append]
theorem fExtend_ok {xs ys : List D} (h : xs.length + ys.length ≤ 16777216) : fExtend (.list xs) [.list ys] = some (.list (xs ++ ys), .none) := by
  show (if xs.length + ys.length ≤ sizeLine then some (PyData.list (xs ++ ys), PyData.none) else none) = _
  rw [if_pos (by rw [sizeLine_eq]; omega)]
theorem fAppend_ok {xs : List D} {y : D} (h : xs.length ≤ 16777215) : fAppend (.list xs) [y] = some (.list (xs ++ [y]), .none) := by
  show (if xs.length < sizeLine then some (PyData.list (xs ++ [y]), PyData.none) else none) = _
  rw [if_pos (by rw [sizeLine_eq]; omega)]
theorem e_law_packets {s : List Int} (h : SpOk s) : F_law_packets [.val (tupI s)] = .ok (.list ((pk s).map tupI)) [.val (tupI s)] := by
  have e0 : q_law_packets_0 ([.val (tupI s)] ++ List.replicate 5 .un) = .next [.val (tupI s), .val (.list [.tuple []]), .un, .un, .un, .un] := by simp [q_law_packets_0, mbind, mret, mvar, mop, mcall, mcons, mnil, mlift, mtup, mlst, mif, mand, mor, mnot, mandB, morB, mnotB, mtest, mtestB, truth, mbool, mchain, mneg, uNeg, sbind, sseq, sif, sret, sretN, sdrop, snext, sraise, sasg, tname, ttup, tcons, tnil, isIo, mitems, items, mrange, mpart, dInt, mslice, runDef, outs, ssub, ssub2, mineAt, Slot.mine, Slot.put, mixO, mixO2, spar, sparN, sparO, snew, mmut, mmut2, mcallF, mcallIo, mcallIo2, wipeD, restD, calmAt, fLen, fInt, fAbs, fTuple, fList, opAdd, opSub, cmpLt, cmpLe, cmpGt, cmpGe, cmpIs, cmpIsNot, isNone]
  obtain ⟨ρ', e1, x, y, w, _, rfl⟩ := sfor_inv (m := mitems (mvar 0)) (f := tname 2) (b := q_law_packets_1b) (ρ := [.val (tupI s), .val (.list [.tuple []]), .un, .un, .un, .un]) (ds := s.map .int) (ρ0 := [.val (tupI s), .val (.list [.tuple []]), .un, .un, .un, .un])
    (fun j ρ => ∃ x y w, (isIo (some x) = false ∧ isIo (some y) = false ∧ isIo (some w) = false) ∧ ρ = [.val (tupI s), .val (.list ((pk (s.take j)).map tupI)), x, y, w, .un]) (by simp [mbind, mret, mvar, mop, mcall, mcons, mnil, mlift, mtup, mlst, mif, mand, mor, mnot, mandB, morB, mnotB, mtest, mtestB, truth, mbool, mchain, mneg, uNeg, sbind, sseq, sif, sret, sretN, sdrop, snext, sraise, sasg, tname, ttup, tcons, tnil, isIo, mitems, items, mrange, mpart, dInt, mslice, runDef, outs, ssub, ssub2, mineAt, Slot.mine, Slot.put, mixO, mixO2, spar, sparN, sparO, snew, mmut, mmut2, mcallF, mcallIo, mcallIo2, wipeD, restD, calmAt, fLen, fInt, fAbs, fTuple, fList, opAdd, opSub, cmpLt, cmpLe, cmpGt, cmpGe, cmpIs, cmpIsNot, isNone, tupI]) ⟨.un, .un, .un, ⟨rfl, rfl, rfl⟩, rfl⟩ fun j d ρ hj ⟨x, y, w, ⟨hx, hy, hw⟩, e⟩ => by
      subst e
      rw [List.getElem?_map] at hj
      obtain ⟨z, hz, rfl⟩ := Option.map_eq_some_iff.mp hj
      have hm := h.all z (List.mem_of_getElem? hz)
      have ht : ∀ x ∈ s.take j, 2 ≤ x ∧ x ≤ 8 := fun x hx => h.all x (List.mem_of_mem_take hx)
      have hl : (pk (s.take j)).length ≤ 4096 := pk_len 4 (s.take j) (by have := h.four; simp; omega) ht
      have hf : ∀ p ∈ pk (s.take j), p.length ≤ 100 := fun p hp => by
        have := (mem_pk _ p hp).1
        have := h.four
        simp at *
        omega
      have e' : s.take (j + 1) = s.take j ++ [z] := by rw [List.take_add_one, hz]; rfl
      rw [e', pk_snoc]
      generalize pk (s.take j) = f at hl hf ⊢
      have f1 : tname 2 (.int z) ([.val (tupI s), .val (.list (f.map tupI)), x, y, w, .un] : DEnv) = some [.val (tupI s), .val (.list (f.map tupI)), .val (.int z), y, w, .un] := by
        cases x with
        | io _ => cases hx
        | _ => rfl
      have f2 : q_law_packets_1b0 ([.val (tupI s), .val (.list (f.map tupI)), .val (.int z), y, w, .un] : DEnv) = .next [.val (tupI s), .val (.list (f.map tupI)), .val (.int z), .own (.list []), w, .un] := by
        cases y with
        | io _ => cases hy
        | _ => simp [q_law_packets_1b0, mbind, mret, mvar, mop, mcall, mcons, mnil, mlift, mtup, mlst, mif, mand, mor, mnot, mandB, morB, mnotB, mtest, mtestB, truth, mbool, mchain, mneg, uNeg, sbind, sseq, sif, sret, sretN, sdrop, snext, sraise, sasg, tname, ttup, tcons, tnil, isIo, mitems, items, mrange, mpart, dInt, mslice, runDef, outs, ssub, ssub2, mineAt, Slot.mine, Slot.put, mixO, mixO2, spar, sparN, sparO, snew, mmut, mmut2, mcallF, mcallIo, mcallIo2, wipeD, restD, calmAt, fLen, fInt, fAbs, fTuple, fList, opAdd, opSub, cmpLt, cmpLe, cmpGt, cmpGe, cmpIs, cmpIsNot, isNone]
      obtain ⟨ρ2, f3, w2, hw2, rfl⟩ := sfor_inv (m := mitems (mvar 1)) (f := tname 4) (b := q_law_packets_1b1b) (ρ := [.val (tupI s), .val (.list (f.map tupI)), .val (.int z), .own (.list []), w, .un]) (ds := f.map tupI) (ρ0 := [.val (tupI s), .val (.list (f.map tupI)), .val (.int z), .own (.list []), w, .un])
        (fun i ρ => ∃ w, isIo (some w) = false ∧ ρ = [.val (tupI s), .val (.list (f.map tupI)), .val (.int z), .own (.list ((grow1 (f.take i) z).map tupI)), w, .un]) (by simp [mbind, mret, mvar, mop, mcall, mcons, mnil, mlift, mtup, mlst, mif, mand, mor, mnot, mandB, morB, mnotB, mtest, mtestB, truth, mbool, mchain, mneg, uNeg, sbind, sseq, sif, sret, sretN, sdrop, snext, sraise, sasg, tname, ttup, tcons, tnil, isIo, mitems, items, mrange, mpart, dInt, mslice, runDef, outs, ssub, ssub2, mineAt, Slot.mine, Slot.put, mixO, mixO2, spar, sparN, sparO, snew, mmut, mmut2, mcallF, mcallIo, mcallIo2, wipeD, restD, calmAt, fLen, fInt, fAbs, fTuple, fList, opAdd, opSub, cmpLt, cmpLe, cmpGt, cmpGe, cmpIs, cmpIsNot, isNone]) ⟨w, hw, rfl⟩ fun i d ρ hi ⟨w, hw, e⟩ => by
          subst e
          rw [List.getElem?_map] at hi
          obtain ⟨p, hp, rfl⟩ := Option.map_eq_some_iff.mp hi
          have hpl := hf p (List.mem_of_getElem? hp)
          have hi2 := (List.getElem?_eq_some_iff.mp hp).1
          refine ⟨[.val (tupI s), .val (.list (f.map tupI)), .val (.int z), .own (.list ((grow1 (f.take i) z).map tupI)), .val (tupI p), .un], [.val (tupI s), .val (.list (f.map tupI)), .val (.int z), .own (.list ((grow1 (f.take (i + 1)) z).map tupI)), .val (tupI p), .un], ?_, ?_, .val (tupI p), rfl, rfl⟩
          · cases w with
            | io _ => cases hw
            | _ => rfl
          · have e2 : f.take (i + 1) = f.take i ++ [p] := by rw [List.take_add_one, hp]; rfl
            have hz8 : z.toNat ≤ 8 := by omega
            have hg : (grow1 (f.take i) z).length ≤ 4096 * 8 := by
              rw [grow1_len]
              exact Nat.mul_le_mul (by simp; omega) hz8
            have hr : ((rangeI z.toNat).map fun v => p ++ [v]).length ≤ 8 := by simp [rangeI]; omega
            have hx := fExtend_ok (xs := (grow1 (f.take i) z).map tupI) (ys := ((rangeI z.toNat).map fun v => p ++ [v]).map tupI) (by rw [List.length_map, List.length_map]; omega)
            rw [e2, grow1_snoc, List.map_append]
            unfold q_law_packets_1b1b q_law_packets_1b1b0
            simp only [sdrop, sbind, mmut, mmut2, mineAt, Slot.mine, Option.map_some, tyD, mbind, mcons, mnil, mret, k_law_packets _ _ _ z p (by omega) hpl, List.getElem?_cons_succ, List.getElem?_cons_zero, hx, Slot.put, List.set_cons_succ, List.set_cons_zero, beq_self_eq_true, if_true]
      refine ⟨_, [.val (tupI s), .val (.list ((grow1 f z).map tupI)), .val (.int z), .val (.list ((grow1 f z).map tupI)), w2, .un], f1, ?_, .val (.int z), .val (.list ((grow1 f z).map tupI)), w2, ⟨rfl, rfl, hw2⟩, rfl⟩
      unfold q_law_packets_1b
      rw [sseq_next f2]
      have f4 : q_law_packets_1b1 [.val (tupI s), .val (.list (f.map tupI)), .val (.int z), .own (.list []), w, .un] = .next _ := f3
      rw [sseq_next f4]
      rw [List.length_map, List.take_length]
      simp [q_law_packets_1b2, mbind, mret, mvar, mop, mcall, mcons, mnil, mlift, mtup, mlst, mif, mand, mor, mnot, mandB, morB, mnotB, mtest, mtestB, truth, mbool, mchain, mneg, uNeg, sbind, sseq, sif, sret, sretN, sdrop, snext, sraise, sasg, tname, ttup, tcons, tnil, isIo, mitems, items, mrange, mpart, dInt, mslice, runDef, outs, ssub, ssub2, mineAt, Slot.mine, Slot.put, mixO, mixO2, spar, sparN, sparO, snew, mmut, mmut2, mcallF, mcallIo, mcallIo2, wipeD, restD, calmAt, fLen, fInt, fAbs, fTuple, fList, opAdd, opSub, cmpLt, cmpLe, cmpGt, cmpGe, cmpIs, cmpIsNot, isNone]
  unfold F_law_packets runDef b_law_packets q_law_packets_
  rw [sseq_next e0]
  have e2 : q_law_packets_1 [.val (tupI s), .val (.list [.tuple []]), .un, .un, .un, .un] = .next _ := e1
  rw [sseq_next e2]
  simp [q_law_packets_2, mbind, mret, mvar, mop, mcall, mcons, mnil, mlift, mtup, mlst, mif, mand, mor, mnot, mandB, morB, mnotB, mtest, mtestB, truth, mbool, mchain, mneg, uNeg, sbind, sseq, sif, sret, sretN, sdrop, snext, sraise, sasg, tname, ttup, tcons, tnil, isIo, mitems, items, mrange, mpart, dInt, mslice, runDef, outs, ssub, ssub2, mineAt, Slot.mine, Slot.put, mixO, mixO2, spar, sparN, sparO, snew, mmut, mmut2, mcallF, mcallIo, mcallIo2, wipeD, restD, calmAt, fLen, fInt, fAbs, fTuple, fList, opAdd, opSub, cmpLt, cmpLe, cmpGt, cmpGe, cmpIs, cmpIsNot, isNone]
end Lw
namespace Lw
open PySem PySem.Spec PyProof.Rows L2 RZ LamX PL
open PySem.W (Frag)
theorem tname_ok {i : Nat} {d : D} {ρ : DEnv} (h : isIo ρ[i]? = false) : tname i d ρ = some (ρ.set i (.val d)) := by
  unfold tname
  rw [if_neg (by simp [h])]
theorem cmpNe_tup (p q : List Int) : cmpNe (tupI p) (tupI q) = some (.bool (!decide (p = q))) := by
  rw [cmpNe_of (Shp.tup p) (Shp.tup q), eqv_tup]
theorem cmpEq_tup (p q : List Int) : cmpEq (tupI p) (tupI q) = some (.bool (decide (p = q))) := by
  rw [cmpEq_of (Shp.tup p) (Shp.tup q), eqv_tup]
/-- packet[:field] + (value,) + packet[field + 1:] -/
theorem put_run {ρ : DEnv} {a b c : Nat} {p : List Int} {i : Nat} {v : Int} (h1 : ρ[a]? = some (.val (tupI p))) (h2 : ρ[b]? = some (.val (.int i))) (h3 : ρ[c]? = some (.val (.int v))) (hi : i < p.length) (hl : p.length ≤ 100) :
    mop opAdd (mop opAdd (mslice (mvar a) (mret none) (mpart (mvar b))) (mtup (mcons (mvar c) (mnil)))) (mslice (mvar a) (mpart (mop opAdd (mvar b) (mret (.int 1)))) (mret none)) ρ = .ok (tupI (p.set i v)) ρ := by
  have a1 : opAdd (.tuple ((p.map .int).take i)) (.tuple [.int v]) = some (.tuple ((p.map .int).take i ++ [.int v])) := opAdd_tup (by simp; omega)
  have a2 : opAdd (.tuple ((p.map .int).take i ++ [.int v])) (.tuple ((p.map .int).drop (i + 1))) = some (.tuple ((p.map .int).take i ++ [.int v] ++ (p.map .int).drop (i + 1))) := opAdd_tup (by simp; omega)
  have c1 := cutD_take (p.map .int) i (by simp; omega)
  have c2 : PL.cutD (p.map .int) (some ((i : Int) + 1)) none = (p.map .int).drop (i + 1) := cutD_drop (p.map .int) (i + 1) (by simp; omega)
  have e := set_eq (p.map .int) i (PyData.int v) (by simpa using hi)
  rw [← List.map_set] at e
  simp only [mop, mbind, mslice, mvar, h1, h2, h3, mpart, mret, mlift, dInt, fSlice, c1, c2, mtup, mcons, mnil, List.length_cons, List.length_nil, a1, if_pos (show 0 + 1 ≤ 1000 by decide), show opAdd (.int i) (.int 1) = some (PyData.int ((i : Int) + 1)) from rfl, a2, e]
/-- the slots of turned_right -/
def tr (h : D) (s p : List Int) (P : D) (x4 x5 x6 x7 : Slot) : DEnv := [.io h, .val (tupI s), .val P, .val (tupI p), x4, x5, x6, x7, .un, .un, .un, .un, .un]
def nI (x : Slot) : Prop := isIo (some x) = false
theorem fIx_tup {p : List Int} {i : Nat} {v : Int} (h : p[i]? = some v) : fIx (tupI p) (.int i) = some (.int v) := by
  have hi := (List.getElem?_eq_some_iff.mp h).1
  show atI (p.map PyData.int) i = _
  rw [atI_ok (by omega) (by simpa using hi), Int.toNat_natCast, List.getElem?_map, h]
  rfl
theorem tr_in {h : D} {s p : List Int} {P : D} {x7 : Slot} (ok : SpOk s) (hp : isPk s (tupI p) = true) {i : Nat} {z v u : Int} (hz : s[i]? = some z) (hu : p[i]? = some u) (hv : 0 ≤ v ∧ v < z) (h7 : nI x7) :
    q_law_are_turned_right_1b0b (tr h s p P (.val (.int i)) (.val (.int z)) (.val (.int v)) x7) = .next (tr h s p P (.val (.int i)) (.val (.int z)) (.val (.int v)) (.val (tupI (p.set i v)))) := by
  have hl := (isPkL_iff.mp hp).1
  have h4 := ok.four
  have hi := (List.getElem?_eq_some_iff.mp hz).1
  have hu2 := (isPkL_iff.mp hp).2 i u z hu hz
  have e0 : q_law_are_turned_right_1b0b0 (tr h s p P (.val (.int i)) (.val (.int z)) (.val (.int v)) x7) = .next (tr h s p P (.val (.int i)) (.val (.int z)) (.val (.int v)) (.val (tupI (p.set i v)))) := by
    have h7 : isIo (some x7) = false := h7
    simp [q_law_are_turned_right_1b0b0, tr, sasg, sbind, mcallF, mbind, mcons, mnil, mvar, mret, e_with ok hp hz hv, tname, h7]
  have ht := isPk_set hp hz hv
  have e1 : q_law_are_turned_right_1b0b1 (tr h s p P (.val (.int i)) (.val (.int z)) (.val (.int v)) (.val (tupI (p.set i v)))) = .next (tr h s p P (.val (.int i)) (.val (.int z)) (.val (.int v)) (.val (tupI (p.set i v)))) := by
    have hput := put_run (ρ := tr h s p P (.val (.int i)) (.val (.int z)) (.val (.int v)) (.val (tupI (p.set i v)))) (a := 3) (b := 4) (c := 6) rfl rfl rfl (by omega) (by omega)
    have hne : mtestB (mop cmpNe (mvar 7) (mop opAdd (mop opAdd (mslice (mvar 3) (mret none) (mpart (mvar 4))) (mtup (mcons (mvar 6) (mnil)))) (mslice (mvar 3) (mpart (mop opAdd (mvar 4) (mret (.int 1)))) (mret none)))) (tr h s p P (.val (.int i)) (.val (.int z)) (.val (.int v)) (.val (tupI (p.set i v)))) = .ok false (tr h s p P (.val (.int i)) (.val (.int z)) (.val (.int v)) (.val (tupI (p.set i v)))) := by
      refine mtestB_ok (mop_ok (mvar_ok rfl) hput ?_)
      rw [cmpNe_tup]
      simp
    have hpk : mtestB (mop cmpIsNot (mcallF F_is_packet (mcons (mvar 1) (mcons (mvar 7) (mnil)))) (mret (.bool true))) (tr h s p P (.val (.int i)) (.val (.int z)) (.val (.int v)) (.val (tupI (p.set i v)))) = .ok false (tr h s p P (.val (.int i)) (.val (.int z)) (.val (.int v)) (.val (tupI (p.set i v)))) := by
      simp [tr, mtestB, mop, mbind, mcallF, mcons, mnil, mvar, mret, e_is_packet ok, ht, mlift, cmpIsNot, mbool]
    unfold q_law_are_turned_right_1b0b1
    rw [sif_f (by rw [morB_f hne]; exact hpk)]
    rfl
  have e2 : q_law_are_turned_right_1b0b2 (tr h s p P (.val (.int i)) (.val (.int z)) (.val (.int v)) (.val (tupI (p.set i v)))) = .next (tr h s p P (.val (.int i)) (.val (.int z)) (.val (.int v)) (.val (tupI (p.set i v)))) := by
    have hw := e_with ok ht hz hu2
    have hb : (p.set i v).set i u = p := by
      rw [List.set_set]
      apply List.ext_getElem?
      intro j
      rw [List.getElem?_set]
      split
      · rename_i e; subst e; rw [if_pos (by omega), hu]
      · rfl
    rw [hb] at hw
    simp [q_law_are_turned_right_1b0b2, tr, sif, sbind, mtestB, mop, mbind, mcallF, mcons, mnil, mvar, mret, mixO, mlift, fIx_tup hu, hw, cmpNe_tup, mbool, snext]
  unfold q_law_are_turned_right_1b0b
  rw [sseq_next e0, sseq_next e1, e2]
end Lw
namespace Lw
open PySem PySem.Spec PyProof.Rows L2 RZ LamX PL
open PySem.W (Frag)
theorem mem_rangeIs {n : Nat} {d : D} (h : d ∈ (rangeI n).map PyData.int) : ∃ v : Int, d = .int v ∧ 0 ≤ v ∧ v < n := by
  obtain ⟨v, hv, rfl⟩ := List.mem_map.mp h
  exact ⟨v, rfl, mem_rangeI.mp hv⟩
theorem mem_enum {s : List Int} {d : D} (h : d ∈ enumD (s.map PyData.int)) : ∃ (i : Nat) (z : Int), d = .tuple [.int i, .int z] ∧ s[i]? = some z := by
  unfold enumD at h
  obtain ⟨k, hk⟩ := List.mem_iff_getElem?.mp h
  obtain ⟨a, b, ha, hb, rfl⟩ := zipD_get hk
  obtain ⟨_, rfl⟩ := rangeD_get ha
  rw [List.getElem?_map] at hb
  obtain ⟨z, hz, rfl⟩ := Option.map_eq_some_iff.mp hb
  exact ⟨k, z, by simp, hz⟩
theorem tr_all {h : D} {s p : List Int} {P : D} (ok : SpOk s) (hp : isPk s (tupI p) = true) :
    ∃ x4 x5 x6 x7, q_law_are_turned_right_1 (tr h s p P .un .un .un .un) = .next (tr h s p P x4 x5 x6 x7) := by
  have hl := (isPkL_iff.mp hp).1
  obtain ⟨ρ', e, x4, x5, x6, x7, _, _, _, _, rfl⟩ := sfor_all (m := mrange enum1 (mcons (mvar 1) (mnil))) (f := ttup 2 (tcons (tname 4) (tcons (tname 5) (tnil)))) (b := q_law_are_turned_right_1b) (ρ := tr h s p P .un .un .un .un) (ρ0 := tr h s p P .un .un .un .un) (ds := enumD (s.map PyData.int))
    (fun ρ => ∃ x4 x5 x6 x7, nI x4 ∧ nI x5 ∧ nI x6 ∧ nI x7 ∧ ρ = tr h s p P x4 x5 x6 x7) (by simp [tr, mrange, mbind, mcons, mnil, mvar, mret, mlift, enum1]) ⟨.un, .un, .un, .un, rfl, rfl, rfl, rfl, rfl⟩ fun d ρ hd ⟨x4, x5, x6, x7, h4, h5, h6, h7, e⟩ => by
      subst e
      obtain ⟨i, z, rfl, hz⟩ := mem_enum hd
      have hzz := ok.all z (List.mem_of_getElem? hz)
      have hi := (List.getElem?_eq_some_iff.mp hz).1
      obtain ⟨u, hu⟩ : ∃ u, p[i]? = some u := ⟨_, List.getElem?_eq_getElem (by omega)⟩
      have f1 : ttup 2 (tcons (tname 4) (tcons (tname 5) (tnil))) (.tuple [.int i, .int z]) (tr h s p P x4 x5 x6 x7) = some (tr h s p P (.val (.int i)) (.val (.int z)) x6 x7) := by
        have h4 : isIo (some x4) = false := h4
        have h5 : isIo (some x5) = false := h5
        simp [ttup, tcons, tnil, tname, tr, h4, h5]
      obtain ⟨ρ2, e2, y6, y7, _, _, rfl⟩ := sfor_all (m := mrange range1 (mcons (mvar 5) (mnil))) (f := tname 6) (b := q_law_are_turned_right_1b0b) (ρ := tr h s p P (.val (.int i)) (.val (.int z)) x6 x7) (ρ0 := tr h s p P (.val (.int i)) (.val (.int z)) x6 x7) (ds := (rangeI z.toNat).map .int)
        (fun ρ => ∃ x6 x7, nI x6 ∧ nI x7 ∧ ρ = tr h s p P (.val (.int i)) (.val (.int z)) x6 x7) (by simp [tr, mrange, mbind, mcons, mnil, mvar, mret, mlift, range1_ok (show 0 ≤ z by omega) (show z ≤ 16777216 by omega)]) ⟨x6, x7, h6, h7, rfl⟩ fun d ρ hd ⟨x6, x7, h6, h7, e⟩ => by
          subst e
          obtain ⟨v, rfl, hv0, hv1⟩ := mem_rangeIs hd
          exact ⟨tr h s p P (.val (.int i)) (.val (.int z)) (.val (.int v)) x7, _, tname_ok h6, tr_in ok hp hz hu ⟨hv0, by omega⟩ h7, .val (.int v), .val (tupI (p.set i v)), rfl, rfl, rfl⟩
      exact ⟨_, _, f1, e2, .val (.int i), .val (.int z), y6, y7, rfl, rfl, ‹_›, ‹_›, rfl⟩
  exact ⟨x4, x5, x6, x7, e⟩
theorem e_law_turned {s : List Int} (ok : SpOk s) {h : D} (hh : HandOk h) : ∃ h', HandOk h' ∧ F_law_are_turned_right [.io h, .val (tupI s), .val (.list ((pk s).map tupI))] = .ok (.bool true) [.io h', .val (tupI s), .val (.list ((pk s).map tupI))] := by
  have h4 := ok.four
  have h1 := ok.one
  have hlp : (pk s).length ≤ 4096 := pk_len 4 s h4 ok.all
  have hne : (pk s).map tupI ≠ [] := by
    intro e
    have : ∀ s : List Int, (∀ x ∈ s, 2 ≤ x ∧ x ≤ 8) → 1 ≤ (pk s).length := by
      refine snoc_ind (fun _ => by decide) fun t z ih h => ?_
      rw [pk_snoc, grow1_len]
      have := ih fun x hx => h x (by simp [hx])
      have := h z (by simp)
      exact Nat.mul_pos (by omega) (by omega)
    have q := this s ok.all
    rw [List.map_eq_nil_iff] at e
    rw [e] at q
    exact absurd q (by decide)
  obtain ⟨d, g1, hd, ho1, e1⟩ := e_law_any h _ hh hne (by rw [List.length_map]; omega)
  obtain ⟨p, hpm, rfl⟩ := List.mem_map.mp hd
  have hp := isPk_pk hpm
  have hl := (isPkL_iff.mp hp).1
  generalize hP : PyData.list ((pk s).map tupI) = P at *
  have s0 : q_law_are_turned_right_0 ([.io h, .val (tupI s), .val P] ++ List.replicate 10 .un) = .next (tr g1 s p P .un .un .un .un) := by
    simp [q_law_are_turned_right_0, tr, mbind, mret, mvar, mop, mcall, mcons, mnil, mlift, mtup, mlst, mif, mand, mor, mnot, mandB, morB, mnotB, mtest, mtestB, truth, mbool, mchain, mneg, uNeg, sbind, sseq, sif, sret, sretN, sdrop, snext, sraise, sasg, tname, ttup, tcons, tnil, isIo, mitems, items, mrange, mpart, dInt, mslice, runDef, outs, ssub, ssub2, mineAt, Slot.mine, Slot.put, mixO, mixO2, spar, sparN, sparO, snew, mmut, mmut2, mcallF, mcallIo, mcallIo2, wipeD, restD, calmAt, fLen, fInt, fAbs, fTuple, fList, opAdd, opSub, cmpLt, cmpLe, cmpGt, cmpGe, cmpIs, cmpIsNot, isNone, e1]
  obtain ⟨x4, x5, x6, x7, s1⟩ := tr_all (h := g1) (P := P) ok hp
  obtain ⟨a, g2, a0, a1, ho2, e2⟩ := e_law_draw g1 s.length ho1 (by omega) (by omega)
  obtain ⟨b, g3, b0, b1, ho3, e3⟩ := e_law_draw g2 s.length ho2 (by omega) (by omega)
  obtain ⟨i, rfl⟩ : ∃ i : Nat, a = i := ⟨a.toNat, by omega⟩
  obtain ⟨j, rfl⟩ : ∃ j : Nat, b = j := ⟨b.toNat, by omega⟩
  obtain ⟨z, hz⟩ : ∃ z, s[i]? = some z := ⟨_, List.getElem?_eq_getElem (by omega)⟩
  obtain ⟨w, hw⟩ : ∃ w, s[j]? = some w := ⟨_, List.getElem?_eq_getElem (by omega)⟩
  have hzz := ok.all z (List.mem_of_getElem? hz)
  have hww := ok.all w (List.mem_of_getElem? hw)
  obtain ⟨u, g4, u0, u1, ho4, e4⟩ := e_law_draw g3 z ho3 (by omega) (by omega)
  obtain ⟨v, g5, v0, v1, ho5, e5⟩ := e_law_draw g4 w ho4 (by omega) (by omega)
  have s2 : q_law_are_turned_right_2 (tr g1 s p P x4 x5 x6 x7) = .next [.io g3, .val (tupI s), .val P, .val (tupI p), x4, x5, x6, x7, .val (.int i), .val (.int j), .un, .un, .un] := by
    simp [q_law_are_turned_right_2, tr, mbind, mret, mvar, mop, mcall, mcons, mnil, mlift, mtup, mlst, mif, mand, mor, mnot, mandB, morB, mnotB, mtest, mtestB, truth, mbool, mchain, mneg, uNeg, sbind, sseq, sif, sret, sretN, sdrop, snext, sraise, sasg, tname, ttup, tcons, tnil, isIo, mitems, items, mrange, mpart, dInt, mslice, runDef, outs, ssub, ssub2, mineAt, Slot.mine, Slot.put, mixO, mixO2, spar, sparN, sparO, snew, mmut, mmut2, mcallF, mcallIo, mcallIo2, wipeD, restD, calmAt, fLen, fInt, fAbs, fTuple, fList, opAdd, opSub, cmpLt, cmpLe, cmpGt, cmpGe, cmpIs, cmpIsNot, isNone, e2, e3]
  have s3 : q_law_are_turned_right_3 [.io g3, .val (tupI s), .val P, .val (tupI p), x4, x5, x6, x7, .val (.int i), .val (.int j), .un, .un, .un] = .next [.io g5, .val (tupI s), .val P, .val (tupI p), x4, x5, x6, x7, .val (.int i), .val (.int j), .val (.int u), .val (.int v), .un] := by
    simp [q_law_are_turned_right_3, mbind, mret, mvar, mop, mcall, mcons, mnil, mlift, mtup, mlst, mif, mand, mor, mnot, mandB, morB, mnotB, mtest, mtestB, truth, mbool, mchain, mneg, uNeg, sbind, sseq, sif, sret, sretN, sdrop, snext, sraise, sasg, tname, ttup, tcons, tnil, isIo, mitems, items, mrange, mpart, dInt, mslice, runDef, outs, ssub, ssub2, mineAt, Slot.mine, Slot.put, mixO, mixO2, spar, sparN, sparO, snew, mmut, mmut2, mcallF, mcallIo, mcallIo2, wipeD, restD, calmAt, fLen, fInt, fAbs, fTuple, fList, opAdd, opSub, cmpLt, cmpLe, cmpGt, cmpGe, cmpIs, cmpIsNot, isNone, fIx_tup hz, fIx_tup hw, e4, e5]
  have w1 := e_with ok hp hz ⟨u0, u1⟩
  have w2 := e_with ok (isPk_set hp hz ⟨u0, u1⟩) hw ⟨v0, v1⟩
  have w3 := e_with ok hp hw ⟨v0, v1⟩
  have w4 := e_with ok (isPk_set hp hw ⟨v0, v1⟩) hz ⟨u0, u1⟩
  have s4 : q_law_are_turned_right_4 [.io g5, .val (tupI s), .val P, .val (tupI p), x4, x5, x6, x7, .val (.int i), .val (.int j), .val (.int u), .val (.int v), .un] = .next [.io g5, .val (tupI s), .val P, .val (tupI p), x4, x5, x6, x7, .val (.int i), .val (.int j), .val (.int u), .val (.int v), .val (tupI ((p.set i u).set j v))] := by
    simp [q_law_are_turned_right_4, mbind, mret, mvar, mop, mcall, mcons, mnil, mlift, mtup, mlst, mif, mand, mor, mnot, mandB, morB, mnotB, mtest, mtestB, truth, mbool, mchain, mneg, uNeg, sbind, sseq, sif, sret, sretN, sdrop, snext, sraise, sasg, tname, ttup, tcons, tnil, isIo, mitems, items, mrange, mpart, dInt, mslice, runDef, outs, ssub, ssub2, mineAt, Slot.mine, Slot.put, mixO, mixO2, spar, sparN, sparO, snew, mmut, mmut2, mcallF, mcallIo, mcallIo2, wipeD, restD, calmAt, fLen, fInt, fAbs, fTuple, fList, opAdd, opSub, cmpLt, cmpLe, cmpGt, cmpGe, cmpIs, cmpIsNot, isNone, w1, w2]
  refine ⟨g5, ho5, ?_⟩
  unfold F_law_are_turned_right runDef b_law_are_turned_right q_law_are_turned_right_
  rw [sseq_next s0, sseq_next s1, sseq_next s2, sseq_next s3, sseq_next s4]
  by_cases hij : i = j
  · subst hij
    have e : (p.set i u).set i v = p.set i v := List.set_set ..
    rw [e]
    simp [q_law_are_turned_right_5, mbind, mret, mvar, mop, mcall, mcons, mnil, mlift, mtup, mlst, mif, mand, mor, mnot, mandB, morB, mnotB, mtest, mtestB, truth, mbool, mchain, mneg, uNeg, sbind, sseq, sif, sret, sretN, sdrop, snext, sraise, sasg, tname, ttup, tcons, tnil, isIo, mitems, items, mrange, mpart, dInt, mslice, runDef, outs, ssub, ssub2, mineAt, Slot.mine, Slot.put, mixO, mixO2, spar, sparN, sparO, snew, mmut, mmut2, mcallF, mcallIo, mcallIo2, wipeD, restD, calmAt, fLen, fInt, fAbs, fTuple, fList, opAdd, opSub, cmpLt, cmpLe, cmpGt, cmpGe, cmpIs, cmpIsNot, isNone, cmpEq_int, w3, cmpEq_tup]
  · have hij' : ¬ ((i : Int) = j) := by omega
    have e : (p.set i u).set j v = (p.set j v).set i u := List.set_comm _ _ hij
    rw [e]
    have s5 : q_law_are_turned_right_5 [.io g5, .val (tupI s), .val P, .val (tupI p), x4, x5, x6, x7, .val (.int i), .val (.int j), .val (.int u), .val (.int v), .val (tupI ((p.set j v).set i u))] = .next [.io g5, .val (tupI s), .val P, .val (tupI p), x4, x5, x6, x7, .val (.int i), .val (.int j), .val (.int u), .val (.int v), .val (tupI ((p.set j v).set i u))] := by
      simp [q_law_are_turned_right_5, mbind, mret, mvar, mop, mcall, mcons, mnil, mlift, mtup, mlst, mif, mand, mor, mnot, mandB, morB, mnotB, mtest, mtestB, truth, mbool, mchain, mneg, uNeg, sbind, sseq, sif, sret, sretN, sdrop, snext, sraise, sasg, tname, ttup, tcons, tnil, isIo, mitems, items, mrange, mpart, dInt, mslice, runDef, outs, ssub, ssub2, mineAt, Slot.mine, Slot.put, mixO, mixO2, spar, sparN, sparO, snew, mmut, mmut2, mcallF, mcallIo, mcallIo2, wipeD, restD, calmAt, fLen, fInt, fAbs, fTuple, fList, opAdd, opSub, cmpLt, cmpLe, cmpGt, cmpGe, cmpIs, cmpIsNot, isNone, cmpEq_int, hij']
    rw [sseq_next s5]
    simp [q_law_are_turned_right_6, mbind, mret, mvar, mop, mcall, mcons, mnil, mlift, mtup, mlst, mif, mand, mor, mnot, mandB, morB, mnotB, mtest, mtestB, truth, mbool, mchain, mneg, uNeg, sbind, sseq, sif, sret, sretN, sdrop, snext, sraise, sasg, tname, ttup, tcons, tnil, isIo, mitems, items, mrange, mpart, dInt, mslice, runDef, outs, ssub, ssub2, mineAt, Slot.mine, Slot.put, mixO, mixO2, spar, sparN, sparO, snew, mmut, mmut2, mcallF, mcallIo, mcallIo2, wipeD, restD, calmAt, fLen, fInt, fAbs, fTuple, fList, opAdd, opSub, cmpLt, cmpLe, cmpGt, cmpGe, cmpIs, cmpIsNot, isNone, w3, w4, cmpEq_tup]
end Lw
namespace Lw
open PySem PySem.Spec PyProof.Rows L2 RZ LamX PL
open PySem.W (Frag)
theorem cloop_ix {vs : List Nat} {f : TgF} {e : M D} (I : List D → DEnv → Prop) : ∀ (ds acc : List D) (ρ : DEnv), I acc ρ →
    (∀ (j : Nat) (d : D), ds[j]? = some d → ∀ acc' ρ, acc'.length = acc.length + j → I acc' ρ → ∃ ρ1 y ρ2, f d ρ = some ρ1 ∧ e ρ1 = .ok y ρ2 ∧ I (acc' ++ [y]) (wipeD ρ2 vs)) → ∃ acc' ρ', cloop vs f (mret true) e ds acc ρ = .ok acc' ρ' ∧ I acc' ρ' ∧ acc'.length = acc.length + ds.length
  | [], acc, ρ, h, _ => ⟨acc, ρ, rfl, h, rfl⟩
  | d :: r, acc, ρ, h, hs => by
    obtain ⟨ρ1, y, ρ2, h1, h2, h3⟩ := hs 0 d rfl acc ρ rfl h
    obtain ⟨acc', ρ', h4, h5, h6⟩ := cloop_ix I r (acc ++ [y]) (wipeD ρ2 vs) h3 fun j x hx acc' σ hl hI => hs (j + 1) x (by simpa using hx) acc' σ (by rw [hl]; simp; omega) hI
    refine ⟨acc', ρ', ?_, h5, by rw [h6]; simp; omega⟩
    unfold cloop
    simp only [h1, mret, h2, h4]
theorem isCuL_snoc : ∀ {ds : List D} {s : List Int} {d : D} {z : Int}, ds.length = s.length → isCuL (ds ++ [d]) (s ++ [z]) = (isCuL ds s && (isNone d || isIn d 0 (z - 1)))
  | [], [], d, z, _ => by simp [isCuL]
  | [], _ :: _, _, _, h => by cases h
  | _ :: _, [], _, _, h => by cases h
  | d' :: ds, z' :: s, d, z, h => by
    have ih := isCuL_snoc (ds := ds) (s := s) (d := d) (z := z) (by simpa using h)
    show ((isNone d' || isIn d' 0 (z' - 1)) && isCuL (ds ++ [d]) (s ++ [z])) = _
    rw [ih, ← Bool.and_assoc]
    rfl
def cr (h : D) (s : List Int) (P : D) (x3 x4 x5 x6 : Slot) : DEnv := [.io h, .val (tupI s), .val P, x3, x4, x5, x6, .un, .un]
theorem k_cube0 {s : List Int} (ok : SpOk s) {h : D} (hh : HandOk h) (P : D) (x3 : Slot) (b : Int) (x5 x6 : Slot) : ∃ (c : List (Option Int)) (h' : D), HandOk h' ∧ isCu s (cuD c) = true ∧ k_law_are_cubes_right_0 (cr h s P x3 (.val (.int b)) x5 x6) = .ok (.list (c.map optD)) (cr h' s P x3 (.val (.int b)) x5 x6) := by
  obtain ⟨acc, ρ', e, ⟨h', c, ho, rfl, hc, rfl⟩, hl⟩ := cloop_ix (vs := [7]) (f := tname 7) (e := mif (mtestB (mop cmpLt (mcallIo F_law_draw 0 (mcons (mret (.int 3)) (mnil))) (mvar 4))) (mret .none) (mcallIo F_law_draw 0 (mcons (mvar 7) (mnil)))) (fun acc ρ => ∃ h c, HandOk h ∧ acc = c.map optD ∧ isCuL acc (s.take acc.length) = true ∧ ρ = cr h s P x3 (.val (.int b)) x5 x6)
    (s.map .int) [] (cr h s P x3 (.val (.int b)) x5 x6) ⟨h, [], hh, rfl, rfl, rfl⟩ fun j d hj acc ρ hl ⟨h, c, ho, e, hc, er⟩ => by
      subst e er
      rw [List.length_nil, Nat.zero_add] at hl
      rw [List.getElem?_map] at hj
      obtain ⟨z, hz, rfl⟩ := Option.map_eq_some_iff.mp hj
      have hzz := ok.all z (List.mem_of_getElem? hz)
      have hj2 := (List.getElem?_eq_some_iff.mp hz).1
      have ht : s.take (j + 1) = s.take j ++ [z] := by rw [List.take_add_one, hz]; rfl
      obtain ⟨u, g1, u0, u1, ho1, e1⟩ := e_law_draw h 3 ho (by omega) (by omega)
      have f1 : tname 7 (.int z) (cr h s P x3 (.val (.int b)) x5 x6) = some [.io h, .val (tupI s), .val P, x3, .val (.int b), x5, x6, .val (.int z), .un] := rfl
      by_cases hub : u < b
      · refine ⟨_, .none, [.io g1, .val (tupI s), .val P, x3, .val (.int b), x5, x6, .val (.int z), .un], f1, by simp [mbind, mret, mvar, mop, mcall, mcons, mnil, mlift, mtup, mlst, mif, mand, mor, mnot, mandB, morB, mnotB, mtest, mtestB, truth, mbool, mchain, mneg, uNeg, sbind, sseq, sif, sret, sretN, sdrop, snext, sraise, sasg, tname, ttup, tcons, tnil, isIo, mitems, items, mrange, mpart, dInt, mslice, runDef, outs, ssub, ssub2, mineAt, Slot.mine, Slot.put, mixO, mixO2, spar, sparN, sparO, snew, mmut, mmut2, mcallF, mcallIo, mcallIo2, wipeD, restD, calmAt, fLen, fInt, fAbs, fTuple, fList, opAdd, opSub, cmpLt, cmpLe, cmpGt, cmpGe, cmpIs, cmpIsNot, isNone, e1, hub], g1, c ++ [none], ho1, by simp [optD], ?_, rfl⟩
        rw [List.length_append, hl]
        show isCuL _ (s.take (j + 1)) = true
        rw [ht, isCuL_snoc (by rw [hl]; simp; omega), ← hl, hc]
        rfl
      · obtain ⟨v, g2, v0, v1, ho2, e2⟩ := e_law_draw g1 z ho1 (by omega) (by omega)
        refine ⟨_, .int v, [.io g2, .val (tupI s), .val P, x3, .val (.int b), x5, x6, .val (.int z), .un], f1, by simp [mbind, mret, mvar, mop, mcall, mcons, mnil, mlift, mtup, mlst, mif, mand, mor, mnot, mandB, morB, mnotB, mtest, mtestB, truth, mbool, mchain, mneg, uNeg, sbind, sseq, sif, sret, sretN, sdrop, snext, sraise, sasg, tname, ttup, tcons, tnil, isIo, mitems, items, mrange, mpart, dInt, mslice, runDef, outs, ssub, ssub2, mineAt, Slot.mine, Slot.put, mixO, mixO2, spar, sparN, sparO, snew, mmut, mmut2, mcallF, mcallIo, mcallIo2, wipeD, restD, calmAt, fLen, fInt, fAbs, fTuple, fList, opAdd, opSub, cmpLt, cmpLe, cmpGt, cmpGe, cmpIs, cmpIsNot, isNone, e1, hub, e2], g2, c ++ [some v], ho2, by simp [optD], ?_, rfl⟩
        rw [List.length_append, hl]
        show isCuL _ (s.take (j + 1)) = true
        rw [ht, isCuL_snoc (by rw [hl]; simp; omega), ← hl, hc]
        simp [isNone, isIn, v0]
        omega
  refine ⟨c, h', ho, ?_, ?_⟩
  · have hl' : c.length = s.length := by simpa using hl
    rw [List.length_map, hl', List.take_length] at hc
    exact hc
  · unfold k_law_are_cubes_right_0 mcomp
    rw [mbind_ok (a := s.map .int) (ρ1 := cr h s P x3 (.val (.int b)) x5 x6) (by simp [cr, mbind, mret, mvar, mop, mcall, mcons, mnil, mlift, mtup, mlst, mif, mand, mor, mnot, mandB, morB, mnotB, mtest, mtestB, truth, mbool, mchain, mneg, uNeg, sbind, sseq, sif, sret, sretN, sdrop, snext, sraise, sasg, tname, ttup, tcons, tnil, isIo, mitems, items, mrange, mpart, dInt, mslice, runDef, outs, ssub, ssub2, mineAt, Slot.mine, Slot.put, mixO, mixO2, spar, sparN, sparO, snew, mmut, mmut2, mcallF, mcallIo, mcallIo2, wipeD, restD, calmAt, fLen, fInt, fAbs, fTuple, fList, opAdd, opSub, cmpLt, cmpLe, cmpGt, cmpGe, cmpIs, cmpIsNot, isNone])]
    unfold mcomp2
    rw [if_pos (show calmAt (cr h s P x3 (.val (.int b)) x5 x6) [7] = true from rfl)]
    have e' : cloop [7] (tname 7) (mret true) (mif (mtestB (mop cmpLt (mcallIo F_law_draw 0 (mcons (mret (.int 3)) (mnil))) (mvar 4))) (mret .none) (mcallIo F_law_draw 0 (mcons (mvar 7) (mnil)))) (s.map .int) [] (wipeD (cr h s P x3 (.val (.int b)) x5 x6) [7]) = _ := e
    rw [e']
    rfl
theorem k_cube1 {s : List Int} (c : List (Option Int)) (h : D) (x3 x4 x6 : Slot) : k_law_are_cubes_right_1 (cr h s (.list ((pk s).map tupI)) x3 x4 (.val (cuD c)) x6) = .ok (.list (((pk s).filter (hasC c)).map tupI)) (cr h s (.list ((pk s).map tupI)) x3 x4 (.val (cuD c)) x6) := by
  have e : ((pk s).filter (hasC c)).map tupI = (((pk s).map tupI).filter fun d => match d with | .tuple ds => hasC c (ds.map toI) | _ => false).map id := by
    rw [List.filter_map, List.map_id]
    congr 1
    refine List.filter_congr fun p _ => ?_
    show hasC c p = hasC c ((p.map PyData.int).map toI)
    rw [map_toI]
  rw [e]
  refine (mcomp_pure _ id (fun d => [.io h, .val (tupI s), .val (.list ((pk s).map tupI)), x3, x4, .val (cuD c), x6, .un, .val d]) (ρ0 := cr h s (.list ((pk s).map tupI)) x3 x4 (.val (cuD c)) x6) (ds := (pk s).map tupI) (by simp [cr, mbind, mret, mvar, mop, mcall, mcons, mnil, mlift, mtup, mlst, mif, mand, mor, mnot, mandB, morB, mnotB, mtest, mtestB, truth, mbool, mchain, mneg, uNeg, sbind, sseq, sif, sret, sretN, sdrop, snext, sraise, sasg, tname, ttup, tcons, tnil, isIo, mitems, items, mrange, mpart, dInt, mslice, runDef, outs, ssub, ssub2, mineAt, Slot.mine, Slot.put, mixO, mixO2, spar, sparN, sparO, snew, mmut, mmut2, mcallF, mcallIo, mcallIo2, wipeD, restD, calmAt, fLen, fInt, fAbs, fTuple, fList, opAdd, opSub, cmpLt, cmpLe, cmpGt, cmpGe, cmpIs, cmpIsNot, isNone]) rfl ?_).trans rfl
  intro d hd
  obtain ⟨p, hp, rfl⟩ := List.mem_map.mp hd
  refine ⟨rfl, ?_, fun _ => rfl, rfl⟩
  simp [mtest, mbind, mcallF, mcons, mnil, mvar, mret, e_law_has, mlift, truth]
  rw [← List.map_map, map_toI]
theorem k_cube2 {s : List Int} (ok : SpOk s) {c : List (Option Int)} (hc : isCu s (cuD c) = true) (h : D) (x3 x4 x6 : Slot) : k_law_are_cubes_right_2 (cr h s (.list ((pk s).map tupI)) x3 x4 (.val (cuD c)) x6) = .ok (.list ((pk s).map fun p => .bool (hasC c p))) (cr h s (.list ((pk s).map tupI)) x3 x4 (.val (cuD c)) x6) := by
  have e : ((pk s).map fun p => PyData.bool (hasC c p)) = ((pk s).map tupI).map fun d => match d with | .tuple ds => .bool (hasC c (ds.map toI)) | _ => .none := by
    rw [List.map_map]
    refine List.map_congr_left fun p _ => ?_
    show _ = PyData.bool (hasC c ((p.map PyData.int).map toI))
    rw [map_toI]
  rw [e]
  refine (mcomp_map _ (fun d => [.io h, .val (tupI s), .val (.list ((pk s).map tupI)), x3, x4, .val (cuD c), x6, .un, .val d]) (ρ0 := cr h s (.list ((pk s).map tupI)) x3 x4 (.val (cuD c)) x6) (ds := (pk s).map tupI) (by simp [cr, mbind, mret, mvar, mop, mcall, mcons, mnil, mlift, mtup, mlst, mif, mand, mor, mnot, mandB, morB, mnotB, mtest, mtestB, truth, mbool, mchain, mneg, uNeg, sbind, sseq, sif, sret, sretN, sdrop, snext, sraise, sasg, tname, ttup, tcons, tnil, isIo, mitems, items, mrange, mpart, dInt, mslice, runDef, outs, ssub, ssub2, mineAt, Slot.mine, Slot.put, mixO, mixO2, spar, sparN, sparO, snew, mmut, mmut2, mcallF, mcallIo, mcallIo2, wipeD, restD, calmAt, fLen, fInt, fAbs, fTuple, fList, opAdd, opSub, cmpLt, cmpLe, cmpGt, cmpGe, cmpIs, cmpIsNot, isNone]) rfl ?_).trans rfl
  intro d hd
  obtain ⟨p, hp, rfl⟩ := List.mem_map.mp hd
  refine ⟨rfl, ?_, rfl⟩
  simp [mbind, mcallF, mcons, mnil, mvar, mret, e_has_packet ok hc (isPk_pk hp)]
  rw [← List.map_map, map_toI]
theorem any_mem (q : List (List Int)) (p : List Int) : ((q.map tupI).any fun z => PyData.eqv z (tupI p)) = decide (p ∈ q) := by
  rw [List.any_map]
  induction q with
  | nil => rfl
  | cons a q ih =>
    rw [List.any_cons, ih]
    show (PyData.eqv (tupI a) (tupI p) || _) = _
    rw [eqv_tup]
    by_cases h : a = p
    · subst h; simp
    · have : ¬ p = a := fun e => h e.symm
      simp [h, this]
theorem shp_pks (q : List (List Int)) : Shp 2 (.list (q.map tupI)) := Shp.list (n := 1) fun d hd => by
  obtain ⟨p, _, rfl⟩ := List.mem_map.mp hd
  exact Shp.tup p
theorem cmpIn_mem (q : List (List Int)) (p : List Int) : cmpIn (tupI p) (.list (q.map tupI)) = some (.bool (decide (p ∈ q))) := by
  unfold cmpIn inD
  simp only
  rw [if_pos ⟨(Shp.tup p).sh, (shp_pks q).sh⟩, any_mem]
  rfl
theorem k_cube3 {s : List Int} (c : List (Option Int)) (h : D) (x3 x4 x5 : Slot) : k_law_are_cubes_right_3 (cr h s (.list ((pk s).map tupI)) x3 x4 x5 (.val (.list (((pk s).filter (hasC c)).map tupI)))) = .ok (.list ((pk s).map fun p => .bool (hasC c p))) (cr h s (.list ((pk s).map tupI)) x3 x4 x5 (.val (.list (((pk s).filter (hasC c)).map tupI)))) := by
  have e : ((pk s).map fun p => PyData.bool (hasC c p)) = ((pk s).map tupI).map fun d => match d with | .tuple ds => .bool (hasC c (ds.map toI)) | _ => .none := by
    rw [List.map_map]
    refine List.map_congr_left fun p _ => ?_
    show _ = PyData.bool (hasC c ((p.map PyData.int).map toI))
    rw [map_toI]
  rw [e]
  refine (mcomp_map _ (fun d => [.io h, .val (tupI s), .val (.list ((pk s).map tupI)), x3, x4, x5, .val (.list (((pk s).filter (hasC c)).map tupI)), .un, .val d]) (ρ0 := cr h s (.list ((pk s).map tupI)) x3 x4 x5 (.val (.list (((pk s).filter (hasC c)).map tupI)))) (ds := (pk s).map tupI) (by simp [cr, mbind, mret, mvar, mop, mcall, mcons, mnil, mlift, mtup, mlst, mif, mand, mor, mnot, mandB, morB, mnotB, mtest, mtestB, truth, mbool, mchain, mneg, uNeg, sbind, sseq, sif, sret, sretN, sdrop, snext, sraise, sasg, tname, ttup, tcons, tnil, isIo, mitems, items, mrange, mpart, dInt, mslice, runDef, outs, ssub, ssub2, mineAt, Slot.mine, Slot.put, mixO, mixO2, spar, sparN, sparO, snew, mmut, mmut2, mcallF, mcallIo, mcallIo2, wipeD, restD, calmAt, fLen, fInt, fAbs, fTuple, fList, opAdd, opSub, cmpLt, cmpLe, cmpGt, cmpGe, cmpIs, cmpIsNot, isNone]) rfl ?_).trans rfl
  intro d hd
  obtain ⟨p, hp, rfl⟩ := List.mem_map.mp hd
  refine ⟨rfl, ?_, rfl⟩
  refine (mop_ok (mvar_ok rfl) (mvar_ok rfl) (cmpIn_mem _ p)).trans ?_
  show _ = Res.ok (PyData.bool (hasC c ((p.map PyData.int).map toI))) _
  rw [map_toI]
  congr 2
  by_cases hh : hasC c p = true
  · rw [decide_eq_true (List.mem_filter.mpr ⟨hp, hh⟩), hh]
  · rw [decide_eq_false (fun z => hh (List.mem_filter.mp z).2), Bool.not_eq_true _ |>.mp hh]
theorem noDs_bools {α : Type} (g : α → Bool) : ∀ xs : List α, noDs (xs.map fun x => .bool (g x)) = true
  | [] => rfl
  | x :: xs => by
    show (noD (.bool (g x)) && noDs (xs.map fun x => .bool (g x))) = true
    rw [noDs_bools g xs]
    rfl
theorem cmpNe_bools {α : Type} (xs : List α) (g : α → Bool) : cmpNe (.list (xs.map fun x => .bool (g x))) (.list (xs.map fun x => .bool (g x))) = some (.bool false) := by
  have sh : Shp 1 (.list (xs.map fun x => PyData.bool (g x))) := Shp.list (n := 0) fun d hd => by
    obtain ⟨x, _, rfl⟩ := List.mem_map.mp hd
    exact Shp.bool _
  rw [cmpNe_of sh sh, eqv_refl (.list (xs.map fun x => PyData.bool (g x))) (noDs_bools g xs)]
  rfl
theorem noDs_ints : ∀ xs : List Int, noDs (xs.map .int) = true
  | [] => rfl
  | x :: xs => by
    show (noD (.int x) && noDs (xs.map .int)) = true
    rw [noDs_ints xs]
    rfl
theorem noDs_tups : ∀ q : List (List Int), noDs (q.map tupI) = true
  | [] => rfl
  | x :: xs => by
    show (noDs (x.map .int) && noDs (xs.map tupI)) = true
    rw [noDs_tups xs, noDs_ints]
    rfl
theorem shp_pkt (q : List (List Int)) : Shp 2 (.tuple (q.map tupI)) := Shp.tuple (n := 1) fun d hd => by
  obtain ⟨p, _, rfl⟩ := List.mem_map.mp hd
  exact Shp.tup p
theorem cmpNe_pkt (q : List (List Int)) : cmpNe (.tuple (q.map tupI)) (.tuple (q.map tupI)) = some (.bool false) := by
  rw [cmpNe_of (shp_pkt q) (shp_pkt q), eqv_refl _ (show noD (.tuple (q.map tupI)) = true from noDs_tups q)]
  rfl
theorem cmpEq_pkt (q : List (List Int)) : cmpEq (.tuple (q.map tupI)) (.tuple (q.map tupI)) = some (.bool true) := by
  rw [cmpEq_of (shp_pkt q) (shp_pkt q), eqv_refl _ (show noD (.tuple (q.map tupI)) = true from noDs_tups q)]
theorem cube_turn {s : List Int} (ok : SpOk s) {h : D} (hh : HandOk h) {t : Int} (ht : 0 ≤ t ∧ t < 4) {x4 x5 x6 : Slot} (h4 : nI x4) (h5 : nI x5) (h6 : nI x6) :
    ∃ h' y4 y5 y6, HandOk h' ∧ nI y4 ∧ nI y5 ∧ nI y6 ∧ q_law_are_cubes_right_0b (cr h s (.list ((pk s).map tupI)) (.val (.int t)) x4 x5 x6) = .next (cr h' s (.list ((pk s).map tupI)) (.val (.int t)) y4 y5 y6) := by
  obtain ⟨b, hb⟩ : ∃ b : Int, fIx (.list [.int 0, .int 1, .int 2, .int 9]) (.int t) = some (.int b) := by
    obtain ⟨n, rfl⟩ : ∃ n : Nat, t = n := ⟨t.toNat, by omega⟩
    match n, ht with
    | 0, _ => exact ⟨0, rfl⟩
    | 1, _ => exact ⟨1, rfl⟩
    | 2, _ => exact ⟨2, rfl⟩
    | 3, _ => exact ⟨9, rfl⟩
    | n + 4, h => exact absurd h.2 (by omega)
  have h4 : isIo (some x4) = false := h4
  have h5 : isIo (some x5) = false := h5
  have h6 : isIo (some x6) = false := h6
  have s0 : q_law_are_cubes_right_0b0 (cr h s (.list ((pk s).map tupI)) (.val (.int t)) x4 x5 x6) = .next (cr h s (.list ((pk s).map tupI)) (.val (.int t)) (.val (.int b)) x5 x6) := by
    refine sasg_ok (mop_ok (d := .list [.int 0, .int 1, .int 2, .int 9]) (ρ1 := cr h s (.list ((pk s).map tupI)) (.val (.int t)) x4 x5 x6) (by simp [mbind, mret, mvar, mop, mcall, mcons, mnil, mlift, mtup, mlst, mif, mand, mor, mnot, mandB, morB, mnotB, mtest, mtestB, truth, mbool, mchain, mneg, uNeg, sbind, sseq, sif, sret, sretN, sdrop, snext, sraise, sasg, tname, ttup, tcons, tnil, isIo, mitems, items, mrange, mpart, dInt, mslice, runDef, outs, ssub, ssub2, mineAt, Slot.mine, Slot.put, mixO, mixO2, spar, sparN, sparO, snew, mmut, mmut2, mcallF, mcallIo, mcallIo2, wipeD, restD, calmAt, fLen, fInt, fAbs, fTuple, fList, opAdd, opSub, cmpLt, cmpLe, cmpGt, cmpGe, cmpIs, cmpIsNot, isNone]) (mvar_ok rfl) hb) ?_
    rw [tname_ok h4]
    rfl
  obtain ⟨c, h', ho, hc, e1⟩ := k_cube0 ok hh (.list ((pk s).map tupI)) (.val (.int t)) b x5 x6
  have s1 : q_law_are_cubes_right_0b1 (cr h s (.list ((pk s).map tupI)) (.val (.int t)) (.val (.int b)) x5 x6) = .next (cr h' s (.list ((pk s).map tupI)) (.val (.int t)) (.val (.int b)) (.val (cuD c)) x6) := by
    refine sasg_ok (mcall_ok (mcons_ok e1 rfl) rfl) ?_
    rw [tname_ok h5]
    rfl
  have s2 : q_law_are_cubes_right_0b2 (cr h' s (.list ((pk s).map tupI)) (.val (.int t)) (.val (.int b)) (.val (cuD c)) x6) = .next (cr h' s (.list ((pk s).map tupI)) (.val (.int t)) (.val (.int b)) (.val (cuD c)) (.val (.list (((pk s).filter (hasC c)).map tupI)))) := by
    refine sasg_ok (k_cube1 c h' _ _ x6) ?_
    rw [tname_ok h6]
    rfl
  have s3 : q_law_are_cubes_right_0b3 (cr h' s (.list ((pk s).map tupI)) (.val (.int t)) (.val (.int b)) (.val (cuD c)) (.val (.list (((pk s).filter (hasC c)).map tupI)))) = .next (cr h' s (.list ((pk s).map tupI)) (.val (.int t)) (.val (.int b)) (.val (cuD c)) (.val (.list (((pk s).filter (hasC c)).map tupI)))) := by
    have a1 := e_is_cube ok (cuD c)
    rw [hc] at a1
    unfold q_law_are_cubes_right_0b3
    refine (sif_f (ρ1 := cr h' s (.list ((pk s).map tupI)) (.val (.int t)) (.val (.int b)) (.val (cuD c)) (.val (.list (((pk s).filter (hasC c)).map tupI)))) ?_).trans rfl
    refine (morB_f (ρ1 := cr h' s (.list ((pk s).map tupI)) (.val (.int t)) (.val (.int b)) (.val (cuD c)) (.val (.list (((pk s).filter (hasC c)).map tupI)))) ?_).trans ?_
    · exact mtestB_ok (mop_ok (mcallF_ok (mcons_ok (mvar_ok rfl) (mcons_ok (mvar_ok rfl) rfl)) a1) rfl rfl)
    · exact mtestB_ok (mop_ok (mcallF_ok (mcons_ok (mvar_ok rfl) (mcons_ok (mvar_ok rfl) rfl)) (e_packets_in ok hc)) (mcall_ok (mcons_ok (mvar_ok rfl) rfl) rfl) (cmpNe_pkt _))
  have s4 : q_law_are_cubes_right_0b4 (cr h' s (.list ((pk s).map tupI)) (.val (.int t)) (.val (.int b)) (.val (cuD c)) (.val (.list (((pk s).filter (hasC c)).map tupI)))) = .next (cr h' s (.list ((pk s).map tupI)) (.val (.int t)) (.val (.int b)) (.val (cuD c)) (.val (.list (((pk s).filter (hasC c)).map tupI)))) := by
    unfold q_law_are_cubes_right_0b4
    exact (sif_f (mtestB_ok (mop_ok (k_cube2 ok hc h' _ _ _) (k_cube3 c h' _ _ _) (cmpNe_bools _ _)))).trans rfl
  refine ⟨h', .val (.int b), .val (cuD c), .val (.list (((pk s).filter (hasC c)).map tupI)), ho, rfl, rfl, rfl, ?_⟩
  unfold q_law_are_cubes_right_0b
  rw [sseq_next s0, sseq_next s1, sseq_next s2, sseq_next s3, s4]
theorem isCuL_none : ∀ s : List Int, isCuL ((s.map fun _ => (none : Option Int)).map optD) s = true
  | [] => rfl
  | z :: s => by
    show ((isNone .none || isIn .none 0 (z - 1)) && isCuL ((s.map fun _ => none).map optD) s) = true
    rw [isCuL_none s]
    rfl
theorem hasC_none (n : Nat) : ∀ p : List Int, hasC (List.replicate n none) p = true := by
  intro p
  unfold hasC
  rw [List.all_eq_true]
  intro q hq
  have := List.mem_replicate.mp (List.of_mem_zip hq).1
  rw [this.2]
  rfl
theorem none_mul {s : List Int} (ok : SpOk s) : opMul (.tuple [.none]) (.int s.length) = some (cuD (List.replicate s.length none)) := by
  have h1 := ok.one
  have h4 := ok.four
  show (if [PyData.none] ≠ [] ∧ 1 ≤ (s.length : Int) ∧ (s.length : Int) ≤ 1000 ∧ [PyData.none].length ≤ 1000 then some (PyData.tuple (repD (s.length : Int).toNat [.none])) else none) = _
  rw [if_pos ⟨by simp, by omega, by omega, by simp⟩]
  have e : repD (s.length : Int).toNat [PyData.none] = (List.replicate s.length (none : Option Int)).map optD := by
    rw [Int.toNat_natCast, List.map_replicate]
    unfold repD
    generalize s.length = n
    induction n with
    | zero => rfl
    | succ n ih => rw [List.replicate_succ, List.flatten_cons, ih, List.replicate_succ]; rfl
  rw [e]
theorem e_law_cubes {s : List Int} (ok : SpOk s) {h : D} (hh : HandOk h) : ∃ h', HandOk h' ∧ F_law_are_cubes_right [.io h, .val (tupI s), .val (.list ((pk s).map tupI))] = .ok (.bool true) [.io h', .val (tupI s), .val (.list ((pk s).map tupI))] := by
  obtain ⟨ρ', e, g, x3, x4, x5, x6, ho, _, _, _, _, rfl⟩ := sfor_all (m := mrange range1 (mcons (mret (.int 4)) (mnil))) (f := tname 3) (b := q_law_are_cubes_right_0b) (ρ := cr h s (.list ((pk s).map tupI)) .un .un .un .un) (ρ0 := cr h s (.list ((pk s).map tupI)) .un .un .un .un) (ds := (rangeI 4).map .int)
    (fun ρ => ∃ h x3 x4 x5 x6, HandOk h ∧ nI x3 ∧ nI x4 ∧ nI x5 ∧ nI x6 ∧ ρ = cr h s (.list ((pk s).map tupI)) x3 x4 x5 x6) (by simp [mrange, mbind, mcons, mret, mnil, mlift, range1_ok (z := 4) (by decide) (by decide)]) ⟨h, .un, .un, .un, .un, hh, rfl, rfl, rfl, rfl, rfl⟩ fun d ρ hd ⟨h, x3, x4, x5, x6, ho, h3, h4, h5, h6, e⟩ => by
      subst e
      obtain ⟨t, rfl, t0, t1⟩ := mem_rangeIs hd
      obtain ⟨h', y4, y5, y6, ho', k4, k5, k6, e⟩ := cube_turn ok ho (t := t) ⟨t0, by omega⟩ h4 h5 h6
      exact ⟨cr h s (.list ((pk s).map tupI)) (.val (.int t)) x4 x5 x6, _, tname_ok h3, e, h', .val (.int t), y4, y5, y6, ho', rfl, k4, k5, k6, rfl⟩
  have hc : isCu s (cuD (List.replicate s.length none)) = true := by
    have := isCuL_none s
    rw [List.map_const'] at this
    exact this
  have hf : (pk s).filter (hasC (List.replicate s.length none)) = pk s := List.filter_eq_self.mpr fun p _ => hasC_none _ p
  have hp := e_packets_in ok hc
  rw [hf] at hp
  refine ⟨g, ho, ?_⟩
  unfold F_law_are_cubes_right runDef b_law_are_cubes_right q_law_are_cubes_right_
  have e1 : q_law_are_cubes_right_0 ([.io h, .val (tupI s), .val (.list ((pk s).map tupI))] ++ List.replicate 6 .un) = .next _ := e
  rw [sseq_next e1]
  have e2 : q_law_are_cubes_right_1 (cr g s (.list ((pk s).map tupI)) x3 x4 x5 x6) = .ret (.bool true) (cr g s (.list ((pk s).map tupI)) x3 x4 x5 x6) := by
    have hm : mop opMul (mtup (mcons (mret .none) (mnil))) (mcall fLen (mcons (mvar 1) (mnil))) (cr g s (.list ((pk s).map tupI)) x3 x4 x5 x6) = .ok (cuD (List.replicate s.length none)) (cr g s (.list ((pk s).map tupI)) x3 x4 x5 x6) :=
      mop_ok (d := .tuple [.none]) (ρ1 := cr g s (.list ((pk s).map tupI)) x3 x4 x5 x6) (by simp [mbind, mret, mvar, mop, mcall, mcons, mnil, mlift, mtup, mlst, mif, mand, mor, mnot, mandB, morB, mnotB, mtest, mtestB, truth, mbool, mchain, mneg, uNeg, sbind, sseq, sif, sret, sretN, sdrop, snext, sraise, sasg, tname, ttup, tcons, tnil, isIo, mitems, items, mrange, mpart, dInt, mslice, runDef, outs, ssub, ssub2, mineAt, Slot.mine, Slot.put, mixO, mixO2, spar, sparN, sparO, snew, mmut, mmut2, mcallF, mcallIo, mcallIo2, wipeD, restD, calmAt, fLen, fInt, fAbs, fTuple, fList, opAdd, opSub, cmpLt, cmpLe, cmpGt, cmpGe, cmpIs, cmpIsNot, isNone]) (mcall_ok (z := .int s.length) (mcons_ok (mvar_ok (d := tupI s) rfl) rfl) (by simp [fLen])) (none_mul ok)
    exact sret_ok (mop_ok (mcallF_ok (mcons_ok (mvar_ok rfl) (mcons_ok hm rfl)) hp) (mcall_ok (mcons_ok (mvar_ok rfl) rfl) rfl) (cmpEq_pkt _))
  rw [e2]
  rfl
end Lw
namespace Lw
open PySem PySem.Spec PyProof.Rows L2 RZ LamX PL
open PySem.W (Frag)
theorem isSpace_more (s : List Int) {x : D} (h : isIn x 2 8 = false) : isSpace (.tuple (s.map .int ++ [x])) = false := by
  show (_ && ((s.map PyData.int ++ [x]).all (isIn · 2 8) && _)) = false
  rw [List.all_append]
  simp [h]
def odds (s : List Int) : List D := [.none, .tuple [], .str "22", .int 2, .bool true, .list [.int 2, .int 2], .tuple [.int 1], .tuple [.int 9], .tuple [.int 2, .int 1], .tuple [.int 2, .int 0], .tuple [.int 2, .int (-2)], .tuple [.int 8, .int 9], .tuple [.int 8, .int 8, .int 2], .tuple [.int 2, .int 2, .int 2, .int 2, .int 2]] ++
  [.tuple [.bool true, .int 2], .tuple [.int 2, .none], .tuple [.str "2"], .tuple [.tuple [.int 2]], .list (s.map .int), .tuple (s.map .int ++ [.int 1]), .tuple (s.map .int ++ [.int 9]), .tuple [.int 3, .int 4, .int 6], .dict [(.str "2", .int 2)]]
theorem odds_bad (s : List Int) : ∀ d ∈ odds s, isSpace d = false := by
  intro d hd
  unfold odds at hd
  simp only [List.cons_append, List.nil_append, List.mem_cons, List.not_mem_nil, or_false] at hd
  rcases hd with rfl | rfl | rfl | rfl | rfl | rfl | rfl | rfl | rfl | rfl | rfl | rfl | rfl | rfl | rfl | rfl | rfl | rfl | rfl | rfl | rfl | rfl | rfl
  all_goals first | rfl | exact isSpace_more s rfl
theorem e_law_no_space {s : List Int} (ok : SpOk s) {h : D} (hh : HandOk h) : ∃ o h', isSpace o = false ∧ HandOk h' ∧ F_law_no_space [.io h, .val (tupI s)] = .ok o [.io h', .val (tupI s)] := by
  have h4 := ok.four
  obtain ⟨o, h', ho, hh', e⟩ := e_law_any h (odds s) hh (by simp [odds]) (by simp [odds])
  refine ⟨o, h', odds_bad s o ho, hh', ?_⟩
  have s0 : q_law_no_space_0 ([.io h, .val (tupI s)] ++ List.replicate 1 .un) = .next [.io h, .val (tupI s), .own (.list ((odds s).take 14))] := by
    simp [q_law_no_space_0, mbind, mret, mvar, mop, mcall, mcons, mnil, mlift, mtup, mlst, mif, mand, mor, mnot, mandB, morB, mnotB, mtest, mtestB, truth, mbool, mchain, mneg, uNeg, sbind, sseq, sif, sret, sretN, sdrop, snext, sraise, sasg, tname, ttup, tcons, tnil, isIo, mitems, items, mrange, mpart, dInt, mslice, runDef, outs, ssub, ssub2, mineAt, Slot.mine, Slot.put, mixO, mixO2, spar, sparN, sparO, snew, mmut, mmut2, mcallF, mcallIo, mcallIo2, wipeD, restD, calmAt, fLen, fInt, fAbs, fTuple, fList, opAdd, opSub, cmpLt, cmpLe, cmpGt, cmpGe, cmpIs, cmpIsNot, isNone, odds]
  have a1 : opAdd (tupI s) (.tuple [.int 1]) = some (.tuple (s.map .int ++ [.int 1])) := opAdd_tup (by simp; omega)
  have a9 : opAdd (tupI s) (.tuple [.int 9]) = some (.tuple (s.map .int ++ [.int 9])) := opAdd_tup (by simp; omega)
  have fx := fExtend_ok (xs := (odds s).take 14) (ys := (odds s).drop 14) (by simp [odds])
  rw [List.take_append_drop] at fx
  have s1 : q_law_no_space_1 [.io h, .val (tupI s), .own (.list ((odds s).take 14))] = .next [.io h, .val (tupI s), .own (.list (odds s))] := by
    have hm : mcons (mlst (mcons (mtup (mcons (mret (.bool true)) (mcons (mret (.int 2)) (mnil)))) (mcons (mtup (mcons (mret (.int 2)) (mcons (mret .none) (mnil)))) (mcons (mtup (mcons (mret (.str "2")) (mnil))) (mcons (mtup (mcons (mtup (mcons (mret (.int 2)) (mnil))) (mnil))) (mcons (mcall fList (mcons (mvar 1) (mnil))) (mcons (mop opAdd (mvar 1) (mtup (mcons (mret (.int 1)) (mnil)))) (mcons (mop opAdd (mvar 1) (mtup (mcons (mret (.int 9)) (mnil)))) (mcons (mtup (mcons (mret (.int 3)) (mcons (mret (.int 4)) (mcons (mret (.int 6)) (mnil))))) (mcons (mdict [.inr "2"] (mcons (mret (.int 2)) (mnil))) (mnil))))))))))) (mnil) ([.io h, .val (tupI s), .own (.list ((odds s).take 14))] : DEnv) = .ok [.list ((odds s).drop 14)] [.io h, .val (tupI s), .own (.list ((odds s).take 14))] := by
      simp [mbind, mret, mvar, mop, mcall, mcons, mnil, mlift, mtup, mlst, mif, mand, mor, mnot, mandB, morB, mnotB, mtest, mtestB, truth, mbool, mchain, mneg, uNeg, sbind, sseq, sif, sret, sretN, sdrop, snext, sraise, sasg, tname, ttup, tcons, tnil, isIo, mitems, items, mrange, mpart, dInt, mslice, runDef, outs, ssub, ssub2, mineAt, Slot.mine, Slot.put, mixO, mixO2, spar, sparN, sparO, snew, mmut, mmut2, mcallF, mcallIo, mcallIo2, wipeD, restD, calmAt, fLen, fInt, fAbs, fTuple, fList, opSub, cmpLt, cmpLe, cmpGt, cmpGe, cmpIs, cmpIsNot, isNone, a1, a9, mdict, keyD]
      simp [odds]
    unfold q_law_no_space_1 sdrop sbind mmut
    simp only [mineAt, Slot.mine, Option.map_some, tyD, List.getElem?_cons_succ, List.getElem?_cons_zero, beq_self_eq_true, if_true]
    rw [mbind_ok hm]
    unfold mmut2
    simp only [mineAt, Slot.mine, Option.map_some, List.getElem?_cons_succ, List.getElem?_cons_zero, fx, Slot.put, List.set_cons_succ, List.set_cons_zero]
  unfold F_law_no_space runDef b_law_no_space q_law_no_space_
  rw [sseq_next s0, sseq_next s1]
  simp [q_law_no_space_2, mbind, mret, mvar, mop, mcall, mcons, mnil, mlift, mtup, mlst, mif, mand, mor, mnot, mandB, morB, mnotB, mtest, mtestB, truth, mbool, mchain, mneg, uNeg, sbind, sseq, sif, sret, sretN, sdrop, snext, sraise, sasg, tname, ttup, tcons, tnil, isIo, mitems, items, mrange, mpart, dInt, mslice, runDef, outs, ssub, ssub2, mineAt, Slot.mine, Slot.put, mixO, mixO2, spar, sparN, sparO, snew, mmut, mmut2, mcallF, mcallIo, mcallIo2, wipeD, restD, calmAt, fLen, fInt, fAbs, fTuple, fList, opAdd, opSub, cmpLt, cmpLe, cmpGt, cmpGe, cmpIs, cmpIsNot, isNone, e]
theorem isCuL_bad : ∀ {ts : List D} {s : List Int} {i : Nat} {x : D} {z : Int}, ts.length = s.length → s[i]? = some z → isNone x = false → isIn x 0 (z - 1) = false → isCuL (ts.set i x) s = false
  | [], [], i, x, z, _, h, _, _ => by simp at h
  | t :: ts, [], _, _, _, h, _, _, _ => by cases h
  | [], _ :: _, _, _, _, h, _, _, _ => by cases h
  | t :: ts, z' :: s, 0, x, z, hl, h, h1, h2 => by
    simp at h
    subst h
    show ((isNone x || isIn x 0 (z' - 1)) && _) = false
    rw [h1, h2]
    rfl
  | t :: ts, z' :: s, i + 1, x, z, hl, h, h1, h2 => by
    show (_ && isCuL (ts.set i x) s) = false
    rw [isCuL_bad (by simpa using hl) (by simpa using h) h1 h2, Bool.and_false]
theorem put_runD {ρ : DEnv} {a b c : Nat} {p : List D} {i : Nat} {v : D} (h1 : ρ[a]? = some (.val (.tuple p))) (h2 : ρ[b]? = some (.val (.int i))) (h3 : ρ[c]? = some (.val v)) (hi : i < p.length) (hl : p.length ≤ 100) :
    mop opAdd (mop opAdd (mslice (mvar a) (mret none) (mpart (mvar b))) (mtup (mcons (mvar c) (mnil)))) (mslice (mvar a) (mpart (mop opAdd (mvar b) (mret (.int 1)))) (mret none)) ρ = .ok (.tuple (p.set i v)) ρ := by
  have a1 : opAdd (.tuple (p.take i)) (.tuple [v]) = some (.tuple (p.take i ++ [v])) := opAdd_tup (by simp; omega)
  have a2 : opAdd (.tuple (p.take i ++ [v])) (.tuple (p.drop (i + 1))) = some (.tuple (p.take i ++ [v] ++ p.drop (i + 1))) := opAdd_tup (by simp; omega)
  have c1 := cutD_take p i (by omega)
  have c2 : PL.cutD p (some ((i : Int) + 1)) none = p.drop (i + 1) := cutD_drop p (i + 1) (by omega)
  simp only [mop, mbind, mslice, mvar, h1, h2, h3, mpart, mret, mlift, dInt, fSlice, c1, c2, mtup, mcons, mnil, List.length_cons, List.length_nil, a1, if_pos (show 0 + 1 ≤ 1000 by decide), show opAdd (.int i) (.int 1) = some (PyData.int ((i : Int) + 1)) from rfl, a2, set_eq p i v hi]
theorem app_ok {i : Nat} {m : M D} {ρ : DEnv} {ws : List D} {d : D} (hi : ρ[i]? = some (.own (.list ws))) (hm : m ρ = .ok d ρ) (hl : ws.length ≤ 16777215) : sdrop (mmut i "list" fAppend (mcons m mnil)) ρ = .next (ρ.set i (.own (.list (ws ++ [d])))) := by
  unfold sdrop sbind mmut
  simp only [mineAt, hi, Slot.mine, Option.map_some, tyD, beq_self_eq_true, if_true]
  rw [mbind_ok (mcons_ok (ms := mnil) hm rfl)]
  unfold mmut2
  simp only [mineAt, hi, Slot.mine, Option.map_some, fAppend_ok hl, Slot.put]
def spoil (s : List Int) (ts : List D) : List D := [.list ts, .tuple (ts ++ [.int 0]), .tuple (ts.drop 1), .tuple [], .none, .str "0", .int 7, .tuple [.tuple ts], .dict [(.str "0", .int 1)]]
theorem spoil_bad {s : List Int} (ok : SpOk s) {ts : List D} (hl : ts.length = s.length) : ∀ d ∈ spoil s ts, isCu s d = false := by
  have h1 := ok.one
  intro d hd
  unfold spoil at hd
  simp only [List.mem_cons, List.not_mem_nil, or_false] at hd
  rcases hd with rfl | rfl | rfl | rfl | rfl | rfl | rfl | rfl | rfl
  · rfl
  · exact isCuL_len (by simp; omega)
  · exact isCuL_len (by simp; omega)
  · exact isCuL_len (by simp; omega)
  · rfl
  · rfl
  · rfl
  · match s, h1 with
    | z :: s, _ => rfl
  · rfl
end Lw
namespace Lw
open PySem PySem.Spec PyProof.Rows L2 RZ LamX PL
open PySem.W (Frag)
def wrongs (z : Int) : List D := [.int z, .int (-1), .bool true, .bool false, .str "0", .tuple [.int 0], .int (10 ^ 30), .list [.int 0]]
theorem wrongs_bad {z : Int} (hz : 2 ≤ z ∧ z ≤ 8) : ∀ x ∈ wrongs z, isNone x = false ∧ isIn x 0 (z - 1) = false := by
  intro x hx
  unfold wrongs at hx
  simp only [List.mem_cons, List.not_mem_nil, or_false] at hx
  rcases hx with rfl | rfl | rfl | rfl | rfl | rfl | rfl | rfl
  all_goals refine ⟨rfl, ?_⟩
  all_goals first | rfl | skip
  · simp only [isIn, Bool.and_eq_false_iff, decide_eq_false_iff_not]; omega
  · simp only [isIn, Bool.and_eq_false_iff, decide_eq_false_iff_not]; omega
theorem e_law_spoiled {s : List Int} (ok : SpOk s) {h : D} (hh : HandOk h) {ts : List D} (hl : ts.length = s.length) : ∃ d h', isCu s d = false ∧ HandOk h' ∧ F_law_spoiled [.io h, .val (tupI s), .val (.tuple ts)] = .ok d [.io h', .val (tupI s), .val (.tuple ts)] := by
  have h1 := ok.one
  have h4 := ok.four
  obtain ⟨a, g1, a0, a1, ho1, e1⟩ := e_law_draw h s.length hh (by omega) (by omega)
  obtain ⟨i, rfl⟩ : ∃ i : Nat, a = i := ⟨a.toNat, by omega⟩
  obtain ⟨z, hz⟩ : ∃ z, s[i]? = some z := ⟨_, List.getElem?_eq_getElem (by omega)⟩
  have hzz := ok.all z (List.mem_of_getElem? hz)
  have s0 : q_law_spoiled_0 ([.io h, .val (tupI s), .val (.tuple ts)] ++ List.replicate 3 .un) = .next [.io g1, .val (tupI s), .val (.tuple ts), .val (.int i), .un, .un] := by
    simp [q_law_spoiled_0, mbind, mret, mvar, mop, mcall, mcons, mnil, mlift, mtup, mlst, mif, mand, mor, mnot, mandB, morB, mnotB, mtest, mtestB, truth, mbool, mchain, mneg, uNeg, sbind, sseq, sif, sret, sretN, sdrop, snext, sraise, sasg, tname, ttup, tcons, tnil, isIo, mitems, items, mrange, mpart, dInt, mslice, runDef, outs, ssub, ssub2, mineAt, Slot.mine, Slot.put, mixO, mixO2, spar, sparN, sparO, snew, mmut, mmut2, mcallF, mcallIo, mcallIo2, wipeD, restD, calmAt, fLen, fInt, fAbs, fTuple, fList, opAdd, opSub, cmpLt, cmpLe, cmpGt, cmpGe, cmpIs, cmpIsNot, isNone, e1]
  have t1 : opAdd (.tuple ts) (.tuple [.int 0]) = some (.tuple (ts ++ [.int 0])) := opAdd_tup (by simp; omega)
  have t2 : PL.cutD ts (some 1) none = ts.drop 1 := cutD_drop ts 1 (by omega)
  have s1 : q_law_spoiled_1 [.io g1, .val (tupI s), .val (.tuple ts), .val (.int i), .un, .un] = .next [.io g1, .val (tupI s), .val (.tuple ts), .val (.int i), .own (.list (spoil s ts)), .un] := by
    simp [q_law_spoiled_1, mbind, mret, mvar, mop, mcall, mcons, mnil, mlift, mtup, mlst, mif, mand, mor, mnot, mandB, morB, mnotB, mtest, mtestB, truth, mbool, mchain, mneg, uNeg, sbind, sseq, sif, sret, sretN, sdrop, snext, sraise, sasg, tname, ttup, tcons, tnil, isIo, mitems, items, mrange, mpart, dInt, mslice, runDef, outs, ssub, ssub2, mineAt, Slot.mine, Slot.put, mixO, mixO2, spar, sparN, sparO, snew, mmut, mmut2, mcallF, mcallIo, mcallIo2, wipeD, restD, calmAt, fLen, fInt, fAbs, fTuple, fList, opSub, cmpLt, cmpLe, cmpGt, cmpGe, cmpIs, cmpIsNot, isNone, t1, t2, fSlice, mdict, keyD, spoil]
  have hm : mitems (mtup (mcons (mixO 1 (mvar 3)) (mcons (mneg (mret (.int 1))) (mcons (mret (.bool true)) (mcons (mret (.bool false)) (mcons (mret (.str "0")) (mcons (mtup (mcons (mret (.int 0)) (mnil))) (mcons (mop opPow (mret (.int 10)) (mret (.int 30))) (mcons (mlst (mcons (mret (.int 0)) (mnil))) (mnil)))))))))) ([.io g1, .val (tupI s), .val (.tuple ts), .val (.int i), .own (.list (spoil s ts)), .un] : DEnv) = .ok (wrongs z) [.io g1, .val (tupI s), .val (.tuple ts), .val (.int i), .own (.list (spoil s ts)), .un] := by
    simp [mbind, mret, mvar, mop, mcall, mcons, mnil, mlift, mtup, mlst, mif, mand, mor, mnot, mandB, morB, mnotB, mtest, mtestB, truth, mbool, mchain, mneg, uNeg, sbind, sseq, sif, sret, sretN, sdrop, snext, sraise, sasg, tname, ttup, tcons, tnil, isIo, mitems, items, mrange, mpart, dInt, mslice, runDef, outs, ssub, ssub2, mineAt, Slot.mine, Slot.put, mixO, mixO2, spar, sparN, sparO, snew, mmut, mmut2, mcallF, mcallIo, mcallIo2, wipeD, restD, calmAt, fLen, fInt, fAbs, fTuple, fList, opAdd, opSub, cmpLt, cmpLe, cmpGt, cmpGe, cmpIs, cmpIsNot, isNone, fIx_tup hz, opPow, wrongs]
  obtain ⟨ρ', e2, L, x5, h5, hL, hb, rfl⟩ := sfor_inv (f := tname 5) (b := q_law_spoiled_2b) (fun j ρ => ∃ L x5, nI x5 ∧ L.length = 9 + j ∧ (∀ d ∈ L, isCu s d = false) ∧ ρ = [.io g1, .val (tupI s), .val (.tuple ts), .val (.int i), .own (.list L), x5]) hm ⟨_, .un, rfl, rfl, spoil_bad ok hl, rfl⟩ fun j d ρ hj ⟨L, x5, h5, hL, hb, e⟩ => by
    subst e
    have hx := wrongs_bad hzz d (List.mem_of_getElem? hj)
    have hj8 : j < 8 := (List.getElem?_eq_some_iff.mp hj).1
    refine ⟨[.io g1, .val (tupI s), .val (.tuple ts), .val (.int i), .own (.list L), .val d], [.io g1, .val (tupI s), .val (.tuple ts), .val (.int i), .own (.list (L ++ [.tuple (ts.set i d)])), .val d], tname_ok h5, ?_, L ++ [.tuple (ts.set i d)], .val d, rfl, by rw [List.length_append, hL]; rfl, fun x hx2 => ?_, rfl⟩
    · exact app_ok (i := 4) rfl (put_runD (a := 2) (b := 3) (c := 5) rfl rfl rfl (by omega) (by omega)) (by omega)
    · rcases List.mem_append.mp hx2 with hx2 | hx2
      · exact hb x hx2
      · rw [List.mem_singleton.mp hx2]
        exact isCuL_bad hl hz hx.1 hx.2
  have hL2 : L.length = 17 := hL
  obtain ⟨d, g2, hd, ho2, e3⟩ := e_law_any g1 L ho1 (fun e => by rw [e] at hL2; cases hL2) (by omega)
  refine ⟨d, g2, hb d hd, ho2, ?_⟩
  unfold F_law_spoiled runDef b_law_spoiled q_law_spoiled_
  rw [sseq_next s0, sseq_next s1]
  have s2 : q_law_spoiled_2 [.io g1, .val (tupI s), .val (.tuple ts), .val (.int i), .own (.list (spoil s ts)), .un] = .next _ := e2
  rw [sseq_next s2]
  simp [q_law_spoiled_3, mbind, mret, mvar, mop, mcall, mcons, mnil, mlift, mtup, mlst, mif, mand, mor, mnot, mandB, morB, mnotB, mtest, mtestB, truth, mbool, mchain, mneg, uNeg, sbind, sseq, sif, sret, sretN, sdrop, snext, sraise, sasg, tname, ttup, tcons, tnil, isIo, mitems, items, mrange, mpart, dInt, mslice, runDef, outs, ssub, ssub2, mineAt, Slot.mine, Slot.put, mixO, mixO2, spar, sparN, sparO, snew, mmut, mmut2, mcallF, mcallIo, mcallIo2, wipeD, restD, calmAt, fLen, fInt, fAbs, fTuple, fList, opAdd, opSub, cmpLt, cmpLe, cmpGt, cmpGe, cmpIs, cmpIsNot, isNone, e3]
theorem isPk_of_isCu : ∀ {s : List Int} {d : D}, isCu s d = false → isPk s d = false := by
  have main : ∀ {ds : List D} {s : List Int}, isCuL ds s = false → isPkL ds s = false := by
    intro ds
    induction ds with
    | nil => intro s h; cases s with
      | nil => cases h
      | cons _ _ => rfl
    | cons d ds ih => intro s h; cases s with
      | nil => rfl
      | cons z s =>
        have h : ((isNone d || isIn d 0 (z - 1)) && isCuL ds s) = false := h
        show (isIn d 0 (z - 1) && isPkL ds s) = false
        rw [Bool.and_eq_false_iff] at h ⊢
        rcases h with h | h
        · exact .inl (Bool.or_eq_false_iff.mp h).2
        · exact .inr (ih h)
  intro s d h
  cases d with
  | tuple ds => exact main h
  | _ => rfl
theorem isCu_of_isPk : ∀ {s : List Int} {d : D}, isPk s d = true → isCu s d = true := by
  intro s d h
  cases hc : isCu s d with
  | true => rfl
  | false => rw [isPk_of_isCu hc] at h; cases h
theorem mword_err {m : M D} {ρ ρ' : DEnv} {c r : Str} (h : m ρ = .err c ρ') (hl : whs.lookup c = some r) : mword wl whs m ρ = .ok (.str r) ρ' := by
  unfold mword
  rw [h]
  simp only [hl]
theorem mcallF_err {F : DEnv → Res D} {ms : M (List D)} {ρ ρ1 ρ2 : DEnv} {ds : List D} {c : Str} (h : ms ρ = .ok ds ρ1) (hF : F (ds.map .val) = .err c ρ2) : mcallF F ms ρ = .err c ρ1 := by
  unfold mcallF
  rw [mbind_ok h, hF]
end Lw
namespace Lw
open PySem PySem.Spec PyProof.Rows L2 RZ LamX PL
open PySem.W (Frag)
def rf (g P bad fld odd pkt val wrong : D) (s : List Int) (x3 x4 : Slot) : DEnv := [.io g, .val (tupI s), .val P, x3, x4, .val bad, .val fld, .val odd, .val pkt, .val val, .val wrong]
def ownS (ws : List Str) : Slot := .own (.list (ws.map .str))
theorem word_step {m : M D} {g P bad fld odd pkt val wrong : D} {s : List Int} {x4 : Slot} {ws : List Str} {c r : Str} (h : m (rf g P bad fld odd pkt val wrong s (ownS ws) x4) = .err c (rf g P bad fld odd pkt val wrong s (ownS ws) x4)) (hl : whs.lookup c = some r) (hw : ws.length ≤ 1000) :
    sdrop (mmut 3 "list" fAppend (mcons (mword wl whs m) mnil)) (rf g P bad fld odd pkt val wrong s (ownS ws) x4) = .next (rf g P bad fld odd pkt val wrong s (ownS (ws ++ [r])) x4) := by
  rw [app_ok (i := 3) (ws := ws.map .str) rfl (mword_err h hl) (by rw [List.length_map]; omega)]
  simp [rf, ownS]
theorem opAdd_lst {xs ys : List D} (h : xs.length + ys.length ≤ 16777216) : opAdd (.list xs) (.list ys) = some (.list (xs ++ ys)) := by
  show (if xs.length + ys.length ≤ sizeLine then some (PyData.list (xs ++ ys)) else none) = _
  rw [if_pos (by rw [sizeLine_eq]; omega)]
theorem mtup_ok {ms : M (List D)} {ρ ρ' : DEnv} {ds : List D} (h : ms ρ = .ok ds ρ') (hl : ds.length ≤ 1000) : mtup ms ρ = .ok (.tuple ds) ρ' := by
  unfold mtup
  rw [mbind_ok h, if_pos hl]
  rfl
theorem mnil_ok {ρ : DEnv} : mnil ρ = .ok [] ρ := rfl
theorem lk1 : whs.lookup ("NoSpace" : Str) = some ("NoSpace" : Str) := by decide +kernel
theorem lk2 : whs.lookup ("NoPacket" : Str) = some ("NoPacket" : Str) := by decide +kernel
theorem lk3 : whs.lookup ("NoCube" : Str) = some ("NoCube" : Str) := by decide +kernel
theorem lk4 : whs.lookup ("NoField" : Str) = some ("NoField" : Str) := by decide +kernel
theorem lk5 : whs.lookup ("NoValue" : Str) = some ("NoValue" : Str) := by decide +kernel
def words12 : List Str := ["NoSpace", "NoPacket", "NoField", "NoValue", "NoSpace", "NoCube", "NoPacket", "NoSpace", "NoCube", "NoSpace", "NoSpace", "NoSpace"]
theorem word_step2 {m : M D} {g P bad fld odd pkt val wrong : D} {s : List Int} {x4 : Slot} {ws ws2 : List Str} {c r : Str} (h : m (rf g P bad fld odd pkt val wrong s (ownS ws) x4) = .err c (rf g P bad fld odd pkt val wrong s (ownS ws) x4)) (hl : whs.lookup c = some r) (hw : ws.length ≤ 1000) (e : ws ++ [r] = ws2) :
    sdrop (mmut 3 "list" fAppend (mcons (mword wl whs m) mnil)) (rf g P bad fld odd pkt val wrong s (ownS ws) x4) = .next (rf g P bad fld odd pkt val wrong s (ownS ws2) x4) := by
  rw [word_step h hl hw, e]
theorem eq12 : cmpEq (.list (words12.map .str)) (.list (words12.map .str)) = some (.bool true) := by
  have e : (SeqAt.shaped (.list (words12.map .str)) = true) := by decide +kernel
  unfold cmpEq
  rw [if_pos ⟨e, e⟩, eqv_refl _ (by decide +kernel)]
theorem fields_bad {n : Int} : ∀ x ∈ ([.int n, .int (-1), .bool true, .none, .str "0"] : List D), isIn x 0 (n - 1) = false := by
  intro x hx
  simp only [List.mem_cons, List.not_mem_nil, or_false] at hx
  rcases hx with rfl | rfl | rfl | rfl | rfl
  · simp only [isIn, Bool.and_eq_false_iff, decide_eq_false_iff_not]; omega
  all_goals rfl
theorem values_bad {z : Int} (h : z ≤ 8) : ∀ x ∈ ([.int 8, .int (-1), .bool true, .none, .str "0"] : List D), isIn x 0 (z - 1) = false := by
  intro x hx
  simp only [List.mem_cons, List.not_mem_nil, or_false] at hx
  rcases hx with rfl | rfl | rfl | rfl | rfl
  · simp only [isIn, Bool.and_eq_false_iff, decide_eq_false_iff_not]; omega
  all_goals rfl
theorem pk_ne {s : List Int} (ok : SpOk s) : (pk s).map tupI ≠ [] := by
  intro e
  have : ∀ s : List Int, (∀ x ∈ s, 2 ≤ x ∧ x ≤ 8) → 1 ≤ (pk s).length := by
    refine snoc_ind (fun _ => by decide) fun t z ih h => ?_
    rw [pk_snoc, grow1_len]
    have := ih fun x hx => h x (by simp [hx])
    have := h z (by simp)
    exact Nat.mul_pos (by omega) (by omega)
  have q := this s ok.all
  rw [List.map_eq_nil_iff] at e
  rw [e] at q
  exact absurd q (by decide)
theorem e_law_refused {s : List Int} (ok : SpOk s) {h : D} (hh : HandOk h) : ∃ h', HandOk h' ∧ F_law_are_refused [.io h, .val (tupI s), .val (.list ((pk s).map tupI))] = .ok (.bool true) [.io h', .val (tupI s), .val (.list ((pk s).map tupI))] := by
  have h1 := ok.one
  have h4 := ok.four
  have hlp : (pk s).length ≤ 4096 := pk_len 4 s h4 ok.all
  obtain ⟨odd, g1, ho, ho1, e1⟩ := e_law_no_space ok hh
  obtain ⟨d, g2, hd, ho2, e2⟩ := e_law_any g1 _ ho1 (pk_ne ok) (by rw [List.length_map]; omega)
  obtain ⟨p, hpm, rfl⟩ := List.mem_map.mp hd
  have hp := isPk_pk hpm
  have hl := (isPkL_iff.mp hp).1
  obtain ⟨bad, g3, hb, ho3, e3⟩ := e_law_spoiled ok ho2 (ts := p.map .int) (by simpa using hl)
  obtain ⟨wrong, g4, hw, ho4, e4⟩ := e_law_spoiled ok ho3 (ts := (List.replicate s.length (none : Option Int)).map optD) (by simp)
  obtain ⟨fld, g5, hf, ho5, e5⟩ := e_law_any g4 [.int s.length, .int (-1), .bool true, .none, .str "0"] ho4 (by simp) (by simp)
  obtain ⟨val, g6, hv, ho6, e6⟩ := e_law_any g5 [.int 8, .int (-1), .bool true, .none, .str "0"] ho5 (by simp) (by simp)
  have hf := fields_bad _ hf
  obtain ⟨z, hz⟩ : ∃ z, s[s.length - 1]? = some z := ⟨_, List.getElem?_eq_getElem (by omega)⟩
  have hzz := ok.all z (List.mem_of_getElem? hz)
  have hv := values_bad hzz.2 _ hv
  have hbp := isPk_of_isCu hb
  have hcu := isCu_of_isPk hp
  generalize hP : PyData.list ((pk s).map tupI) = P at *
  have s0 : q_law_are_refused_0 ([.io h, .val (tupI s), .val P] ++ List.replicate 8 .un) = .next [.io g2, .val (tupI s), .val P, .un, .un, .un, .un, .val odd, .val (tupI p), .un, .un] := by
    simp [q_law_are_refused_0, mbind, mret, mvar, mop, mcall, mcons, mnil, mlift, mtup, mlst, mif, mand, mor, mnot, mandB, morB, mnotB, mtest, mtestB, truth, mbool, mchain, mneg, uNeg, sbind, sseq, sif, sret, sretN, sdrop, snext, sraise, sasg, tname, ttup, tcons, tnil, isIo, mitems, items, mrange, mpart, dInt, mslice, runDef, outs, ssub, ssub2, mineAt, Slot.mine, Slot.put, mixO, mixO2, spar, sparN, sparO, snew, mmut, mmut2, mcallF, mcallIo, mcallIo2, wipeD, restD, calmAt, fLen, fInt, fAbs, fTuple, fList, opAdd, opSub, cmpLt, cmpLe, cmpGt, cmpGe, cmpIs, cmpIsNot, isNone, e1, e2]
  have hm : mop opMul (mtup (mcons (mret .none) (mnil))) (mcall fLen (mcons (mvar 1) (mnil))) ([.io g3, .val (tupI s), .val P, .un, .un, .un, .un, .val odd, .val (tupI p), .un, .un] : DEnv) = .ok (cuD (List.replicate s.length none)) [.io g3, .val (tupI s), .val P, .un, .un, .un, .un, .val odd, .val (tupI p), .un, .un] :=
    mop_ok (d := .tuple [.none]) (ρ1 := [.io g3, .val (tupI s), .val P, .un, .un, .un, .un, .val odd, .val (tupI p), .un, .un]) (by simp [mbind, mret, mvar, mop, mcall, mcons, mnil, mlift, mtup, mlst, mif, mand, mor, mnot, mandB, morB, mnotB, mtest, mtestB, truth, mbool, mchain, mneg, uNeg, sbind, sseq, sif, sret, sretN, sdrop, snext, sraise, sasg, tname, ttup, tcons, tnil, isIo, mitems, items, mrange, mpart, dInt, mslice, runDef, outs, ssub, ssub2, mineAt, Slot.mine, Slot.put, mixO, mixO2, spar, sparN, sparO, snew, mmut, mmut2, mcallF, mcallIo, mcallIo2, wipeD, restD, calmAt, fLen, fInt, fAbs, fTuple, fList, opAdd, opSub, cmpLt, cmpLe, cmpGt, cmpGe, cmpIs, cmpIsNot, isNone]) (mcall_ok (z := .int s.length) (mcons_ok (mvar_ok (d := tupI s) rfl) rfl) (by simp [fLen])) (none_mul ok)
  have s1 : q_law_are_refused_1 [.io g2, .val (tupI s), .val P, .un, .un, .un, .un, .val odd, .val (tupI p), .un, .un] = .next [.io g4, .val (tupI s), .val P, .un, .un, .val bad, .un, .val odd, .val (tupI p), .un, .val wrong] := by
    have c1 : mcallIo F_law_spoiled 0 (mcons (mvar 1) (mcons (mvar 8) (mnil))) ([.io g2, .val (tupI s), .val P, .un, .un, .un, .un, .val odd, .val (tupI p), .un, .un] : DEnv) = .ok bad [.io g3, .val (tupI s), .val P, .un, .un, .un, .un, .val odd, .val (tupI p), .un, .un] := by
      simp [mbind, mret, mvar, mop, mcall, mcons, mnil, mlift, mtup, mlst, mif, mand, mor, mnot, mandB, morB, mnotB, mtest, mtestB, truth, mbool, mchain, mneg, uNeg, sbind, sseq, sif, sret, sretN, sdrop, snext, sraise, sasg, tname, ttup, tcons, tnil, isIo, mitems, items, mrange, mpart, dInt, mslice, runDef, outs, ssub, ssub2, mineAt, Slot.mine, Slot.put, mixO, mixO2, spar, sparN, sparO, snew, mmut, mmut2, mcallF, mcallIo, mcallIo2, wipeD, restD, calmAt, fLen, fInt, fAbs, fTuple, fList, opAdd, opSub, cmpLt, cmpLe, cmpGt, cmpGe, cmpIs, cmpIsNot, isNone, e3]
    have c2 : mcallIo F_law_spoiled 0 (mcons (mvar 1) (mcons (mop opMul (mtup (mcons (mret .none) (mnil))) (mcall fLen (mcons (mvar 1) (mnil)))) (mnil))) ([.io g3, .val (tupI s), .val P, .un, .un, .un, .un, .val odd, .val (tupI p), .un, .un] : DEnv) = .ok wrong [.io g4, .val (tupI s), .val P, .un, .un, .un, .un, .val odd, .val (tupI p), .un, .un] := by
      unfold mcallIo
      simp only [mineAt, Slot.mine, Option.map_some, List.getElem?_cons_zero]
      rw [mbind_ok (mcons_ok (mvar_ok rfl) (mcons_ok hm mnil_ok))]
      simp [mcallIo2, mineAt, Slot.mine, e4, Slot.put]
    refine sasg_ok (d := .tuple [bad, wrong]) (ρ1 := [.io g4, .val (tupI s), .val P, .un, .un, .un, .un, .val odd, .val (tupI p), .un, .un]) ?_ (by simp [mbind, mret, mvar, mop, mcall, mcons, mnil, mlift, mtup, mlst, mif, mand, mor, mnot, mandB, morB, mnotB, mtest, mtestB, truth, mbool, mchain, mneg, uNeg, sbind, sseq, sif, sret, sretN, sdrop, snext, sraise, sasg, tname, ttup, tcons, tnil, isIo, mitems, items, mrange, mpart, dInt, mslice, runDef, outs, ssub, ssub2, mineAt, Slot.mine, Slot.put, mixO, mixO2, spar, sparN, sparO, snew, mmut, mmut2, mcallF, mcallIo, mcallIo2, wipeD, restD, calmAt, fLen, fInt, fAbs, fTuple, fList, opAdd, opSub, cmpLt, cmpLe, cmpGt, cmpGe, cmpIs, cmpIsNot, isNone])
    exact mtup_ok (mcons_ok c1 (mcons_ok c2 mnil_ok)) (show 2 ≤ 1000 by decide)
  have s2 : q_law_are_refused_2 [.io g4, .val (tupI s), .val P, .un, .un, .val bad, .un, .val odd, .val (tupI p), .un, .val wrong] = .next (rf g6 P bad fld odd (tupI p) val wrong s .un .un) := by
    simp [q_law_are_refused_2, rf, mbind, mret, mvar, mop, mcall, mcons, mnil, mlift, mtup, mlst, mif, mand, mor, mnot, mandB, morB, mnotB, mtest, mtestB, truth, mbool, mchain, mneg, uNeg, sbind, sseq, sif, sret, sretN, sdrop, snext, sraise, sasg, tname, ttup, tcons, tnil, isIo, mitems, items, mrange, mpart, dInt, mslice, runDef, outs, ssub, ssub2, mineAt, Slot.mine, Slot.put, mixO, mixO2, spar, sparN, sparO, snew, mmut, mmut2, mcallF, mcallIo, mcallIo2, wipeD, restD, calmAt, fLen, fInt, fAbs, fTuple, fList, opAdd, opSub, cmpLt, cmpLe, cmpGt, cmpGe, cmpIs, cmpIsNot, isNone, e5, e6]
  have s3 : q_law_are_refused_3 (rf g6 P bad fld odd (tupI p) val wrong s .un .un) = .next (rf g6 P bad fld odd (tupI p) val wrong s .un .un) := by
    have a1 := e_is_packet ok bad
    have a2 := e_is_cube ok wrong
    rw [hbp] at a1
    rw [hw] at a2
    refine (sif_f (ρ1 := rf g6 P bad fld odd (tupI p) val wrong s .un .un) ?_).trans rfl
    refine (morB_f (ρ1 := rf g6 P bad fld odd (tupI p) val wrong s .un .un) ?_).trans ?_
    · exact mtestB_ok (mop_ok (mcallF_ok (mcons_ok (mvar_ok rfl) (mcons_ok (mvar_ok rfl) rfl)) a1) rfl rfl)
    · exact mtestB_ok (mop_ok (mcallF_ok (mcons_ok (mvar_ok rfl) (mcons_ok (mvar_ok rfl) rfl)) a2) rfl rfl)
  have s4 : q_law_are_refused_4 (rf g6 P bad fld odd (tupI p) val wrong s .un .un) = .next (rf g6 P bad fld odd (tupI p) val wrong s (ownS (words12.take 1)) .un) := by
    have m1 : mcallF F_with_value (mcons (mvar 7) (mcons (mvar 5) (mcons (mvar 6) (mcons (mvar 9) (mnil))))) (rf g6 P bad fld odd (tupI p) val wrong s .un .un) = .err "NoSpace" (rf g6 P bad fld odd (tupI p) val wrong s .un .un) :=
      mcallF_err (mcons_ok (mvar_ok rfl) (mcons_ok (mvar_ok rfl) (mcons_ok (mvar_ok rfl) (mcons_ok (mvar_ok rfl) rfl)))) (e_with_bad ho bad fld val)
    unfold q_law_are_refused_4 snew sbind mlst
    rw [mbind_ok (mcons_ok (ms := mnil) (mword_err m1 lk1) rfl)]
    rfl
  have s5 : q_law_are_refused_5 (rf g6 P bad fld odd (tupI p) val wrong s (ownS (words12.take 1)) .un) = .next (rf g6 P bad fld odd (tupI p) val wrong s (ownS (words12.take 2)) .un) :=
    word_step2 (mcallF_err (mcons_ok (mvar_ok rfl) (mcons_ok (mvar_ok rfl) (mcons_ok (mvar_ok rfl) (mcons_ok (mvar_ok rfl) rfl)))) (e_with_pk ok hbp fld val)) lk2 (by decide) rfl
  have s6 : q_law_are_refused_6 (rf g6 P bad fld odd (tupI p) val wrong s (ownS (words12.take 2)) .un) = .next (rf g6 P bad fld odd (tupI p) val wrong s (ownS (words12.take 3)) .un) :=
    word_step2 (mcallF_err (mcons_ok (mvar_ok rfl) (mcons_ok (mvar_ok rfl) (mcons_ok (mvar_ok rfl) (mcons_ok (mvar_ok rfl) rfl)))) (e_with_fd ok hp hf val)) lk4 (by decide) rfl
  have s7 : q_law_are_refused_7 (rf g6 P bad fld odd (tupI p) val wrong s (ownS (words12.take 3)) .un) = .next (rf g6 P bad fld odd (tupI p) val wrong s (ownS (words12.take 4)) .un) := by
    have e : (s.length : Int) - 1 = ((s.length - 1 : Nat) : Int) := by omega
    have hlast : mop opSub (mcall fLen (mcons (mvar 1) (mnil))) (mret (.int 1)) (rf g6 P bad fld odd (tupI p) val wrong s (ownS (words12.take 3)) .un) = .ok (.int ((s.length - 1 : Nat) : Int)) (rf g6 P bad fld odd (tupI p) val wrong s (ownS (words12.take 3)) .un) := by
      refine (mop_ok (mcall_ok (z := .int s.length) (mcons_ok (mvar_ok (d := tupI s) rfl) rfl) (by simp [fLen])) rfl rfl).trans ?_
      rw [e]
    exact word_step2 (mcallF_err (mcons_ok (mvar_ok rfl) (mcons_ok (mvar_ok rfl) (mcons_ok hlast (mcons_ok (mvar_ok rfl) rfl)))) (e_with_vl ok hp hz hv)) lk5 (by decide) rfl
  have s8 : q_law_are_refused_8 (rf g6 P bad fld odd (tupI p) val wrong s (ownS (words12.take 4)) .un) = .next (rf g6 P bad fld odd (tupI p) val wrong s (ownS (words12.take 5)) .un) :=
    word_step2 (mcallF_err (mcons_ok (mvar_ok rfl) (mcons_ok (mvar_ok rfl) (mcons_ok (mvar_ok rfl) rfl))) (e_has_bad ho wrong bad)) lk1 (by decide) rfl
  have s9 : q_law_are_refused_9 (rf g6 P bad fld odd (tupI p) val wrong s (ownS (words12.take 5)) .un) = .next (rf g6 P bad fld odd (tupI p) val wrong s (ownS (words12.take 6)) .un) :=
    word_step2 (mcallF_err (mcons_ok (mvar_ok rfl) (mcons_ok (mvar_ok rfl) (mcons_ok (mvar_ok rfl) rfl))) (e_has_no ok hw bad)) lk3 (by decide) rfl
  have s10 : q_law_are_refused_10 (rf g6 P bad fld odd (tupI p) val wrong s (ownS (words12.take 6)) .un) = .next (rf g6 P bad fld odd (tupI p) val wrong s (ownS (words12.take 7)) .un) :=
    word_step2 (mcallF_err (mcons_ok (mvar_ok rfl) (mcons_ok (mvar_ok rfl) (mcons_ok (mvar_ok rfl) rfl))) (e_has_np ok hcu hbp)) lk2 (by decide) rfl
  have s11 : q_law_are_refused_11 (rf g6 P bad fld odd (tupI p) val wrong s (ownS (words12.take 7)) .un) = .next (rf g6 P bad fld odd (tupI p) val wrong s (ownS (words12.take 8)) .un) :=
    word_step2 (mcallF_err (mcons_ok (mvar_ok rfl) (mcons_ok (mvar_ok rfl) rfl)) (e_packets_in_bad ho wrong)) lk1 (by decide) rfl
  have s12 : q_law_are_refused_12 (rf g6 P bad fld odd (tupI p) val wrong s (ownS (words12.take 8)) .un) = .next (rf g6 P bad fld odd (tupI p) val wrong s (ownS (words12.take 9)) .un) :=
    word_step2 (mcallF_err (mcons_ok (mvar_ok rfl) (mcons_ok (mvar_ok rfl) rfl)) (e_packets_in_no ok hw)) lk3 (by decide) rfl
  have s13 : q_law_are_refused_13 (rf g6 P bad fld odd (tupI p) val wrong s (ownS (words12.take 9)) .un) = .next (rf g6 P bad fld odd (tupI p) val wrong s (ownS (words12.take 10)) .un) :=
    word_step2 (mcallF_err (mcons_ok (mvar_ok rfl) (mcons_ok (mvar_ok rfl) rfl)) (e_is_packet_bad ho (tupI p))) lk1 (by decide) rfl
  have s14 : q_law_are_refused_14 (rf g6 P bad fld odd (tupI p) val wrong s (ownS (words12.take 10)) .un) = .next (rf g6 P bad fld odd (tupI p) val wrong s (ownS (words12.take 11)) .un) :=
    word_step2 (mcallF_err (mcons_ok (mvar_ok rfl) (mcons_ok (mvar_ok rfl) rfl)) (e_is_cube_bad ho (tupI p))) lk1 (by decide) rfl
  have po : F_packets_of [.val odd] = .err "NoSpace" [.val odd] := by
    unfold F_packets_of runDef b_packets_of q_packets_of_ q_packets_of_0
    simp [mbind, mret, mvar, mop, mcall, mcons, mnil, mlift, mtup, mlst, mif, mand, mor, mnot, mandB, morB, mnotB, mtest, mtestB, truth, mbool, mchain, mneg, uNeg, sbind, sseq, sif, sret, sretN, sdrop, snext, sraise, sasg, tname, ttup, tcons, tnil, isIo, mitems, items, mrange, mpart, dInt, mslice, runDef, outs, ssub, ssub2, mineAt, Slot.mine, Slot.put, mixO, mixO2, spar, sparN, sparO, snew, mmut, mmut2, mcallF, mcallIo, mcallIo2, wipeD, restD, calmAt, fLen, fInt, fAbs, fTuple, fList, opAdd, opSub, cmpLt, cmpLe, cmpGt, cmpGe, cmpIs, cmpIsNot, isNone, check_bad ho]
  have s15 : q_law_are_refused_15 (rf g6 P bad fld odd (tupI p) val wrong s (ownS (words12.take 11)) .un) = .next (rf g6 P bad fld odd (tupI p) val wrong s (ownS (words12.take 12)) .un) :=
    word_step2 (mcallF_err (mcons_ok (mvar_ok rfl) rfl) (po)) lk1 (by decide) rfl
  have s16 : q_law_are_refused_16 (rf g6 P bad fld odd (tupI p) val wrong s (ownS words12) .un) = .next (rf g6 P bad fld odd (tupI p) val wrong s (ownS words12) (.val (.list ((words12.take 9).map .str)))) := by
    simp [q_law_are_refused_16, rf, mbind, mret, mvar, mop, mcall, mcons, mnil, mlift, mtup, mlst, mif, mand, mor, mnot, mandB, morB, mnotB, mtest, mtestB, truth, mbool, mchain, mneg, uNeg, sbind, sseq, sif, sret, sretN, sdrop, snext, sraise, sasg, tname, ttup, tcons, tnil, isIo, mitems, items, mrange, mpart, dInt, mslice, runDef, outs, ssub, ssub2, mineAt, Slot.mine, Slot.put, mixO, mixO2, spar, sparN, sparO, snew, mmut, mmut2, mcallF, mcallIo, mcallIo2, wipeD, restD, calmAt, fLen, fInt, fAbs, fTuple, fList, opAdd, opSub, cmpLt, cmpLe, cmpGt, cmpGe, cmpIs, cmpIsNot, isNone, words12]
  have s17 : q_law_are_refused_17 (rf g6 P bad fld odd (tupI p) val wrong s (ownS words12) (.val (.list ((words12.take 9).map .str)))) = .ret (.bool true) (rf g6 P bad fld odd (tupI p) val wrong s (.val (.list (words12.map .str))) (.val (.list ((words12.take 9).map .str)))) := by
    have k1 : mvar 3 (rf g6 P bad fld odd (tupI p) val wrong s (ownS words12) (.val (.list ((words12.take 9).map .str)))) = .ok (.list (words12.map .str)) (rf g6 P bad fld odd (tupI p) val wrong s (.val (.list (words12.map .str))) (.val (.list ((words12.take 9).map .str)))) := rfl
    have k2 : mop opAdd (mvar 4) (mop opMul (mlst (mcons (mret (.str "NoSpace")) (mnil))) (mret (.int 3))) (rf g6 P bad fld odd (tupI p) val wrong s (.val (.list (words12.map .str))) (.val (.list ((words12.take 9).map .str)))) = .ok (.list (words12.map .str)) (rf g6 P bad fld odd (tupI p) val wrong s (.val (.list (words12.map .str))) (.val (.list ((words12.take 9).map .str)))) := by
      refine mop_ok (mvar_ok rfl) (mop_ok (d := .list [.str "NoSpace"]) (ρ1 := rf g6 P bad fld odd (tupI p) val wrong s (.val (.list (words12.map .str))) (.val (.list ((words12.take 9).map .str)))) (by simp [mbind, mret, mvar, mop, mcall, mcons, mnil, mlift, mtup, mlst, mif, mand, mor, mnot, mandB, morB, mnotB, mtest, mtestB, truth, mbool, mchain, mneg, uNeg, sbind, sseq, sif, sret, sretN, sdrop, snext, sraise, sasg, tname, ttup, tcons, tnil, isIo, mitems, items, mrange, mpart, dInt, mslice, runDef, outs, ssub, ssub2, mineAt, Slot.mine, Slot.put, mixO, mixO2, spar, sparN, sparO, snew, mmut, mmut2, mcallF, mcallIo, mcallIo2, wipeD, restD, calmAt, fLen, fInt, fAbs, fTuple, fList, opAdd, opSub, cmpLt, cmpLe, cmpGt, cmpGe, cmpIs, cmpIsNot, isNone]) rfl (z := .list [.str "NoSpace", .str "NoSpace", .str "NoSpace"]) ?_) ?_
      · simp [opMul, repD, sizeLine_eq]
        try rfl
      · exact opAdd_lst (by simp [words12])
    have k3 : mop cmpIs (mcallF F_is_space (mcons (mvar 7) (mnil))) (mret (.bool false)) (rf g6 P bad fld odd (tupI p) val wrong s (.val (.list (words12.map .str))) (.val (.list ((words12.take 9).map .str)))) = .ok (.bool true) (rf g6 P bad fld odd (tupI p) val wrong s (.val (.list (words12.map .str))) (.val (.list ((words12.take 9).map .str)))) := by
      have q := e_is_space odd
      rw [ho] at q
      exact mop_ok (mcallF_ok (mcons_ok (mvar_ok rfl) rfl) q) rfl rfl
    refine sret_ok ?_
    unfold mand
    rw [mbind_ok (mop_ok k1 k2 eq12)]
    exact k3
  refine ⟨g6, ho6, ?_⟩
  unfold F_law_are_refused runDef b_law_are_refused q_law_are_refused_
  rw [sseq_next s0, sseq_next s1, sseq_next s2, sseq_next s3, sseq_next s4, sseq_next s5, sseq_next s6, sseq_next s7, sseq_next s8, sseq_next s9, sseq_next s10, sseq_next s11, sseq_next s12, sseq_next s13, sseq_next s14, sseq_next s15]
  have ew : words12.take 12 = words12 := rfl
  rw [ew, sseq_next s16, s17]
  rfl
end Lw
namespace Lw
open PySem PySem.Spec PyProof.Rows L2 RZ LamX PL
open PySem.W (Frag)
def la (g : D) (x2 x3 x4 x5 x6 : Slot) : DEnv := [.un, .own g, x2, x3, x4, x5, x6]
theorem mand_t {a b : M D} {ρ ρ1 : DEnv} (h : a ρ = .ok (.bool true) ρ1) : mand a b ρ = b ρ1 := by
  unfold mand
  rw [mbind_ok h]
  rfl
theorem k_law {s : List Int} (ok : SpOk s) (g : D) (x2 x5 : Slot) : k_law_0 (la g x2 (.val (tupI s)) (.val (.list ((pk s).map tupI))) x5 .un) = .ok (.list ((pk s).map fun _ => .bool true)) (la g x2 (.val (tupI s)) (.val (.list ((pk s).map tupI))) x5 .un) := by
  have e : ((pk s).map fun _ => PyData.bool true) = ((pk s).map tupI).map fun _ => .bool true := by rw [List.map_map]; rfl
  rw [e]
  refine (mcomp_map _ (fun d => la g x2 (.val (tupI s)) (.val (.list ((pk s).map tupI))) x5 (.val d)) (ρ0 := la g x2 (.val (tupI s)) (.val (.list ((pk s).map tupI))) x5 .un) (ds := (pk s).map tupI) (by simp [la, mbind, mret, mvar, mop, mcall, mcons, mnil, mlift, mtup, mlst, mif, mand, mor, mnot, mandB, morB, mnotB, mtest, mtestB, truth, mbool, mchain, mneg, uNeg, sbind, sseq, sif, sret, sretN, sdrop, snext, sraise, sasg, tname, ttup, tcons, tnil, isIo, mitems, items, mrange, mpart, dInt, mslice, runDef, outs, ssub, ssub2, mineAt, Slot.mine, Slot.put, mixO, mixO2, spar, sparN, sparO, snew, mmut, mmut2, mcallF, mcallIo, mcallIo2, wipeD, restD, calmAt, fLen, fInt, fAbs, fTuple, fList, opAdd, opSub, cmpLt, cmpLe, cmpGt, cmpGe, cmpIs, cmpIsNot, isNone]) rfl ?_).trans rfl
  intro d hd
  obtain ⟨p, hp, rfl⟩ := List.mem_map.mp hd
  have h1 := isPk_pk hp
  have h2 := isCu_of_isPk h1
  have a1 := e_is_packet ok (tupI p)
  have a2 := e_is_cube ok (tupI p)
  rw [h1] at a1
  rw [h2] at a2
  refine ⟨rfl, ?_, rfl⟩
  exact (mand_t (mop_ok (mcallF_ok (mcons_ok (mvar_ok rfl) (mcons_ok (mvar_ok rfl) rfl)) a1) rfl rfl)).trans (mop_ok (mcallF_ok (mcons_ok (mvar_ok rfl) (mcons_ok (mvar_ok rfl) rfl)) a2) rfl rfl)
theorem io_call {F : DEnv → Res D} {i : Nat} {ms : M (List D)} {ρ ρ1 : DEnv} {ds : List D} {g g' d : D} {r : DEnv} (h0 : ∃ c, ρ[i]? = some (.own c)) (h : ms ρ = .ok ds ρ1) (h1 : ρ1[i]? = some (.own g)) (hF : F (.io g :: ds.map .val) = .ok d (.io g' :: r)) : mcallIo F i ms ρ = .ok d (ρ1.set i (.own g')) := by
  obtain ⟨c, h0⟩ := h0
  unfold mcallIo
  simp only [mineAt, h0, Slot.mine, Option.map_some]
  rw [mbind_ok h]
  unfold mcallIo2
  simp only [mineAt, h1, Slot.mine, Option.map_some, hF, Slot.put]
theorem turn_ok {g : D} (hh : HandOk g) {x2 x3 x4 x5 : Slot} (h3 : nI x3) (h4 : nI x4) (h5 : nI x5) : ∃ g' y3 y4 y5, HandOk g' ∧ nI y3 ∧ nI y4 ∧ nI y5 ∧ q_law_0b (la g x2 x3 x4 x5 .un) = .next (la g' x2 y3 y4 y5 .un) := by
  obtain ⟨s, g1, ok, ho1, e1⟩ := e_law_wide g hh
  have s0 : q_law_0b0 (la g x2 x3 x4 x5 .un) = .next (la g1 x2 (.val (tupI s)) x4 x5 .un) := by
    refine sasg_ok (io_call (i := 1) ⟨g, rfl⟩ mnil_ok rfl e1) ?_
    exact tname_ok h3
  have s1 : q_law_0b1 (la g1 x2 (.val (tupI s)) x4 x5 .un) = .next (la g1 x2 (.val (tupI s)) (.val (.list ((pk s).map tupI))) x5 .un) := by
    refine sasg_ok (mcallF_ok (mcons_ok (mvar_ok rfl) rfl) (e_law_packets ok)) ?_
    exact tname_ok h4
  have hsp := isSpace_ok ok
  have s2 : q_law_0b2 (la g1 x2 (.val (tupI s)) (.val (.list ((pk s).map tupI))) x5 .un) = .next (la g1 x2 (.val (tupI s)) (.val (.list ((pk s).map tupI))) x5 .un) := by
    have a1 := e_is_space (tupI s)
    rw [hsp] at a1
    have a2 := e_packets_of (tupI s) s fun _ => ⟨rfl, ok⟩
    rw [if_pos hsp] at a2
    refine (sif_f (ρ1 := la g1 x2 (.val (tupI s)) (.val (.list ((pk s).map tupI))) x5 .un) ?_).trans rfl
    refine (morB_f (ρ1 := la g1 x2 (.val (tupI s)) (.val (.list ((pk s).map tupI))) x5 .un) ?_).trans ?_
    · exact mtestB_ok (mop_ok (mcallF_ok (mcons_ok (mvar_ok rfl) rfl) a1) rfl rfl)
    · exact mtestB_ok (mop_ok (mcallF_ok (mcons_ok (mvar_ok rfl) rfl) a2) (mcall_ok (mcons_ok (mvar_ok rfl) rfl) rfl) (cmpNe_pkt _))
  have s3 : q_law_0b3 (la g1 x2 (.val (tupI s)) (.val (.list ((pk s).map tupI))) x5 .un) = .next (la g1 x2 (.val (tupI s)) (.val (.list ((pk s).map tupI))) x5 .un) := by
    refine (sif_f (ρ1 := la g1 x2 (.val (tupI s)) (.val (.list ((pk s).map tupI))) x5 .un) ?_).trans rfl
    refine mnotB_ok (b := true) (mtest_ok (d := .bool true) (mcall_ok (mcons_ok (k_law ok g1 x2 x5) rfl) ?_) rfl)
    rw [fAll_map]
    simp
  have s4 : q_law_0b4 (la g1 x2 (.val (tupI s)) (.val (.list ((pk s).map tupI))) x5 .un) = .next (la g1 x2 (.val (tupI s)) (.val (.list ((pk s).map tupI))) x5 .un) := by
    have hm : mop opMul (mtup (mcons (mret .none) (mnil))) (mcall fLen (mcons (mvar 3) (mnil))) (la g1 x2 (.val (tupI s)) (.val (.list ((pk s).map tupI))) x5 .un) = .ok (cuD (List.replicate s.length none)) (la g1 x2 (.val (tupI s)) (.val (.list ((pk s).map tupI))) x5 .un) :=
      mop_ok (d := .tuple [.none]) (ρ1 := la g1 x2 (.val (tupI s)) (.val (.list ((pk s).map tupI))) x5 .un) (by simp [mbind, mret, mvar, mop, mcall, mcons, mnil, mlift, mtup, mlst, mif, mand, mor, mnot, mandB, morB, mnotB, mtest, mtestB, truth, mbool, mchain, mneg, uNeg, sbind, sseq, sif, sret, sretN, sdrop, snext, sraise, sasg, tname, ttup, tcons, tnil, isIo, mitems, items, mrange, mpart, dInt, mslice, runDef, outs, ssub, ssub2, mineAt, Slot.mine, Slot.put, mixO, mixO2, spar, sparN, sparO, snew, mmut, mmut2, mcallF, mcallIo, mcallIo2, wipeD, restD, calmAt, fLen, fInt, fAbs, fTuple, fList, opAdd, opSub, cmpLt, cmpLe, cmpGt, cmpGe, cmpIs, cmpIsNot, isNone]) (mcall_ok (z := .int s.length) (mcons_ok (mvar_ok (d := tupI s) rfl) rfl) (by simp [fLen])) (none_mul ok)
    have hn : isPk s (cuD (List.replicate s.length none)) = false := by
      have h1 := ok.one
      match s, h1 with
      | z :: s, _ => rfl
    have a1 := e_is_packet ok (cuD (List.replicate s.length none))
    rw [hn] at a1
    exact (sif_f (mtestB_ok (mop_ok (mcallF_ok (mcons_ok (mvar_ok rfl) (mcons_ok hm rfl)) a1) rfl rfl))).trans rfl
  obtain ⟨g2, ho2, e2⟩ := e_law_turned ok ho1
  obtain ⟨g3, ho3, e3⟩ := e_law_cubes ok ho2
  have s5 : q_law_0b5 (la g1 x2 (.val (tupI s)) (.val (.list ((pk s).map tupI))) x5 .un) = .next (la g3 x2 (.val (tupI s)) (.val (.list ((pk s).map tupI))) x5 .un) := by
    refine (sif_f (ρ1 := la g3 x2 (.val (tupI s)) (.val (.list ((pk s).map tupI))) x5 .un) ?_).trans rfl
    refine (morB_f (ρ1 := la g2 x2 (.val (tupI s)) (.val (.list ((pk s).map tupI))) x5 .un) ?_).trans ?_
    · exact mnotB_ok (b := true) (mtest_ok (d := .bool true) (io_call (i := 1) ⟨g1, rfl⟩ (mcons_ok (mvar_ok rfl) (mcons_ok (mvar_ok rfl) rfl)) rfl e2) rfl)
    · exact mnotB_ok (b := true) (mtest_ok (d := .bool true) (io_call (i := 1) ⟨g2, rfl⟩ (mcons_ok (mvar_ok rfl) (mcons_ok (mvar_ok rfl) rfl)) rfl e3) rfl)
  obtain ⟨ρ', s6, g4, y5, ho4, h5', rfl⟩ := sfor_all (m := mrange range1 (mcons (mret (.int 4)) (mnil))) (f := tname 5) (b := q_law_0b6b) (ρ := la g3 x2 (.val (tupI s)) (.val (.list ((pk s).map tupI))) x5 .un) (ρ0 := la g3 x2 (.val (tupI s)) (.val (.list ((pk s).map tupI))) x5 .un) (ds := (rangeI 4).map .int)
    (fun ρ => ∃ g x5, HandOk g ∧ nI x5 ∧ ρ = la g x2 (.val (tupI s)) (.val (.list ((pk s).map tupI))) x5 .un) (by simp [mrange, mbind, mcons, mret, mnil, mlift, range1_ok (z := 4) (by decide) (by decide)]) ⟨g3, x5, ho3, h5, rfl⟩ fun d ρ hd ⟨g, x5, ho, h5, e⟩ => by
      subst e
      obtain ⟨g', ho', e⟩ := e_law_refused ok ho
      refine ⟨la g x2 (.val (tupI s)) (.val (.list ((pk s).map tupI))) (.val d) .un, la g' x2 (.val (tupI s)) (.val (.list ((pk s).map tupI))) (.val d) .un, tname_ok h5, ?_, g', .val d, ho', rfl, rfl⟩
      refine (sif_f (ρ1 := la g' x2 (.val (tupI s)) (.val (.list ((pk s).map tupI))) (.val d) .un) ?_).trans rfl
      exact mnotB_ok (b := true) (mtest_ok (d := .bool true) (io_call (i := 1) ⟨g, rfl⟩ (mcons_ok (mvar_ok rfl) (mcons_ok (mvar_ok rfl) rfl)) rfl e) rfl)
  refine ⟨g4, .val (tupI s), .val (.list ((pk s).map tupI)), y5, ho4, rfl, rfl, h5', ?_⟩
  unfold q_law_0b
  rw [sseq_next s0, sseq_next s1, sseq_next s2, sseq_next s3, sseq_next s4, sseq_next s5]
  exact s6
theorem plain : Plain := by
  intro cells hc hn
  obtain ⟨ρ', e, g, x2, x3, x4, x5, _, _, _, _, _, rfl⟩ := sfor_all (m := mrange range1 (mcons (mret (.int 2)) (mnil))) (f := tname 2) (b := q_law_0b) (ρ := la (handD cells (fz cells.length)) .un .un .un .un .un) (ρ0 := la (handD cells (fz cells.length)) .un .un .un .un .un) (ds := (rangeI 2).map .int)
    (fun ρ => ∃ g x2 x3 x4 x5, HandOk g ∧ nI x2 ∧ nI x3 ∧ nI x4 ∧ nI x5 ∧ ρ = la g x2 x3 x4 x5 .un) (by simp [mrange, mbind, mcons, mret, mnil, mlift, range1_ok (z := 2) (by decide) (by decide)]) ⟨_, .un, .un, .un, .un, handOk hc hn, rfl, rfl, rfl, rfl, rfl⟩ fun d ρ hd ⟨g, x2, x3, x4, x5, ho, h2, h3, h4, h5, e⟩ => by
      subst e
      obtain ⟨g', y3, y4, y5, ho', k3, k4, k5, e⟩ := turn_ok ho (x2 := .val d) h3 h4 h5
      exact ⟨la g (.val d) x3 x4 x5 .un, _, tname_ok h2, e, g', .val d, y3, y4, y5, ho', rfl, k3, k4, k5, rfl⟩
  refine ⟨la g x2 x3 x4 x5 .un, ?_⟩
  unfold b_law q_law_
  have e1 : q_law_0 (.un :: .own (handD cells (fz cells.length)) :: List.replicate 5 .un) = .next _ := e
  rw [sseq_next e1]
  rfl
end Lw
open PySem PySem.W PyProof.Rows
set_option maxRecDepth 100000 in
set_option maxHeartbeats 0 in
theorem PySem.Challenge.cw_hopskept_k09_whole_packets_and_cubes_of_holds : PySem.Challenge.rw_hopskept_k09_whole_packets_and_cubes_of.Holds := by
  w_on; o_law; k_head; (case hw => w_witness2)
  k_fill
  refine PL.walk_law (l := PySem.Challenge.rw_hopskept_k09_whole_packets_and_cubes_of) (n := 63) (k := 12) (x := "script") ["_law_are_refused"] rfl (by decide) rfl ⟨rfl, by decide, by decide⟩ (by decide +kernel) (by intro w h Y; first | exact PySem.W.kIn_of Y | exact PySem.W.km_in_of Y) ?F
  case F =>
    intro w mg fa h Y KX G hmg R
    have n_abs := PySem.W.mg_none_of (n := "abs") KX G (by k_is)
    have n_all := PySem.W.mg_none_of (n := "all") KX G (by k_is)
    have n_bool := PySem.W.mg_none_of (n := "bool") KX G (by k_is)
    have n_enumerate := PySem.W.mg_none_of (n := "enumerate") KX G (by k_is)
    have n_int := PySem.W.mg_none_of (n := "int") KX G (by k_is)
    have n_isinstance := PySem.W.mg_none_of (n := "isinstance") KX G (by k_is)
    have n_len := PySem.W.mg_none_of (n := "len") KX G (by k_is)
    have n_list := PySem.W.mg_none_of (n := "list") KX G (by k_is)
    have n_range := PySem.W.mg_none_of (n := "range") KX G (by k_is)
    have n_tuple := PySem.W.mg_none_of (n := "tuple") KX G (by k_is)
    have n_zip := PySem.W.mg_none_of (n := "zip") KX G (by k_is)
    have c_LEAST_SIZE := PySem.W.mg_of (n := "LEAST_SIZE") KX G (by k_is)
    have c_MOST_FIELDS := PySem.W.mg_of (n := "MOST_FIELDS") KX G (by k_is)
    have c_MOST_PACKETS := PySem.W.mg_of (n := "MOST_PACKETS") KX G (by k_is)
    have c_MOST_SIZE := PySem.W.mg_of (n := "MOST_SIZE") KX G (by k_is)
    have x_NoCube := PL.excF_mk (x := "NoCube") KX G (by k_is) (by k_exc) (by k_is) (by k_is) (by k_is)
    have x_NoField := PL.excF_mk (x := "NoField") KX G (by k_is) (by k_exc) (by k_is) (by k_is) (by k_is)
    have x_NoPacket := PL.excF_mk (x := "NoPacket") KX G (by k_is) (by k_exc) (by k_is) (by k_is) (by k_is)
    have x_NoSpace := PL.excF_mk (x := "NoSpace") KX G (by k_is) (by k_exc) (by k_is) (by k_is) (by k_is)
    have x_NoValue := PL.excF_mk (x := "NoValue") KX G (by k_is) (by k_exc) (by k_is) (by k_is) (by k_is)
    have d_law_draw := PL.defC_mk (x := "_law_draw") (st := Lw.s_law_draw) (ps := ["hand", "below"]) KX G (by k_is) (by k_is) (by k_is) (by k_is) (fun us hl => match us, hl with | [_, _], _ => rfl)
    have d_law_any := PL.defC_mk (x := "_law_any") (st := Lw.s_law_any) (ps := ["hand", "things"]) KX G (by k_is) (by k_is) (by k_is) (by k_is) (fun us hl => match us, hl with | [_, _], _ => rfl)
    have d_law_wide := PL.defC_mk (x := "_law_wide") (st := Lw.s_law_wide) (ps := ["hand"]) KX G (by k_is) (by k_is) (by k_is) (by k_is) (fun us hl => match us, hl with | [_], _ => rfl)
    have d_law_packets := PL.defC_mk (x := "_law_packets") (st := Lw.s_law_packets) (ps := ["space"]) KX G (by k_is) (by k_is) (by k_is) (by k_is) (fun us hl => match us, hl with | [_], _ => rfl)
    have d_is_sized := PL.defC_mk (x := "is_sized") (st := Lw.s_is_sized) (ps := ["thing", "least", "most"]) KX G (by k_is) (by k_is) (by k_is) (by k_is) (fun us hl => match us, hl with | [_, _, _], _ => rfl)
    have d_is_integer := PL.defC_mk (x := "is_integer") (st := Lw.s_is_integer) (ps := ["thing"]) KX G (by k_is) (by k_is) (by k_is) (by k_is) (fun us hl => match us, hl with | [_], _ => rfl)
    have d_is_within := PL.defC_mk (x := "is_within") (st := Lw.s_is_within) (ps := ["thing", "least", "most"]) KX G (by k_is) (by k_is) (by k_is) (by k_is) (fun us hl => match us, hl with | [_, _, _], _ => rfl)
    have d_product_of := PL.defC_mk (x := "product_of") (st := Lw.s_product_of) (ps := ["sizes"]) KX G (by k_is) (by k_is) (by k_is) (by k_is) (fun us hl => match us, hl with | [_], _ => rfl)
    have d_is_space := PL.defC_mk (x := "is_space") (st := Lw.s_is_space) (ps := ["thing"]) KX G (by k_is) (by k_is) (by k_is) (by k_is) (fun us hl => match us, hl with | [_], _ => rfl)
    have d_check_space := PL.defC_mk (x := "check_space") (st := Lw.s_check_space) (ps := ["space"]) KX G (by k_is) (by k_is) (by k_is) (by k_is) (fun us hl => match us, hl with | [_], _ => rfl)
    have d_raw_packets := PL.defC_mk (x := "raw_packets") (st := Lw.s_raw_packets) (ps := ["space"]) KX G (by k_is) (by k_is) (by k_is) (by k_is) (fun us hl => match us, hl with | [_], _ => rfl)
    have d_packets_of := PL.defC_mk (x := "packets_of") (st := Lw.s_packets_of) (ps := ["space"]) KX G (by k_is) (by k_is) (by k_is) (by k_is) (fun us hl => match us, hl with | [_], _ => rfl)
    have d_raw_is_packet := PL.defC_mk (x := "raw_is_packet") (st := Lw.s_raw_is_packet) (ps := ["space", "thing"]) KX G (by k_is) (by k_is) (by k_is) (by k_is) (fun us hl => match us, hl with | [_, _], _ => rfl)
    have d_is_packet := PL.defC_mk (x := "is_packet") (st := Lw.s_is_packet) (ps := ["space", "thing"]) KX G (by k_is) (by k_is) (by k_is) (by k_is) (fun us hl => match us, hl with | [_, _], _ => rfl)
    have d_raw_is_cube := PL.defC_mk (x := "raw_is_cube") (st := Lw.s_raw_is_cube) (ps := ["space", "thing"]) KX G (by k_is) (by k_is) (by k_is) (by k_is) (fun us hl => match us, hl with | [_, _], _ => rfl)
    have d_is_cube := PL.defC_mk (x := "is_cube") (st := Lw.s_is_cube) (ps := ["space", "thing"]) KX G (by k_is) (by k_is) (by k_is) (by k_is) (fun us hl => match us, hl with | [_, _], _ => rfl)
    have d_check_packet := PL.defC_mk (x := "check_packet") (st := Lw.s_check_packet) (ps := ["space", "packet"]) KX G (by k_is) (by k_is) (by k_is) (by k_is) (fun us hl => match us, hl with | [_, _], _ => rfl)
    have d_check_field := PL.defC_mk (x := "check_field") (st := Lw.s_check_field) (ps := ["space", "field", "value"]) KX G (by k_is) (by k_is) (by k_is) (by k_is) (fun us hl => match us, hl with | [_, _, _], _ => rfl)
    have d_raw_with := PL.defC_mk (x := "raw_with") (st := Lw.s_raw_with) (ps := ["packet", "field", "value"]) KX G (by k_is) (by k_is) (by k_is) (by k_is) (fun us hl => match us, hl with | [_, _, _], _ => rfl)
    have d_with_value := PL.defC_mk (x := "with_value") (st := Lw.s_with_value) (ps := ["space", "packet", "field", "value"]) KX G (by k_is) (by k_is) (by k_is) (by k_is) (fun us hl => match us, hl with | [_, _, _, _], _ => rfl)
    have d_law_are_turned_right := PL.defC_mk (x := "_law_are_turned_right") (st := Lw.s_law_are_turned_right) (ps := ["hand", "space", "packets"]) KX G (by k_is) (by k_is) (by k_is) (by k_is) (fun us hl => match us, hl with | [_, _, _], _ => rfl)
    have d_law_has := PL.defC_mk (x := "_law_has") (st := Lw.s_law_has) (ps := ["cube", "packet"]) KX G (by k_is) (by k_is) (by k_is) (by k_is) (fun us hl => match us, hl with | [_, _], _ => rfl)
    have d_check_cube := PL.defC_mk (x := "check_cube") (st := Lw.s_check_cube) (ps := ["space", "cube"]) KX G (by k_is) (by k_is) (by k_is) (by k_is) (fun us hl => match us, hl with | [_, _], _ => rfl)
    have d_raw_has := PL.defC_mk (x := "raw_has") (st := Lw.s_raw_has) (ps := ["cube", "packet"]) KX G (by k_is) (by k_is) (by k_is) (by k_is) (fun us hl => match us, hl with | [_, _], _ => rfl)
    have d_raw_packets_in := PL.defC_mk (x := "raw_packets_in") (st := Lw.s_raw_packets_in) (ps := ["space", "cube"]) KX G (by k_is) (by k_is) (by k_is) (by k_is) (fun us hl => match us, hl with | [_, _], _ => rfl)
    have d_packets_in := PL.defC_mk (x := "packets_in") (st := Lw.s_packets_in) (ps := ["space", "cube"]) KX G (by k_is) (by k_is) (by k_is) (by k_is) (fun us hl => match us, hl with | [_, _], _ => rfl)
    have d_has_packet := PL.defC_mk (x := "has_packet") (st := Lw.s_has_packet) (ps := ["space", "cube", "packet"]) KX G (by k_is) (by k_is) (by k_is) (by k_is) (fun us hl => match us, hl with | [_, _, _], _ => rfl)
    have d_law_are_cubes_right := PL.defC_mk (x := "_law_are_cubes_right") (st := Lw.s_law_are_cubes_right) (ps := ["hand", "space", "packets"]) KX G (by k_is) (by k_is) (by k_is) (by k_is) (fun us hl => match us, hl with | [_, _, _], _ => rfl)
    have d_law_no_space := PL.defC_mk (x := "_law_no_space") (st := Lw.s_law_no_space) (ps := ["hand", "space"]) KX G (by k_is) (by k_is) (by k_is) (by k_is) (fun us hl => match us, hl with | [_, _], _ => rfl)
    have d_law_spoiled := PL.defC_mk (x := "_law_spoiled") (st := Lw.s_law_spoiled) (ps := ["hand", "space", "thing"]) KX G (by k_is) (by k_is) (by k_is) (by k_is) (fun us hl => match us, hl with | [_, _, _], _ => rfl)
    have d_law_are_refused := PL.defC_mk (x := "_law_are_refused") (st := Lw.s_law_are_refused) (ps := ["hand", "space", "packets"]) KX G (by k_is) (by k_is) (by k_is) (by k_is) (fun us hl => match us, hl with | [_, _, _], _ => rfl)
    have d_law_word := PL.defC_mk (x := "_law_word") (st := Lw.s_law_word) (ps := ["call"]) KX G (by k_is) (by k_is) (by k_is) (by k_is) (fun us hl => match us, hl with | [_], _ => rfl)
    have d_law_hand := PL.defC_mk (x := "_law_hand") (st := Lw.s_law_hand) (ps := ["script"]) KX G (by k_is) (by k_is) (by k_is) (by k_is) (fun us hl => match us, hl with | [_], _ => rfl)
    have xm_NoCube_NoSpace := PL.exm_mk (r := false) x_NoCube x_NoSpace (by k_is) (by k_is)
    have xm_NoCube_NoPacket := PL.exm_mk (r := false) x_NoCube x_NoPacket (by k_is) (by k_is)
    have xm_NoCube_NoCube := PL.exm_mk (r := true) x_NoCube x_NoCube (by k_is) (by k_is)
    have xm_NoField_NoSpace := PL.exm_mk (r := false) x_NoField x_NoSpace (by k_is) (by k_is)
    have xm_NoField_NoPacket := PL.exm_mk (r := false) x_NoField x_NoPacket (by k_is) (by k_is)
    have xm_NoField_NoCube := PL.exm_mk (r := false) x_NoField x_NoCube (by k_is) (by k_is)
    have xm_NoField_NoField := PL.exm_mk (r := true) x_NoField x_NoField (by k_is) (by k_is)
    have xm_NoPacket_NoSpace := PL.exm_mk (r := false) x_NoPacket x_NoSpace (by k_is) (by k_is)
    have xm_NoPacket_NoPacket := PL.exm_mk (r := true) x_NoPacket x_NoPacket (by k_is) (by k_is)
    have xm_NoSpace_NoSpace := PL.exm_mk (r := true) x_NoSpace x_NoSpace (by k_is) (by k_is)
    have xm_NoValue_NoSpace := PL.exm_mk (r := false) x_NoValue x_NoSpace (by k_is) (by k_is)
    have xm_NoValue_NoPacket := PL.exm_mk (r := false) x_NoValue x_NoPacket (by k_is) (by k_is)
    have xm_NoValue_NoCube := PL.exm_mk (r := false) x_NoValue x_NoCube (by k_is) (by k_is)
    have xm_NoValue_NoField := PL.exm_mk (r := false) x_NoValue x_NoField (by k_is) (by k_is)
    have xm_NoValue_NoValue := PL.exm_mk (r := true) x_NoValue x_NoValue (by k_is) (by k_is)
    have L := PL.lawF_mk (st := Lw.s_law) KX G hmg (by k_is) (by k_is) (by k_is) (fun v => rfl)
    have f_law_are_refused := PL.tabF_mk (R "_law_are_refused" (by simp)) d_law_are_refused (by k_is) (by rfl) (by kernel_rfl)
    exact Lw.law_at Lw.plain { n_abs := n_abs, n_all := n_all, n_bool := n_bool, n_enumerate := n_enumerate, n_int := n_int, n_isinstance := n_isinstance, n_len := n_len, n_list := n_list, n_range := n_range, n_tuple := n_tuple, n_zip := n_zip, c_LEAST_SIZE := ⟨_, c_LEAST_SIZE⟩, c_MOST_FIELDS := ⟨_, c_MOST_FIELDS⟩, c_MOST_PACKETS := ⟨_, c_MOST_PACKETS⟩, c_MOST_SIZE := ⟨_, c_MOST_SIZE⟩, C_NoCube := _, x_NoCube := x_NoCube, C_NoField := _, x_NoField := x_NoField, C_NoPacket := _, x_NoPacket := x_NoPacket, C_NoSpace := _, x_NoSpace := x_NoSpace, C_NoValue := _, x_NoValue := x_NoValue, v_law_draw := _, d_law_draw := d_law_draw, v_law_any := _, d_law_any := d_law_any, v_law_wide := _, d_law_wide := d_law_wide, v_law_packets := _, d_law_packets := d_law_packets, v_is_sized := _, d_is_sized := d_is_sized, v_is_integer := _, d_is_integer := d_is_integer, v_is_within := _, d_is_within := d_is_within, v_product_of := _, d_product_of := d_product_of, v_is_space := _, d_is_space := d_is_space, v_check_space := _, d_check_space := d_check_space, v_raw_packets := _, d_raw_packets := d_raw_packets, v_packets_of := _, d_packets_of := d_packets_of, v_raw_is_packet := _, d_raw_is_packet := d_raw_is_packet, v_is_packet := _, d_is_packet := d_is_packet, v_raw_is_cube := _, d_raw_is_cube := d_raw_is_cube, v_is_cube := _, d_is_cube := d_is_cube, v_check_packet := _, d_check_packet := d_check_packet, v_check_field := _, d_check_field := d_check_field, v_raw_with := _, d_raw_with := d_raw_with, v_with_value := _, d_with_value := d_with_value, v_law_are_turned_right := _, d_law_are_turned_right := d_law_are_turned_right, v_law_has := _, d_law_has := d_law_has, v_check_cube := _, d_check_cube := d_check_cube, v_raw_has := _, d_raw_has := d_raw_has, v_raw_packets_in := _, d_raw_packets_in := d_raw_packets_in, v_packets_in := _, d_packets_in := d_packets_in, v_has_packet := _, d_has_packet := d_has_packet, v_law_are_cubes_right := _, d_law_are_cubes_right := d_law_are_cubes_right, v_law_no_space := _, d_law_no_space := d_law_no_space, v_law_spoiled := _, d_law_spoiled := d_law_spoiled, a_law_are_refused := _, p_law_are_refused := _, d_law_are_refused := d_law_are_refused, v_law_word := _, d_law_word := d_law_word, v_law_hand := _, d_law_hand := d_law_hand, xm_NoCube_NoSpace := xm_NoCube_NoSpace, xm_NoCube_NoPacket := xm_NoCube_NoPacket, xm_NoCube_NoCube := xm_NoCube_NoCube, xm_NoField_NoSpace := xm_NoField_NoSpace, xm_NoField_NoPacket := xm_NoField_NoPacket, xm_NoField_NoCube := xm_NoField_NoCube, xm_NoField_NoField := xm_NoField_NoField, xm_NoPacket_NoSpace := xm_NoPacket_NoSpace, xm_NoPacket_NoPacket := xm_NoPacket_NoPacket, xm_NoSpace_NoSpace := xm_NoSpace_NoSpace, xm_NoValue_NoSpace := xm_NoValue_NoSpace, xm_NoValue_NoPacket := xm_NoValue_NoPacket, xm_NoValue_NoCube := xm_NoValue_NoCube, xm_NoValue_NoField := xm_NoValue_NoField, xm_NoValue_NoValue := xm_NoValue_NoValue } L f_law_are_refused 
