import PyProof.Rows.All
import Wide.All
import OpenK.AllK
import Wide.FinOn
import HandS.ForMost
import HandS.ForExc
import HandS.Wide
import HandS.IsInst
import HandS.ExcOwn
import HandS.Text
import HandS.HeadWalk
import HandS.Flow
import HandS.WordsDict
import HandS.TryOnly
import HandS.Defaults
import HandS.Head0
import HandS.Head1
import HandS.Head2
import HandS.HeadEnd
import HandS.HeadHook1
import HandS.HeadHook2
import HandS.HeadHook3
import HandS.HeadHook4
import PySem.Challenge.RW_dykemoot_k71_fractions
set_option Elab.async false
set_option linter.all false
set_option maxRecDepth 100000
set_option maxHeartbeats 2000000
/-! Mn1: data without addresses, what stands for it in a heap, the state of a def's run. -/
namespace Mn
open PySem PySem.Spec PyProof.Rows L2
abbrev Sl := List (Option V)

/-- data; ref k: the k-th live cell of the run -/
inductive D where
  | non | bl (b : Bool) | int (i : Int) | str (x : Str)
  | tup (ds : List D) | lst (ds : List D)
  | dic (kvs : List (Key × D)) | dct (kvs : List (List Key × D))
  | ins (c : Nat) (fs : List (Str × D))
  | ref (k : Nat) | scr (ns : List Int)

mutual
inductive Rep (K : PySem.W.Frag) (CA : Nat → Addr) (Z : Hp) (rho : List Addr) : V → D → Prop
  | non : Rep K CA Z rho .non .non
  | bl (b : Bool) : Rep K CA Z rho (.bl b) (.bl b)
  | int (i : Int) : Rep K CA Z rho (.int i) (.int i)
  | str (x : Str) : Rep K CA Z rho (.str x) (.str x)
  | tup {a : Addr} {vs : List V} {ds : List D} (h : Z a = some (.tup vs)) (r : Reps K CA Z rho vs ds) : Rep K CA Z rho (.ref a) (.tup ds)
  | lst {a : Addr} {vs : List V} {ds : List D} (h : Z a = some (.lst vs)) (r : Reps K CA Z rho vs ds) : Rep K CA Z rho (.ref a) (.lst ds)
  | dic {a : Addr} {kvs : List (Key × V)} {kds : List (Key × D)} (h : Rd Z a (.dK kvs)) (e : kvs.map (·.1) = kds.map (·.1)) (r : Reps K CA Z rho (kvs.map (·.2)) (kds.map (·.2))) : Rep K CA Z rho (.ref a) (.dic kds)
  | dct {a : Addr} {kvs : List (List Key × V)} {kds : List (List Key × D)} (h : Rd Z a (.dT kvs)) (e : kvs.map (·.1) = kds.map (·.1)) (r : Reps K CA Z rho (kvs.map (·.2)) (kds.map (·.2))) : Rep K CA Z rho (.ref a) (.dct kds)
  | ins {a dx : Addr} {c : Nat} {vfs : List (Str × V)} {fs : List (Str × D)} (h : Z a = some (.ins (CA c) dx vfs)) (e : vfs.map (·.1) = fs.map (·.1)) (r : Reps K CA Z rho (vfs.map (·.2)) (fs.map (·.2))) : Rep K CA Z rho (.ref a) (.ins c fs)
  | ref {k : Nat} {a : Addr} (h : rho[k]? = some a) : Rep K CA Z rho (.ref a) (.ref k)
  | scr {a : Addr} {ns : List Int} (h : SqL K Z a (ns.map V.int)) : Rep K CA Z rho (.ref a) (.scr ns)
inductive Reps (K : PySem.W.Frag) (CA : Nat → Addr) (Z : Hp) (rho : List Addr) : List V → List D → Prop
  | nil : Reps K CA Z rho [] []
  | cons {v : V} {d : D} {vs : List V} {ds : List D} (h : Rep K CA Z rho v d) (t : Reps K CA Z rho vs ds) : Reps K CA Z rho (v :: vs) (d :: ds)
end

section
variable {K : PySem.W.Frag} {CA : Nat → Addr} {Z Z' : Hp} {rho rho' : List Addr}
theorem rd_mono {a : Addr} {u : HO} (hz : ∀ a o, Z a = some o → Z' a = some o) (h : Rd Z a u) : Rd Z' a u := by
  rcases h with h | ⟨o, h⟩
  · exact .inl (hz _ _ h)
  · exact .inr ⟨o, hz _ _ h⟩
theorem sql_mono {a : Addr} {xs : List V} (hz : ∀ a o, Z a = some o → Z' a = some o) (h : SqL K Z a xs) : SqL K Z' a xs := by
  rcases h with h | h
  · exact .inl (rd_mono hz h)
  · exact .inr h
mutual
theorem Rep.mono (hz : ∀ a o, Z a = some o → Z' a = some o) (hr : ∀ (k : Nat) a, rho[k]? = some a → rho'[k]? = some a) : ∀ {v : V} {d : D}, Rep K CA Z rho v d → Rep K CA Z' rho' v d
  | _, _, .non => .non
  | _, _, .bl b => .bl b
  | _, _, .int i => .int i
  | _, _, .str x => .str x
  | _, _, .tup h r => .tup (hz _ _ h) (Reps.mono hz hr r)
  | _, _, .lst h r => .lst (hz _ _ h) (Reps.mono hz hr r)
  | _, _, .dic h e r => .dic (rd_mono hz h) e (Reps.mono hz hr r)
  | _, _, .dct h e r => .dct (rd_mono hz h) e (Reps.mono hz hr r)
  | _, _, .ins h e r => .ins (hz _ _ h) e (Reps.mono hz hr r)
  | _, _, .ref h => .ref (hr _ _ h)
  | _, _, .scr h => .scr (sql_mono hz h)
theorem Reps.mono (hz : ∀ a o, Z a = some o → Z' a = some o) (hr : ∀ (k : Nat) a, rho[k]? = some a → rho'[k]? = some a) : ∀ {vs : List V} {ds : List D}, Reps K CA Z rho vs ds → Reps K CA Z' rho' vs ds
  | _, _, .nil => .nil
  | _, _, .cons h t => .cons (Rep.mono hz hr h) (Reps.mono hz hr t)
end
theorem Reps.length : ∀ {vs : List V} {ds : List D}, Reps K CA Z rho vs ds → vs.length = ds.length
  | _, _, .nil => rfl
  | _, _, .cons _ t => by rw [List.length_cons, List.length_cons, Reps.length t]
theorem Reps.get : ∀ {vs : List V} {ds : List D} {i : Nat} {d : D}, Reps K CA Z rho vs ds → ds[i]? = some d → ∃ v, vs[i]? = some v ∧ Rep K CA Z rho v d
  | _, _, _, _, .nil, e => by simp at e
  | _, _, 0, _, .cons r _, e => by simp at e; subst e; exact ⟨_, rfl, r⟩
  | _, _, i + 1, d, .cons _ t, e => by
    obtain ⟨u, h1, h2⟩ := Reps.get (i := i) (d := d) t (by simpa using e)
    exact ⟨u, by simpa using h1, h2⟩
theorem Reps.getV : ∀ {vs : List V} {ds : List D} {i : Nat} {v : V}, Reps K CA Z rho vs ds → vs[i]? = some v → ∃ d, ds[i]? = some d ∧ Rep K CA Z rho v d
  | _, _, _, _, .nil, e => by simp at e
  | _, _, 0, _, .cons r _, e => by simp at e; subst e; exact ⟨_, rfl, r⟩
  | _, _, i + 1, v, .cons _ t, e => by
    obtain ⟨u, h1, h2⟩ := Reps.getV (i := i) (v := v) t (by simpa using e)
    exact ⟨u, by simpa using h1, h2⟩
theorem Reps.append : ∀ {xs ys : List V} {ds es : List D}, Reps K CA Z rho xs ds → Reps K CA Z rho ys es → Reps K CA Z rho (xs ++ ys) (ds ++ es)
  | _, _, _, _, .nil, s => s
  | _, _, _, _, .cons r t, s => .cons r (Reps.append t s)
theorem Reps.take : ∀ {vs : List V} {ds : List D} (n : Nat), Reps K CA Z rho vs ds → Reps K CA Z rho (vs.take n) (ds.take n)
  | _, _, 0, _ => .nil
  | _, _, _ + 1, .nil => .nil
  | _, _, n + 1, .cons r t => .cons r (Reps.take n t)
theorem Reps.drop : ∀ {vs : List V} {ds : List D} (n : Nat), Reps K CA Z rho vs ds → Reps K CA Z rho (vs.drop n) (ds.drop n)
  | _, _, 0, r => r
  | _, _, _ + 1, .nil => .nil
  | _, _, n + 1, .cons _ t => Reps.drop n t
theorem Reps.set {v : V} {d : D} (r : Rep K CA Z rho v d) : ∀ {vs : List V} {ds : List D} (i : Nat), Reps K CA Z rho vs ds → Reps K CA Z rho (vs.set i v) (ds.set i d)
  | _, _, _, .nil => .nil
  | _, _, 0, .cons _ t => .cons r t
  | _, _, i + 1, .cons q t => .cons q (Reps.set r i t)
theorem Reps.single {v : V} {d : D} (r : Rep K CA Z rho v d) : Reps K CA Z rho [v] [d] := .cons r .nil
theorem Reps.eraseIdx : ∀ {vs : List V} {ds : List D} (i : Nat), Reps K CA Z rho vs ds → Reps K CA Z rho (vs.eraseIdx i) (ds.eraseIdx i)
  | _, _, _, .nil => .nil
  | _, _, 0, .cons _ t => t
  | _, _, i + 1, .cons q t => .cons q (Reps.eraseIdx i t)
theorem Reps.reverse : ∀ {vs : List V} {ds : List D}, Reps K CA Z rho vs ds → Reps K CA Z rho vs.reverse ds.reverse
  | _, _, .nil => .nil
  | _, _, .cons r t => by
    rw [List.reverse_cons, List.reverse_cons]
    exact Reps.append (Reps.reverse t) (Reps.single r)
/-- in a table: keys kept apart -/
theorem Reps.look {κ : Type} [DecidableEq κ] (k : κ) : ∀ {kvs : List (κ × V)} {kds : List (κ × D)}, kvs.map (·.1) = kds.map (·.1) → Reps K CA Z rho (kvs.map (·.2)) (kds.map (·.2)) →
    (∀ d, (kds.find? fun p => decide (p.1 = k)).map (·.2) = some d → ∃ v, valV kvs k = some v ∧ Rep K CA Z rho v d) ∧ ((kds.find? fun p => decide (p.1 = k)).map (·.2) = none → valV kvs k = none)
  | [], [], _, _ => ⟨fun d h => (nomatch h), fun _ => rfl⟩
  | [], _ :: _, e, _ => by cases e
  | _ :: _, [], e, _ => by cases e
  | p :: r, q :: s, e, h => by
    rw [List.map_cons, List.map_cons] at e h
    injection e with e1 e2
    cases h with
    | cons h1 h2 =>
      obtain ⟨i1, i2⟩ := Reps.look k e2 h2
      by_cases hk : p.1 = k
      · have hq : q.1 = k := e1 ▸ hk
        rw [valV_pos hk]
        refine ⟨fun d hd => ?_, fun hd => ?_⟩
        · rw [List.find?_cons, decide_eq_true hq] at hd
          have : q.2 = d := Option.some.inj hd
          subst this
          exact ⟨_, rfl, h1⟩
        · rw [List.find?_cons, decide_eq_true hq] at hd
          cases hd
      · have hq : ¬ q.1 = k := e1 ▸ hk
        rw [valV_neg hk]
        refine ⟨fun d hd => ?_, fun hd => ?_⟩
        · rw [List.find?_cons, decide_eq_false hq] at hd
          exact i1 d hd
        · rw [List.find?_cons, decide_eq_false hq] at hd
          exact i2 hd
end

/-! ### locks: what stands there, perhaps locked by a loop of this run -/
def Lkb : HO → Prop
  | .dK _ => True
  | .dT _ => True
  | _ => False
def Here (Lk : List Addr) (H : Hp) (a : Addr) (o : HO) : Prop := H a = some o ∨ (Lkb o ∧ a ∈ Lk ∧ ∃ ob, H a = some (.frz ob o))
theorem Here.ne {Lk : List Addr} {H : Hp} {a : Addr} {o : HO} (h : Here Lk H a o) : H a ≠ none := by
  rcases h with h | ⟨_, _, ob, h⟩ <;> rw [h] <;> exact fun z => nomatch z
theorem Here.rd {Lk : List Addr} {H : Hp} {a : Addr} {o : HO} (h : Here Lk H a o) : Rd H a o := by
  rcases h with h | ⟨_, _, ob, h⟩
  · exact .inl h
  · exact .inr ⟨ob, h⟩
theorem Here.upd_ne {Lk : List Addr} {H : Hp} {a p : Addr} {o u : HO} (h : Here Lk H a o) (n : a ≠ p) : Here Lk (upd H p u) a o := by
  unfold Here
  rw [L2.upd_ne n]
  exact h
def Le (Lk : List Addr) (Z H : Hp) : Prop := ∀ a o, Z a = some o → Here Lk H a o
theorem Le.rdL {Lk : List Addr} {Z H : Hp} (l : Le Lk Z H) {a : Addr} {u : HO} (h : Rd Z a u) : Rd H a u := by
  rcases h with h | ⟨o, h⟩
  · exact (l a _ h).rd
  · rcases l a _ h with h | ⟨k, _⟩
    · exact .inr ⟨o, h⟩
    · exact k.elim
theorem Le.tup {Lk : List Addr} {Z H : Hp} (l : Le Lk Z H) {a : Addr} {vs : List V} (h : Z a = some (.tup vs)) : H a = some (.tup vs) := by
  rcases l a _ h with h | ⟨k, _⟩
  · exact h
  · exact k.elim
theorem Le.lst {Lk : List Addr} {Z H : Hp} (l : Le Lk Z H) {a : Addr} {vs : List V} (h : Z a = some (.lst vs)) : H a = some (.lst vs) := by
  rcases l a _ h with h | ⟨k, _⟩
  · exact h
  · exact k.elim
theorem Le.sql {K : PySem.W.Frag} {Lk : List Addr} {Z H : Hp} (l : Le Lk Z H) {a : Addr} {xs : List V} (h : SqL K Z a xs) : SqL K H a xs := by
  rcases h with h | h
  · exact .inl (l.rdL h)
  · exact .inr h
theorem Le.ins {Lk : List Addr} {Z H : Hp} (l : Le Lk Z H) {a C dx : Addr} {fs : List (Str × V)} (h : Z a = some (.ins C dx fs)) : H a = some (.ins C dx fs) := by
  rcases l a _ h with h | ⟨k, _⟩
  · exact h
  · exact k.elim

/-! ### cells, the ghost state -/
inductive Cell where
  | lst (ds : List D) | dic (kvs : List (Key × D)) | dct (kvs : List (List Key × D)) | ins (c : Nat) (fs : List (Str × D)) | dead
def COk (K : PySem.W.Frag) (CA : Nat → Addr) (Z : Hp) (rho : List Addr) : Cell → HO → Prop
  | .lst ds, .lst vs => Reps K CA Z rho vs ds
  | .dic kds, .dK kvs => kvs.map (·.1) = kds.map (·.1) ∧ Reps K CA Z rho (kvs.map (·.2)) (kds.map (·.2))
  | .dct kds, .dT kvs => kvs.map (·.1) = kds.map (·.1) ∧ Reps K CA Z rho (kvs.map (·.2)) (kds.map (·.2))
  | .ins c fs, .ins C dx vfs => C = CA c ∧ vfs.map (·.1) = fs.map (·.1) ∧ Reps K CA Z rho (vfs.map (·.2)) (fs.map (·.2))
  | _, _ => False
theorem COk.mono {K : PySem.W.Frag} {CA : Nat → Addr} {Z Z' : Hp} {rho rho' : List Addr} (hz : ∀ a o, Z a = some o → Z' a = some o) (hr : ∀ (k : Nat) a, rho[k]? = some a → rho'[k]? = some a) {c : Cell} {o : HO} (h : COk K CA Z rho c o) : COk K CA Z' rho' c o := by
  cases c <;> cases o <;> first | exact h.elim | exact Reps.mono hz hr h | exact ⟨h.1, Reps.mono hz hr h.2⟩ | exact ⟨h.1, h.2.1, Reps.mono hz hr h.2.2⟩
structure Gs where
  Lk : List Addr
  Z : Hp
  rho : List Addr
  env : List (Option D)
  mem : List Cell
/-- what is fixed in a def's run: the classes' addresses, the heap at the entry, what stands still of it for good, the cells handed in -/
structure Cc where
  K : PySem.W.Frag
  CA : Nat → Addr
  H0 : Hp
  Z0 : Hp
  B : List Addr
structure Rel (C : Cc) (σ : Sl) (H : Hp) (g : Gs) : Prop where
  leZ : Le g.Lk g.Z H
  le0 : ∀ a o, C.H0 a = some o → a ∉ C.B → Here g.Lk H a o
  bh : ∀ a ∈ C.B, H a ≠ none
  zz : ∀ a o, C.Z0 a = some o → g.Z a = some o
  zn : ∀ a o, g.Z a = some o → C.Z0 a = some o ∨ C.H0 a = none
  rl : g.rho.length = g.mem.length
  nd : g.rho.Nodup
  cz : ∀ (k : Nat) a, g.rho[k]? = some a → H a ≠ none ∧ (C.H0 a = none ∨ (a ∈ C.B ∧ k < C.B.length))
  cl : ∀ (k : Nat) a c, g.rho[k]? = some a → g.mem[k]? = some c → (c = .dead ∧ g.Z a ≠ none) ∨ (g.Z a = none ∧ ∃ o, Here g.Lk H a o ∧ COk C.K C.CA g.Z g.rho c o)
  ev : ∀ (i : Nat) d, g.env[i]? = some (some d) → ∃ v, σ[i]? = some (some v) ∧ Rep C.K C.CA g.Z g.rho v d
  el : g.env.length = σ.length
structure Ext (g g' : Gs) : Prop where
  lk : g'.Lk = g.Lk
  z : ∀ a o, g.Z a = some o → g'.Z a = some o
  r : ∀ (k : Nat) a, g.rho[k]? = some a → g'.rho[k]? = some a
theorem Ext.refl (g : Gs) : Ext g g := ⟨rfl, fun _ _ h => h, fun _ _ h => h⟩
theorem Ext.trans {g g1 g2 : Gs} (a : Ext g g1) (b : Ext g1 g2) : Ext g g2 := ⟨b.lk.trans a.lk, fun x o h => b.z x o (a.z x o h), fun k x h => b.r k x (a.r k x h)⟩
theorem Rep.ext {K : PySem.W.Frag} {CA : Nat → Addr} {g g' : Gs} {v : V} {d : D} (r : Rep K CA g.Z g.rho v d) (e : Ext g g') : Rep K CA g'.Z g'.rho v d := r.mono e.z e.r
theorem Reps.ext {K : PySem.W.Frag} {CA : Nat → Addr} {g g' : Gs} {v : List V} {d : List D} (r : Reps K CA g.Z g.rho v d) (e : Ext g g') : Reps K CA g'.Z g'.rho v d := r.mono e.z e.r

section
variable {C : Cc} {σ : Sl} {H : Hp} {g : Gs}
theorem Rel.fresh0 (R : Rel C σ H g) {p : Addr} (h : H p = none) : C.H0 p = none := by
  cases e : C.H0 p with
  | none => rfl
  | some o =>
    by_cases hb : p ∈ C.B
    · exact absurd h (R.bh p hb)
    · exact absurd h (R.le0 p o e hb).ne
theorem Rel.freshZ (R : Rel C σ H g) {p : Addr} (h : H p = none) : g.Z p = none := by
  cases e : g.Z p with
  | none => rfl
  | some o => exact absurd h (R.leZ p o e).ne
theorem ext_z {g : Gs} {p : Addr} {o : HO} (h : g.Z p = none) : Ext g { g with Z := upd g.Z p o } := ⟨rfl, fun a u e => by
  show upd g.Z p o a = some u
  rw [L2.upd_ne (ne_of_none e h)]; exact e, fun _ _ e => e⟩
/-- a new object that never changes -/
theorem Rel.lay (R : Rel C σ H g) {p : Addr} (h : H p = none) (o : HO) : Rel C σ (upd H p o) { g with Z := upd g.Z p o } := by
  have hZ := R.freshZ h
  have h0 := R.fresh0 h
  have ex := ext_z (g := g) (o := o) hZ
  refine ⟨fun a u e => ?_, fun a u e hb => ?_, fun a hb => ?_, fun a u e => ex.z a u (R.zz a u e), fun a u e => ?_, R.rl, R.nd, fun k a e => ?_, fun k a c e1 e2 => ?_, fun i d e => ?_, R.el⟩
  · by_cases hp : a = p
    · subst hp
      have e' : upd g.Z a o a = some u := e
      rw [upd_same] at e'
      exact .inl (by rw [upd_same]; exact e')
    · have e' : upd g.Z p o a = some u := e
      rw [L2.upd_ne hp] at e'
      exact (R.leZ a u e').upd_ne hp
  · exact (R.le0 a u e hb).upd_ne (fun z => by rw [z, h0] at e; cases e)
  · by_cases hp : a = p
    · rw [hp, upd_same]; exact fun z => nomatch z
    · rw [L2.upd_ne hp]; exact R.bh a hb
  · by_cases hp : a = p
    · exact .inr (hp ▸ h0)
    · have e' : upd g.Z p o a = some u := e
      rw [L2.upd_ne hp] at e'
      exact R.zn a u e'
  · obtain ⟨n, b⟩ := R.cz k a e
    exact ⟨by rw [L2.upd_ne (fun z => n (by rw [z]; exact h))]; exact n, b⟩
  · obtain ⟨n, b⟩ := R.cz k a e1
    have ne : a ≠ p := fun z => n (by rw [z]; exact h)
    rcases R.cl k a c e1 e2 with z | ⟨z, u, hu, cu⟩
    · exact .inl ⟨z.1, by show upd g.Z p o a ≠ none; rw [L2.upd_ne ne]; exact z.2⟩
    · exact .inr ⟨by show upd g.Z p o a = none; rw [L2.upd_ne ne]; exact z, u, hu.upd_ne ne, cu.mono ex.z ex.r⟩
  · obtain ⟨v, e1, r⟩ := R.ev i d e
    exact ⟨v, e1, r.mono ex.z ex.r⟩
/-- a new cell -/
theorem Rel.cell (R : Rel C σ H g) {p : Addr} (h : H p = none) {o : HO} {c : Cell} (hc : COk C.K C.CA g.Z g.rho c o) : Rel C σ (upd H p o) { g with rho := g.rho ++ [p], mem := g.mem ++ [c] } ∧ Ext g { g with rho := g.rho ++ [p], mem := g.mem ++ [c] } := by
  have hZ := R.freshZ h
  have h0 := R.fresh0 h
  have ex : Ext g { g with rho := g.rho ++ [p], mem := g.mem ++ [c] } := ⟨rfl, fun _ _ e => e, fun k a e => by
    show (g.rho ++ [p])[k]? = some a
    rw [List.getElem?_append_left (List.getElem?_eq_some_iff.mp e).1]
    exact e⟩
  have split : ∀ (k : Nat) a, (g.rho ++ [p])[k]? = some a → (g.rho[k]? = some a ∧ k < g.rho.length) ∨ (a = p ∧ k = g.rho.length) := fun k a e => by
    by_cases hk : k < g.rho.length
    · rw [List.getElem?_append_left hk] at e
      exact .inl ⟨e, hk⟩
    · rw [List.getElem?_append_right (Nat.le_of_not_lt hk)] at e
      obtain ⟨h1, h2⟩ := List.getElem?_eq_some_iff.mp e
      have h3 : k - g.rho.length = 0 := by simpa using h1
      have hkk : k = g.rho.length := by omega
      subst hkk
      simp at h2
      exact .inr ⟨h2.symm, rfl⟩
  have ne : ∀ (k : Nat) a, g.rho[k]? = some a → a ≠ p := fun k a e z => (R.cz k a e).1 (z ▸ h)
  refine ⟨⟨fun a u e => ?_, fun a u e hb => ?_, fun a hb => ?_, R.zz, R.zn, ?_, ?_, fun k a e => ?_, fun k a c' e1 e2 => ?_, fun i d e => ?_, R.el⟩, ex⟩
  · exact (R.leZ a u e).upd_ne (fun z => by rw [z, hZ] at e; cases e)
  · exact (R.le0 a u e hb).upd_ne (fun z => by rw [z, h0] at e; cases e)
  · by_cases hp : a = p
    · rw [hp, upd_same]; exact fun z => nomatch z
    · rw [L2.upd_ne hp]; exact R.bh a hb
  · show (g.rho ++ [p]).length = (g.mem ++ [c]).length
    rw [List.length_append, List.length_append, R.rl]; rfl
  · refine List.nodup_append.mpr ⟨R.nd, List.nodup_cons.mpr ⟨(fun z => nomatch z), List.nodup_nil⟩, fun a ha b hb => ?_⟩
    obtain ⟨k, hk, e⟩ := List.getElem_of_mem ha
    have := ne k a (by rw [List.getElem?_eq_getElem hk, e])
    have hb' : b = p := by simpa using hb
    rw [hb']; exact this
  · rcases split k a e with ⟨e1, _⟩ | ⟨e1, _⟩
    · obtain ⟨n, b⟩ := R.cz k a e1
      exact ⟨by rw [L2.upd_ne (ne k a e1)]; exact n, b⟩
    · subst e1
      exact ⟨(by rw [upd_same]; exact (fun z => nomatch z)), .inl h0⟩
  · rcases split k a e1 with ⟨e3, hk⟩ | ⟨e3, hk⟩
    · have e4 : (g.mem ++ [c])[k]? = some c' := e2
      rw [List.getElem?_append_left (by rw [← R.rl]; exact hk)] at e4
      rcases R.cl k a c' e3 e4 with z | ⟨z, u, hu, cu⟩
      · exact .inl z
      · exact .inr ⟨z, u, hu.upd_ne (ne k a e3), cu.mono ex.z ex.r⟩
    · subst e3
      have e4 : (g.mem ++ [c])[k]? = some c' := e2
      rw [hk, R.rl, List.getElem?_append_right (Nat.le_refl _), Nat.sub_self] at e4
      simp at e4
      subst e4
      exact .inr ⟨hZ, o, .inl upd_same, hc.mono ex.z ex.r⟩
  · obtain ⟨v, e1, r⟩ := R.ev i d e
    exact ⟨v, e1, r.mono ex.z ex.r⟩
/-- a cell's content changes -/
theorem Rel.put (R : Rel C σ H g) {k : Nat} {p : Addr} {o o' : HO} {c c' : Cell} (hk : g.rho[k]? = some p) (hm : g.mem[k]? = some c) (hd : c ≠ .dead) (hp : H p = some o) (hl : p ∉ g.Lk) (hc : COk C.K C.CA g.Z g.rho c' o') :
    Rel C σ (upd H p o') { g with mem := g.mem.set k c' } := by
  have hZ : g.Z p = none := by
    rcases R.cl k p c hk hm with z | ⟨z, _⟩
    · exact absurd z.1 hd
    · exact z
  have nd' : ∀ (j : Nat), g.rho[j]? = some p → j = k := fun j e => by
    obtain ⟨h1, e1⟩ := List.getElem?_eq_some_iff.mp e
    obtain ⟨h2, e2⟩ := List.getElem?_eq_some_iff.mp hk
    exact (List.getElem_inj R.nd).mp (e1.trans e2.symm)
  refine ⟨fun a u e => ?_, fun a u e hb => ?_, fun a hb => ?_, R.zz, R.zn, ?_, R.nd, fun j a e => ?_, fun j a c2 e1 e2 => ?_, R.ev, R.el⟩
  · exact (R.leZ a u e).upd_ne (fun z => by rw [z, hZ] at e; cases e)
  · refine (R.le0 a u e hb).upd_ne (fun z => ?_)
    subst z
    rcases (R.cz k a hk).2 with q | q
    · rw [e] at q; cases q
    · exact hb q.1
  · by_cases hq : a = p
    · rw [hq, upd_same]; exact fun z => nomatch z
    · rw [L2.upd_ne hq]; exact R.bh a hb
  · show g.rho.length = (g.mem.set k c').length
    rw [List.length_set]; exact R.rl
  · obtain ⟨n, b⟩ := R.cz j a e
    refine ⟨?_, b⟩
    by_cases hq : a = p
    · rw [hq, upd_same]; exact fun z => nomatch z
    · rw [L2.upd_ne hq]; exact n
  · have e3 : (g.mem.set k c')[j]? = some c2 := e2
    by_cases hj : j = k
    · subst hj
      have hlt : j < g.mem.length := (List.getElem?_eq_some_iff.mp hm).1
      rw [List.getElem?_set_self hlt] at e3
      have e4 : c' = c2 := Option.some.inj e3
      subst e4
      have e5 : p = a := Option.some.inj (hk.symm.trans e1)
      subst e5
      exact .inr ⟨hZ, o', .inl upd_same, hc⟩
    · rw [List.getElem?_set_ne (Ne.symm hj)] at e3
      have ne : a ≠ p := fun z => hj (nd' j (z ▸ e1))
      rcases R.cl j a c2 e1 e3 with z | ⟨z, u, hu, cu⟩
      · exact .inl z
      · exact .inr ⟨z, u, hu.upd_ne ne, cu⟩
/-- a slot is stored -/
theorem Rel.slot (R : Rel C σ H g) {i : Nat} {v : V} {d : D} (r : Rep C.K C.CA g.Z g.rho v d) : Rel C (σ.set i (some v)) H { g with env := g.env.set i (some d) } := by
  refine ⟨R.leZ, R.le0, R.bh, R.zz, R.zn, R.rl, R.nd, R.cz, R.cl, fun j d' e => ?_, ?_⟩
  · have e' : (g.env.set i (some d))[j]? = some (some d') := e
    by_cases hj : j = i
    · subst hj
      have hlt : j < (g.env.set j (some d)).length := (List.getElem?_eq_some_iff.mp e').1
      rw [List.length_set] at hlt
      rw [List.getElem?_set_self hlt] at e'
      have e2 : d = d' := Option.some.inj (Option.some.inj e')
      subst e2
      exact ⟨v, by rw [List.getElem?_set_self (by rw [← R.el]; exact hlt)], r⟩
    · rw [List.getElem?_set_ne (Ne.symm hj)] at e'
      obtain ⟨w, e1, rw'⟩ := R.ev j d' e'
      exact ⟨w, by rw [List.getElem?_set_ne (Ne.symm hj)]; exact e1, rw'⟩
  · show (g.env.set i (some d)).length = (σ.set i (some v)).length
    rw [List.length_set, List.length_set]; exact R.el
/-- forgetting slots -/
theorem Rel.forget (R : Rel C σ H g) {env : List (Option D)} (hl : env.length = g.env.length) (h : ∀ (i : Nat) d, env[i]? = some (some d) → g.env[i]? = some (some d)) : Rel C σ H { g with env := env } :=
  ⟨R.leZ, R.le0, R.bh, R.zz, R.zn, R.rl, R.nd, R.cz, R.cl, fun i d e => R.ev i d (h i d e), hl.trans R.el⟩
/-- a cell becomes still data -/
theorem Rel.still (R : Rel C σ H g) {k : Nat} {p : Addr} {c : Cell} {o : HO} (hk : g.rho[k]? = some p) (hm : g.mem[k]? = some c) (hB : C.B.length ≤ k) (hH : Here g.Lk H p o) (hZ : g.Z p = none) :
    Rel C σ H { g with Z := upd g.Z p o, mem := g.mem.set k .dead } := by
  have h0 : C.H0 p = none := by
    rcases (R.cz k p hk).2 with q | q
    · exact q
    · exact absurd q.2 (Nat.not_lt.mpr hB)
  have ex := ext_z (g := g) (o := o) hZ
  refine ⟨fun a u e => ?_, R.le0, R.bh, fun a u e => ex.z a u (R.zz a u e), fun a u e => ?_, ?_, R.nd, R.cz, fun j a c2 e1 e2 => ?_, fun i d e => ?_, R.el⟩
  · by_cases hp : a = p
    · subst hp
      have e' : upd g.Z a o a = some u := e
      rw [upd_same] at e'
      have e2 : o = u := Option.some.inj e'
      subst e2
      exact hH
    · have e' : upd g.Z p o a = some u := e
      rw [L2.upd_ne hp] at e'
      exact R.leZ a u e'
  · by_cases hp : a = p
    · exact .inr (hp ▸ h0)
    · have e' : upd g.Z p o a = some u := e
      rw [L2.upd_ne hp] at e'
      exact R.zn a u e'
  · show g.rho.length = (g.mem.set k .dead).length
    rw [List.length_set]; exact R.rl
  · have e3 : (g.mem.set k .dead)[j]? = some c2 := e2
    by_cases hj : j = k
    · subst hj
      have hlt : j < g.mem.length := (List.getElem?_eq_some_iff.mp hm).1
      rw [List.getElem?_set_self hlt] at e3
      have e5 : p = a := Option.some.inj (hk.symm.trans e1)
      subst e5
      exact .inl ⟨(Option.some.inj e3).symm, by show upd g.Z p o p ≠ none; rw [upd_same]; exact (fun z => nomatch z)⟩
    · rw [List.getElem?_set_ne (Ne.symm hj)] at e3
      have ne : a ≠ p := fun z => by
        subst z
        obtain ⟨h1, e4⟩ := List.getElem?_eq_some_iff.mp e1
        obtain ⟨h2, e5⟩ := List.getElem?_eq_some_iff.mp hk
        exact hj ((List.getElem_inj R.nd).mp (e4.trans e5.symm))
      rcases R.cl j a c2 e1 e3 with z | ⟨z, u, hu, cu⟩
      · exact .inl ⟨z.1, by show upd g.Z p o a ≠ none; rw [L2.upd_ne ne]; exact z.2⟩
      · exact .inr ⟨by show upd g.Z p o a = none; rw [L2.upd_ne ne]; exact z, u, hu, cu.mono ex.z ex.r⟩
  · obtain ⟨v, e1, r⟩ := R.ev i d e
    exact ⟨v, e1, r.mono ex.z ex.r⟩
end
/-- the same data by another heap -/
def Conv (Z Z2 : Hp) : Prop := ∀ a o, Z a = some o → Z2 a = some o ∨ ∃ ob u, o = .frz ob u ∧ Lkb u ∧ Z2 a = some u
theorem rd_conv {Z Z2 : Hp} (h : Conv Z Z2) {a : Addr} {u : HO} (nf : ∀ ob w, u ≠ .frz ob w) (r : Rd Z a u) : Rd Z2 a u := by
  rcases r with r | ⟨o, r⟩
  · rcases h a _ r with q | ⟨ob, w, e, _⟩
    · exact .inl q
    · exact absurd e (nf ob w)
  · rcases h a _ r with q | ⟨ob, w, e, l, q⟩
    · exact .inr ⟨o, q⟩
    · cases e; exact .inl q
theorem eq_conv {Z Z2 : Hp} (h : Conv Z Z2) {a : Addr} {u : HO} (nf : ∀ ob w, u ≠ .frz ob w) (r : Z a = some u) : Z2 a = some u := by
  rcases h a _ r with q | ⟨ob, w, e, _⟩
  · exact q
  · exact absurd e (nf ob w)
theorem sql_conv {K : PySem.W.Frag} {Z Z2 : Hp} (h : Conv Z Z2) {a : Addr} {xs : List V} (r : SqL K Z a xs) : SqL K Z2 a xs := by
  rcases r with r | r
  · exact .inl (rd_conv h (fun _ _ z => nomatch z) r)
  · exact .inr r
theorem nf_tup {vs : List V} : ∀ ob w, HO.tup vs ≠ .frz ob w := fun _ _ z => nomatch z
theorem nf_lst {vs : List V} : ∀ ob w, HO.lst vs ≠ .frz ob w := fun _ _ z => nomatch z
theorem nf_dK {vs : List (Key × V)} : ∀ ob w, HO.dK vs ≠ .frz ob w := fun _ _ z => nomatch z
theorem nf_dT {vs : List (List Key × V)} : ∀ ob w, HO.dT vs ≠ .frz ob w := fun _ _ z => nomatch z
theorem nf_ins {C dx : Addr} {vs : List (Str × V)} : ∀ ob w, HO.ins C dx vs ≠ .frz ob w := fun _ _ z => nomatch z
mutual
theorem Rep.conv {K : PySem.W.Frag} {CA : Nat → Addr} {Z Z2 : Hp} {rho rho2 : List Addr} (h : Conv Z Z2) (hr : ∀ (k : Nat) a, rho[k]? = some a → rho2[k]? = some a) : ∀ {v : V} {d : D}, Rep K CA Z rho v d → Rep K CA Z2 rho2 v d
  | _, _, .non => .non
  | _, _, .bl b => .bl b
  | _, _, .int i => .int i
  | _, _, .str x => .str x
  | _, _, .tup e r => .tup (eq_conv h nf_tup e) (Reps.conv h hr r)
  | _, _, .lst e r => .lst (eq_conv h nf_lst e) (Reps.conv h hr r)
  | _, _, .dic q e r => .dic (rd_conv h nf_dK q) e (Reps.conv h hr r)
  | _, _, .dct q e r => .dct (rd_conv h nf_dT q) e (Reps.conv h hr r)
  | _, _, .ins q e r => .ins (eq_conv h nf_ins q) e (Reps.conv h hr r)
  | _, _, .ref e => .ref (hr _ _ e)
  | _, _, .scr e => .scr (sql_conv h e)
theorem Reps.conv {K : PySem.W.Frag} {CA : Nat → Addr} {Z Z2 : Hp} {rho rho2 : List Addr} (h : Conv Z Z2) (hr : ∀ (k : Nat) a, rho[k]? = some a → rho2[k]? = some a) : ∀ {vs : List V} {ds : List D}, Reps K CA Z rho vs ds → Reps K CA Z2 rho2 vs ds
  | _, _, .nil => .nil
  | _, _, .cons r t => .cons (Rep.conv h hr r) (Reps.conv h hr t)
end
end Mn

set_option Elab.async false
set_option linter.all false
set_option maxRecDepth 100000
set_option maxHeartbeats 2000000
/-! Mn2: a small language and what it reckons. -/
namespace Mn
open PySem PySem.Spec PyProof.Rows L2

/-! ### outcomes -/
structure Exc where
  c : Nat
  fs : List (Str × D)
abbrev Mem := List Cell
abbrev En := List (Option D)
inductive Out (α : Type) where
  | ok (M : Mem) (a : α)
  | ex (M : Mem) (x : Exc)
def obind {α β : Type} (o : Option (Out α)) (f : Mem → α → Option (Out β)) : Option (Out β) :=
  match o with
  | none => none
  | some (.ok M a) => f M a
  | some (.ex M x) => some (.ex M x)
theorem obind_ok {α β : Type} (M : Mem) (a : α) (f : Mem → α → Option (Out β)) : obind (some (.ok M a)) f = f M a := rfl
theorem obind_ex {α β : Type} (M : Mem) (x : Exc) (f : Mem → α → Option (Out β)) : obind (some (.ex M x)) f = some (.ex M x) := rfl
theorem obind_none {α β : Type} (f : Mem → α → Option (Out β)) : obind none f = none := rfl

/-! ### data: no refs; scalars and tuples of such; as the library's data -/
mutual
def D.closed : D → Bool
  | .ref _ => false
  | .tup ds => closedL ds
  | .lst ds => closedL ds
  | .dic kvs => closedK kvs
  | .dct kvs => closedT kvs
  | .ins _ fs => closedF fs
  | _ => true
def closedL : List D → Bool
  | [] => true
  | d :: ds => d.closed && closedL ds
def closedK : List (Key × D) → Bool
  | [] => true
  | (_, d) :: ds => d.closed && closedK ds
def closedT : List (List Key × D) → Bool
  | [] => true
  | (_, d) :: ds => d.closed && closedT ds
def closedF : List (Str × D) → Bool
  | [] => true
  | (_, d) :: ds => d.closed && closedF ds
end
mutual
def D.imm : D → Bool
  | .non => true
  | .bl _ => true
  | .int _ => true
  | .str _ => true
  | .tup ds => immL ds
  | _ => false
def immL : List D → Bool
  | [] => true
  | d :: ds => d.imm && immL ds
end
mutual
def D.py : D → PyData
  | .non => .none
  | .bl b => .bool b
  | .int i => .int i
  | .str x => .str x
  | .tup ds => .tuple (pyL ds)
  | .lst ds => .list (pyL ds)
  | _ => .none
def pyL : List D → List PyData
  | [] => []
  | d :: ds => d.py :: pyL ds
end
mutual
def D.isPy : D → Bool
  | .non => true
  | .bl _ => true
  | .int _ => true
  | .str _ => true
  | .tup ds => isPyL ds
  | .lst ds => isPyL ds
  | _ => false
def isPyL : List D → Bool
  | [] => true
  | d :: ds => d.isPy && isPyL ds
end
def D.flat : D → Bool
  | .non => true
  | .bl _ => true
  | .int _ => true
  | .str _ => true
  | _ => false
def D.flatV : D → V
  | .non => .non
  | .bl b => .bl b
  | .int i => .int i
  | .str x => .str x
  | _ => .non

def Cell.d : Cell → D
  | .lst ds => .lst ds
  | .dic k => .dic k
  | .dct k => .dct k
  | .ins c fs => .ins c fs
  | .dead => .non
def Cell.isDead : Cell → Bool
  | .dead => true
  | _ => false
/-- a live cell by its content -/
def see (M : Mem) : D → D
  | .ref k => match M[k]? with
    | some (.lst ds) => .lst ds
    | some (.dic kvs) => .dic kvs
    | some (.dct kvs) => .dct kvs
    | some (.ins c fs) => .ins c fs
    | _ => .ref k
  | d => d
/-- all live cells within by their contents -/
def rd (M : Mem) : Nat → D → Option D
  | 0, d => if d.closed = true then some d else none
  | n + 1, d => if d.closed = true then some d else match see M d with
    | .tup ds => (ds.mapM (rd M n)).map .tup
    | .lst ds => (ds.mapM (rd M n)).map .lst
    | .dic kvs => (kvs.mapM fun p => (rd M n p.2).map fun d => (p.1, d)).map .dic
    | .ins c fs => (fs.mapM fun p => (rd M n p.2).map fun d => (p.1, d)).map (.ins c)
    | _ => none

/-! ### operations -/
inductive Rs where
  | val (d : D) | tup (ds : List D) | new (c : Cell)
def Rs.fin (al : Bool) (M : Mem) : Rs → Out D
  | .val d => .ok M d
  | .tup ds => .ok M (.tup ds)
  | .new c => if al = true then .ok (M ++ [c]) (.ref M.length) else .ok M c.d
def tv : D → Option Bool
  | .non => some false
  | .bl b => some b
  | .int i => some (i != 0)
  | .str x => if x.length ≤ sizeLine then some (x.length != 0) else none
  | .lst ds => some (!ds.isEmpty)
  | .tup ds => some (!ds.isEmpty)
  | _ => none
def mulB (i j : Int) : Bool := (decide (-(2 ^ 64) < i) && decide (i < 2 ^ 64)) || (decide (-(2 ^ 64) < j) && decide (j < 2 ^ 64)) || decide (i.natAbs.log2 + j.natAbs.log2 < 1000000)
def binR : Operator → D → D → Option Rs
  | .Add, .int i, .int j => some (.val (.int (i + j)))
  | .Add, .str x, .str y => if x.length + y.length ≤ sizeLine then some (.val (.str (x ++ y))) else none
  | .Add, .lst x, .lst y => if x.length + y.length ≤ sizeLine then some (.new (.lst (x ++ y))) else none
  | .Add, .tup (a :: x), .tup (b :: y) => if (a :: x).length + (b :: y).length ≤ sizeLine then some (.tup ((a :: x) ++ (b :: y))) else none
  | .Sub, .int i, .int j => some (.val (.int (i - j)))
  | .Mult, .int i, .int j => if mulB i j = true then some (.val (.int (i * j))) else none
  | .Mult, .lst x, .int k => if -(2 ^ 63) ≤ k ∧ k < 2 ^ 63 ∧ x.length * k.toNat ≤ sizeLine then some (.new (.lst (List.replicate k.toNat x).flatten)) else none
  | .FloorDiv, .int i, .int j => if 0 < j ∧ j.natAbs.log2 < 9000 then some (.val (.int (i / j))) else none
  | .Mod, .int i, .int j => if 0 < j then some (.val (.int (i % j))) else none
  | .Pow, .int i, .int j => if 0 ≤ j ∧ j ≤ 1000000 ∧ i.natAbs < 2 ^ 64 then some (.val (.int (i ^ j.toNat))) else none
  | .LShift, .int i, .int j => if 0 ≤ j ∧ j ≤ 1000000 ∧ i.natAbs < 2 ^ 64 then some (.val (.int (i * 2 ^ j.toNat))) else none
  | .RShift, .int i, .int j => if 0 ≤ j then some (.val (.int (i / 2 ^ j.toNat))) else none
  | .BitAnd, .int i, .int j => some (.val (.int (Builtin.bitAnd i j)))
  | _, _, _ => none
def augR : Operator → D → D → Option D
  | .Add, .int i, .int j => some (.int (i + j))
  | .Sub, .int i, .int j => some (.int (i - j))
  | _, _, _ => none
def eqD (a b : D) : Option Bool :=
  if scal a.flatV b.flatV = true ∧ a.flat = true ∧ b.flat = true then some (decide (a.flatV = b.flatV))
  else if a.isPy = true ∧ b.isPy = true ∧ SeqAt.shaped a.py = true ∧ SeqAt.shaped b.py = true then some (PyData.eqv a.py b.py) else none
def keyD : D → Option Key
  | .int i => some (.inl i)
  | .str x => some (.inr x)
  | _ => none
def getK {κ : Type} [DecidableEq κ] (kvs : List (κ × D)) (k : κ) : Option D := (kvs.find? fun p => decide (p.1 = k)).map (·.2)
def keysD : List D → Option (List Key)
  | [] => some []
  | d :: ds => match keyD d, keysD ds with
    | some k, some ks => some (k :: ks)
    | _, _ => none
def inD (a b : D) : Option Bool :=
  match b with
  | .lst ds => if a.flat = true ∧ ds.all D.flat = true then some (inV a.flatV (ds.map D.flatV)) else none
  | .tup ds => if a.flat = true ∧ ds.all D.flat = true then some (inV a.flatV (ds.map D.flatV)) else none
  | .dic kvs => match keyD a with
    | some k => some (getK kvs k).isSome
    | none => none
  | .str z => match a with
    | .str y => some (!(Builtin.Str.occurrences z y 0 z.length 1).isEmpty)
    | _ => none
  | _ => none
def cmpR : CmpOp → D → D → Option Bool
  | .Lt, .int i, .int j => some (decide (i < j))
  | .LtE, .int i, .int j => some (decide (i ≤ j))
  | .Gt, .int i, .int j => some (decide (j < i))
  | .GtE, .int i, .int j => some (decide (j ≤ i))
  | .Eq, a, b => eqD a b
  | .NotEq, a, b => (eqD a b).map (!·)
  | .Is, .ref _, .non => none
  | .Is, .non, .non => some true
  | .Is, _, .non => some false
  | .IsNot, .ref _, .non => none
  | .IsNot, .non, .non => some false
  | .IsNot, _, .non => some true
  | .In, a, b => inD a b
  | .NotIn, a, b => (inD a b).map (!·)
  | _, _, _ => none
/-- an item -/
def ixD (a i : D) : Option D :=
  match a, i with
  | .lst ds, .int i => atI ds i
  | .tup ds, .int i => atI ds i
  | .scr ns, .int i => (atI ns i).map .int
  | .str z, .int i => if z.length ≤ sizeLine then (atI z.cps.toList i).map fun c => .str ⟨#[c]⟩ else none
  | .dic kvs, k => match keyD k with
    | some k => getK kvs k
    | none => none
  | .dct kvs, .tup ks => match keysD ks with
    | some k => getK kvs k
    | none => none
  | _, _ => none
def cutL {α : Type} (xs : List α) (lo hi : Option Int) : List α := (xs.drop (HT.sIx xs.length 0 lo)).take (HT.sIx xs.length xs.length hi - HT.sIx xs.length 0 lo)
def slD (a : D) (lo hi : Option Int) : Option Rs :=
  match a with
  | .lst ds => some (.new (.lst (cutL ds lo hi)))
  | .scr ns => some (.new (.lst ((cutL ns lo hi).map .int)))
  | .tup ds => if HT.sIx ds.length 0 lo = 0 ∧ HT.sIx ds.length ds.length hi = ds.length then none else some (.tup (cutL ds lo hi))
  | .str z => if z.length ≤ sizeLine then some (.val (.str (cutS z lo hi))) else none
  | _ => none
def fldD (a : D) (f : Str) : Option D :=
  match a with
  | .ins _ fs => fs.lookup f
  | _ => none

/-! ### built-ins -/
inductive Bi where
  | len | abs | int | str | max | min | sum | list | tuple | dict | sorted | set | reversed | all | any
  deriving DecidableEq
inductive Bm where
  | join | split | get | index | count | upper | partition | pop | copy
  deriving DecidableEq
inductive Ty where
  | int | bool | str | list | tuple | dict
  deriving DecidableEq
def intsD : List D → Option (List Int)
  | [] => some []
  | .int i :: ds => (intsD ds).map (i :: ·)
  | _ :: _ => none
def bisD : List D → Option (List Bool)
  | [] => some []
  | .bl i :: ds => (bisD ds).map (i :: ·)
  | _ :: _ => none
def biR : Bi → List D → Option Rs
  | .len, [.str x] => if x.length ≤ sizeLine then some (.val (.int x.length)) else none
  | .len, [.lst ds] => some (.val (.int ds.length))
  | .len, [.tup ds] => some (.val (.int ds.length))
  | .len, [.scr ns] => some (.val (.int ns.length))
  | .len, [.dic kvs] => some (.val (.int kvs.length))
  | .abs, [.int i] => some (.val (.int (if i < 0 then -i else i)))
  | .int, [.int i] => some (.val (.int i))
  | .int, [.bl b] => some (.val (.int (if b then 1 else 0)))
  | .int, [.str x] => match PySem.intText? x with
    | some n => if x.length ≤ 640 then some (.val (.int n)) else none
    | none => none
  | .str, [.int i] => if i.natAbs.log2 < 1920 then some (.val (.str (toString i))) else none
  | .max, [.int i, .int j] => some (.val (.int (if j > i then j else i)))
  | .min, [.int i, .int j] => some (.val (.int (if j < i then j else i)))
  | .sum, [.lst ds] => match intsD ds with
    | some ns => some (.val (.int ns.sum))
    | none => none
  | .list, [.lst ds] => some (.new (.lst ds))
  | .list, [.tup ds] => some (.new (.lst ds))
  | .tuple, [.lst ds] => some (.tup ds)
  | .all, [.lst ds] => match bisD ds with
    | some bs => some (.val (.bl (bs.all id)))
    | none => none
  | _, _ => none
def bmR : Bm → D → List D → Option Rs
  | _, _, _ => none
def Ty.name : Ty → String
  | .int => "int" | .bool => "bool" | .str => "str" | .list => "list" | .tuple => "tuple" | .dict => "dict"
def tyN : D → Option String
  | .non => some "NoneType"
  | .bl _ => some "bool"
  | .int _ => some "int"
  | .str _ => some "str"
  | .tup _ => some "tuple"
  | .lst _ => some "list"
  | .scr _ => some "list"
  | .dic _ => some "dict"
  | _ => none
def isiR (a : D) (t : Ty) : Option Bool :=
  match tyN a with
  | some n => kitB n t.name
  | none => none

/-! ### the language -/
mutual
inductive E where
  | var (i : Nat)
  | cst (d : D)
  | glb (x : Str) (d : D)
  | bin (op : Operator) (al : Bool) (a b : E)
  | neg (a : E)
  | cmp (op : CmpOp) (a b : E)
  | chn (p q : CmpOp) (a b c : E)
  | and (es : Es) | or (es : Es) | not (a : E)
  | ite (c a b : E)
  | tup (es : Es) | lst (al : Bool) (es : Es)
  | dsp (al : Bool) (ks vs : Es)
  | sub (a i : E)
  | slc (al : Bool) (a lo hi : E)
  | nop
  | fld (a : E) (f : Str)
  | cal (f : Nat) (es : Es)
  | met (f : Nat) (o : E) (es : Es)
  | mak (f : Nat) (es : Es)
  | blt (b : Bi) (al : Bool) (es : Es)
  | mth (m : Bm) (al : Bool) (o : E) (es : Es)
  | isi (a : E) (t : Ty)
  | lcp (al : Bool) (t : List Nat) (it : Itr) (c : E) (v : E)
inductive Es where
  | nil
  | cons (e : E) (es : Es)
inductive Itr where
  | exp (e : E) | rng1 (a : E) | rng2 (a b : E) | enu (e : E) | zip (a b : E) | itm (e : E) | vls (e : E) | rev (e : E)
end
inductive Res where
  | ret (d : D) | exc (x : Exc)
/-- the defs' functions; how many cells were handed in -/
structure Sig where
  f : Nat → List D → Option Res
  nb : Nat
def tst (t : Bool) (o : Option (Out D)) : Option (Out D) := if t = true then obind o (fun M d => (tv (see M d)).map fun b => .ok M (.bl b)) else o
/-- a target of slots takes a thing -/
def bindT (M : Mem) (t : List Nat) (d : D) (env : En) : Option En :=
  match t with
  | [i] => some (env.set i (some d))
  | is => match see M d with
    | .tup ds => if ds.length = is.length then some ((is.zip ds).foldl (fun e p => e.set p.1 (some p.2)) env) else none
    | .lst ds => if ds.length = is.length then some ((is.zip ds).foldl (fun e p => e.set p.1 (some p.2)) env) else none
    | _ => none
def lcGo (t : List Nat) (env : En) (c : En → Mem → Option (Out D)) (v : En → Mem → Option (Out D)) : List D → Mem → Option (Out (List D))
  | [], M => some (.ok M [])
  | d :: ds, M => match bindT M t d env with
    | none => none
    | some env' => obind (c env' M) fun M1 b => match b with
      | .bl true => obind (v env' M1) fun M2 x => obind (lcGo t env c v ds M2) fun M3 xs => some (.ok M3 (x :: xs))
      | .bl false => lcGo t env c v ds M1
      | _ => none
def noEx {α : Type} : Option (Out α) → Option (Out α)
  | some (.ok M a) => some (.ok M a)
  | _ => none
/-- what is walked -/
def itD : D → Option (List D)
  | .lst ds => some ds
  | .tup ds => some ds
  | .scr ns => some (ns.map .int)
  | .str z => some (z.cps.toList.map fun c => .str ⟨#[c]⟩)
  | _ => none
def resO (M : Mem) : Res → Out D
  | .ret d => .ok M d
  | .exc x => .ex M x
def immF : List (Str × D) → Bool
  | [] => true
  | (_, d) :: ds => d.imm && immF ds
def Res.imm : Res → Bool
  | .ret d => d.imm
  | .exc x => immF x.fs
def callR (g : List D → Option Res) (M : Mem) (ds : List D) : Option (Out D) :=
  match ds.mapM (rd M 8) with
  | none => none
  | some ds' => match g ds' with
    | none => none
    | some r => if closedL ds = true ∨ r.imm = true then some (resO M r) else none
def varR (env : En) (i : Nat) (M : Mem) : Option (Out D) := match env[i]? with
  | some (some d) => some (.ok M d)
  | _ => none
def notR (M : Mem) : D → Option (Out D)
  | .bl b => some (.ok M (.bl (!b)))
  | _ => none
def negR (M : Mem) : D → Option (Out D)
  | .int i => some (.ok M (.int (-i)))
  | _ => none
mutual
def ev (G : Sig) : E → Bool → En → Mem → Option (Out D)
  | .var i, t, env, M => tst t (varR env i M)
  | .cst d, t, _, M => tst t (some (.ok M d))
  | .glb _ d, t, _, M => tst t (some (.ok M d))
  | .bin op al a b, t, env, M => tst t (obind (ev G a false env M) fun M1 x => obind (ev G b false env M1) fun M2 y => (binR op (see M2 x) (see M2 y)).map (Rs.fin al M2))
  | .neg a, t, env, M => tst t (obind (ev G a false env M) fun M1 x => negR M1 x)
  | .cmp op a b, t, env, M => obind (ev G a false env M) fun M1 x => obind (ev G b false env M1) fun M2 y => (cmpR op (see M2 x) (see M2 y)).map fun r => .ok M2 (.bl r)
  | .chn p q a b c, _, env, M => obind (ev G a false env M) fun M1 x => obind (ev G b false env M1) fun M2 y => match cmpR p (see M2 x) (see M2 y) with
    | none => none
    | some false => some (.ok M2 (.bl false))
    | some true => obind (ev G c false env M2) fun M3 z => (cmpR q (see M3 y) (see M3 z)).map fun r => .ok M3 (.bl r)
  | .and es, t, env, M => if t = true then evTA G es env M else evA G es env M
  | .or es, t, env, M => if t = true then evTO G es env M else evO G es env M
  | .not a, t, env, M => obind (if t = true then ev G a true env M else tst true (ev G a false env M)) fun M1 x => notR M1 x
  | .ite c a b, t, env, M => obind (ev G c true env M) fun M1 x => match x with
    | .bl true => ev G a t env M1
    | .bl false => ev G b t env M1
    | _ => none
  | .tup es, t, env, M => tst t (obind (evs G es env M) fun M1 ds => if ds.length ≤ sizeLine then some (.ok M1 (.tup ds)) else none)
  | .lst al es, t, env, M => tst t (obind (evs G es env M) fun M1 ds => if ds.length ≤ sizeLine then some ((Rs.new (.lst ds)).fin al M1) else none)
  | .dsp _ _ _, _, _, _ => none
  | .sub a i, t, env, M => tst t (obind (ev G a false env M) fun M1 x => obind (ev G i false env M1) fun M2 y => (ixD (see M2 x) y).map fun d => .ok M2 d)
  | .slc al a lo hi, t, env, M => tst t (obind (ev G a false env M) fun M1 x => obind (evP G lo env M1) fun M2 l => obind (evP G hi env M2) fun M3 h => (slD (see M3 x) l h).map (Rs.fin al M3))
  | .nop, _, _, _ => none
  | .fld a f, t, env, M => tst t (obind (ev G a false env M) fun M1 x => (fldD (see M1 x) f).map fun d => .ok M1 d)
  | .cal f es, t, env, M => tst t (obind (evs G es env M) fun M1 ds => callR (G.f f) M1 ds)
  | .met f o es, t, env, M => tst t (obind (ev G o false env M) fun M1 x => obind (evs G es env M1) fun M2 ds => callR (G.f f) M2 (x :: ds))
  | .mak _ _, _, _, _ => none
  | .blt b al es, t, env, M => tst t (obind (evs G es env M) fun M1 ds => (biR b (ds.map (see M1))).map (Rs.fin al M1))
  | .mth m al o es, t, env, M => tst t (obind (ev G o false env M) fun M1 x => obind (evs G es env M1) fun M2 ds => (bmR m (see M2 x) (ds.map (see M2))).map (Rs.fin al M2))
  | .isi a ty, t, env, M => tst t (obind (ev G a false env M) fun M1 x => (isiR (see M1 x) ty).map fun b => .ok M1 (.bl b))
  | .lcp al tg it c v, t, env, M => tst t (obind (iv G it env M) fun M1 ds => obind (noEx (lcGo tg env (fun e M => ev G c true e M) (fun e M => ev G v false e M) ds M1)) fun M2 xs => if xs.length < sizeLine then some ((Rs.new (.lst xs)).fin al M2) else none)
def evP (G : Sig) : E → En → Mem → Option (Out (Option Int))
  | .nop, _, M => some (.ok M none)
  | .cst (.int i), _, M => some (.ok M (some i))
  | .var i, env, M => match env[i]? with
    | some (some (.int i)) => some (.ok M (some i))
    | _ => none
  | .bin op al a b, env, M => obind (ev G a false env M) fun M1 x => obind (ev G b false env M1) fun M2 y => match binR op (see M2 x) (see M2 y) with
    | some (.val (.int i)) => some (.ok M2 (some i))
    | _ => none
  | _, _, _ => none
def evs (G : Sig) : Es → En → Mem → Option (Out (List D))
  | .nil, _, M => some (.ok M [])
  | .cons e es, env, M => obind (ev G e false env M) fun M1 d => obind (evs G es env M1) fun M2 ds => some (.ok M2 (d :: ds))
def evA (G : Sig) : Es → En → Mem → Option (Out D)
  | .nil, _, _ => none
  | .cons e .nil, env, M => ev G e false env M
  | .cons e es, env, M => obind (ev G e false env M) fun M1 d => match tv (see M1 d) with
    | some true => evA G es env M1
    | some false => some (.ok M1 d)
    | none => none
def evO (G : Sig) : Es → En → Mem → Option (Out D)
  | .nil, _, _ => none
  | .cons e .nil, env, M => ev G e false env M
  | .cons e es, env, M => obind (ev G e false env M) fun M1 d => match tv (see M1 d) with
    | some false => evO G es env M1
    | some true => some (.ok M1 d)
    | none => none
def evTA (G : Sig) : Es → En → Mem → Option (Out D)
  | .nil, _, _ => none
  | .cons e .nil, env, M => ev G e true env M
  | .cons e es, env, M => obind (ev G e true env M) fun M1 d => match d with
    | .bl true => evTA G es env M1
    | .bl false => some (.ok M1 (.bl false))
    | _ => none
def evTO (G : Sig) : Es → En → Mem → Option (Out D)
  | .nil, _, _ => none
  | .cons e .nil, env, M => ev G e true env M
  | .cons e es, env, M => obind (ev G e true env M) fun M1 d => match d with
    | .bl false => evTO G es env M1
    | .bl true => some (.ok M1 (.bl true))
    | _ => none
def iv (G : Sig) : Itr → En → Mem → Option (Out (List D))
  | .exp e, env, M => obind (ev G e false env M) fun M1 x => (itD x).map fun ds => .ok M1 ds
  | .rng1 a, env, M => obind (ev G a false env M) fun M1 x => match x with
    | .int j => if -(2 ^ 62) ≤ j ∧ j < 2 ^ 62 then some (.ok M1 ((List.range j.toNat).map fun k => .int (k : Nat))) else none
    | _ => none
  | .rng2 a b, env, M => obind (ev G a false env M) fun M1 x => obind (ev G b false env M1) fun M2 y => match x, y with
    | .int i, .int j => if -(2 ^ 62) ≤ i ∧ i < 2 ^ 62 ∧ -(2 ^ 62) ≤ j ∧ j < 2 ^ 62 then some (.ok M2 ((List.range (j - i).toNat).map fun k => .int (i + (k : Nat)))) else none
    | _, _ => none
  | .enu e, env, M => obind (ev G e false env M) fun M1 x => match x with
    | .lst ds => some (.ok M1 (((List.range ds.length).zip ds).map fun p => .tup [.int (p.1 : Nat), p.2]))
    | _ => none
  | _, _, _ => none
end

/-! ### statements -/
inductive Mu where
  | append | clear | insert | pop | popAt | update
  deriving DecidableEq
mutual
inductive S where
  | asg (t : List Nat) (e : E)
  | par (t : List Nat) (es : Es)
  | aug (i : Nat) (op : Operator) (e : E)
  | put (o i v : E)
  | fld (o : E) (f : Str) (v : E)
  | exp (e : E)
  | mut (m : Mu) (o : E) (es : Es)
  | ife (c : E) (a b : Ss)
  | whl (c : E) (b : Ss)
  | frl (t : List Nat) (it : Itr) (b : Ss)
  | ret (e : E) | retN
  | brk | cnt | pas
  | rse (c : Nat)
  | frz (i : Nat)
inductive Ss where
  | nil
  | cons (s : S) (r : Ss)
end
inductive Fl where
  | nx (env : En) | brk (env : En) | cnt (env : En) | ret (d : D)
def wloop (c : En → Mem → Option (Out D)) (b : En → Mem → Option (Out Fl)) : Nat → En → Mem → Option (Out Fl)
  | 0, _, _ => none
  | n + 1, env, M => obind (c env M) fun M1 t => match t with
    | .bl true => obind (b env M1) fun M2 f => match f with
      | .nx e => wloop c b n e M2
      | .cnt e => wloop c b n e M2
      | .brk e => some (.ok M2 (.nx e))
      | .ret d => some (.ok M2 (.ret d))
    | .bl false => some (.ok M1 (.nx env))
    | _ => none
def floop (t : List Nat) (b : En → Mem → Option (Out Fl)) : List D → En → Mem → Option (Out Fl)
  | [], env, M => some (.ok M (.nx env))
  | d :: ds, env, M => match bindT M t d env with
    | none => none
    | some env' => obind (b env' M) fun M2 f => match f with
      | .nx e => floop t b ds e M2
      | .cnt e => floop t b ds e M2
      | .brk e => some (.ok M2 (.nx e))
      | .ret d => some (.ok M2 (.ret d))
def muR : Mu → Cell → List D → Option Cell
  | .append, .lst xs, [d] => if xs.length < sizeLine then some (.lst (xs ++ [d])) else none
  | .clear, .lst _, [] => some (.lst [])
  | .clear, .dic _, [] => some (.dic [])
  | _, _, _ => none
mutual
def ex (G : Sig) (n : Nat) : S → En → Mem → Option (Out Fl)
  | .asg t e, env, M => obind (ev G e false env M) fun M1 d => (bindT M1 t d env).map fun env' => .ok M1 (.nx env')
  | .par t es, env, M => obind (evs G es env M) fun M1 ds => if ds.length = t.length then some (.ok M1 (.nx ((t.zip ds).foldl (fun e p => e.set p.1 (some p.2)) env))) else none
  | .aug i op e, env, M => match env[i]? with
    | some (some x) => obind (ev G e false env M) fun M1 y => match augR op x y with
      | some d => some (.ok M1 (.nx (env.set i (some d))))
      | none => none
    | _ => none
  | .put _ _ _, _, _ => none
  | .fld _ _ _, _, _ => none
  | .exp e, env, M => obind (ev G e false env M) fun M1 _ => some (.ok M1 (.nx env))
  | .mut m o es, env, M => obind (ev G o false env M) fun M1 x => obind (evs G es env M1) fun M2 ds => match x with
    | .ref k => match M2[k]? with
      | some c => (muR m c ds).map fun c' => .ok (M2.set k c') (.nx env)
      | none => none
    | _ => none
  | .ife c a b, env, M => obind (ev G c true env M) fun M1 t => match t with
    | .bl true => exs G n a env M1
    | .bl false => exs G n b env M1
    | _ => none
  | .whl c b, env, M => wloop (fun e M => ev G c true e M) (fun e M => exs G n b e M) n env M
  | .frl t it b, env, M => obind (iv G it env M) fun M1 ds => floop t (fun e M => exs G n b e M) ds env M1
  | .ret e, env, M => obind (ev G e false env M) fun M1 d => some (.ok M1 (.ret d))
  | .retN, _, M => some (.ok M (.ret .non))
  | .brk, env, M => some (.ok M (.brk env))
  | .cnt, env, M => some (.ok M (.cnt env))
  | .pas, env, M => some (.ok M (.nx env))
  | .rse c, _, M => some (.ex M ⟨c, []⟩)
  | .frz i, env, M => match env[i]? with
    | some (some (.ref k)) => if G.nb ≤ k then (match M[k]? with
      | some c => if c.isDead = true then none else some (.ok (M.set k .dead) (.nx (env.set i (some c.d))))
      | none => none) else none
    | _ => none
def exs (G : Sig) (n : Nat) : Ss → En → Mem → Option (Out Fl)
  | .nil, env, M => some (.ok M (.nx env))
  | .cons s r, env, M => obind (ex G n s env M) fun M1 f => match f with
    | .nx env' => exs G n r env' M1
    | f => some (.ok M1 f)
end
end Mn

set_option Elab.async false
set_option linter.all false
set_option maxRecDepth 100000
set_option maxHeartbeats 2000000
/-! Mn3: what is reckoned is what the program does: operations. -/
namespace Mn
open PySem PySem.Spec PyProof.Rows L2

/-! ### what stands at a value now -/
inductive Sh (C : Cc) (H : Hp) (g : Gs) : V → D → Prop
  | non : Sh C H g .non .non
  | bl (b : Bool) : Sh C H g (.bl b) (.bl b)
  | int (i : Int) : Sh C H g (.int i) (.int i)
  | str (x : Str) : Sh C H g (.str x) (.str x)
  | tup {a : Addr} {vs : List V} {ds : List D} (h : H a = some (.tup vs)) (r : Reps C.K C.CA g.Z g.rho vs ds) : Sh C H g (.ref a) (.tup ds)
  | lst {a : Addr} {vs : List V} {ds : List D} (h : H a = some (.lst vs)) (r : Reps C.K C.CA g.Z g.rho vs ds) : Sh C H g (.ref a) (.lst ds)
  | dic {a : Addr} {kvs : List (Key × V)} {kds : List (Key × D)} (h : Rd H a (.dK kvs)) (e : kvs.map (·.1) = kds.map (·.1)) (r : Reps C.K C.CA g.Z g.rho (kvs.map (·.2)) (kds.map (·.2))) : Sh C H g (.ref a) (.dic kds)
  | dct {a : Addr} {kvs : List (List Key × V)} {kds : List (List Key × D)} (h : Rd H a (.dT kvs)) (e : kvs.map (·.1) = kds.map (·.1)) (r : Reps C.K C.CA g.Z g.rho (kvs.map (·.2)) (kds.map (·.2))) : Sh C H g (.ref a) (.dct kds)
  | ins {a dx : Addr} {c : Nat} {vfs : List (Str × V)} {fs : List (Str × D)} (h : H a = some (.ins (C.CA c) dx vfs)) (e : vfs.map (·.1) = fs.map (·.1)) (r : Reps C.K C.CA g.Z g.rho (vfs.map (·.2)) (fs.map (·.2))) : Sh C H g (.ref a) (.ins c fs)
  | scr {a : Addr} {ns : List Int} (h : SqL C.K H a (ns.map V.int)) : Sh C H g (.ref a) (.scr ns)
  | ref {a : Addr} {k : Nat} : Sh C H g (.ref a) (.ref k)
theorem see_sh {C : Cc} {σ : Sl} {H : Hp} {g : Gs} {v : V} {d : D} (R : Rel C σ H g) (r : Rep C.K C.CA g.Z g.rho v d) : Sh C H g v (see g.mem d) := by
  cases r with
  | non => exact .non
  | bl b => exact .bl b
  | int i => exact .int i
  | str x => exact .str x
  | tup h r => exact .tup (R.leZ.tup h) r
  | lst h r => exact .lst (R.leZ.lst h) r
  | dic h e r => exact .dic (R.leZ.rdL h) e r
  | dct h e r => exact .dct (R.leZ.rdL h) e r
  | ins h e r => exact .ins (R.leZ.ins h) e r
  | scr h => exact .scr (R.leZ.sql h)
  | @ref k a h =>
    show Sh C H g (.ref a) (match g.mem[k]? with | some (.lst ds) => .lst ds | some (.dic kvs) => .dic kvs | some (.dct kvs) => .dct kvs | some (.ins c fs) => .ins c fs | _ => .ref k)
    cases e : g.mem[k]? with
    | none => exact .ref
    | some c =>
      rcases R.cl k a c h e with ⟨z, _⟩ | ⟨_, o, hu, cu⟩
      · subst z; exact .ref
      · cases c with
        | lst ds =>
          cases o with
          | lst vs =>
            rcases hu with hu | ⟨k, _⟩
            · exact .lst hu cu
            · exact k.elim
          | _ => exact cu.elim
        | dic kds =>
          cases o with
          | dK kvs => exact .dic hu.rd cu.1 cu.2
          | _ => exact cu.elim
        | dct kds =>
          cases o with
          | dT kvs => exact .dct hu.rd cu.1 cu.2
          | _ => exact cu.elim
        | ins c fs =>
          cases o with
          | ins C' dx vfs =>
            obtain ⟨e1, e2, e3⟩ := cu
            subst e1
            rcases hu with hu | ⟨k, _⟩
            · exact .ins hu e2 e3
            · exact k.elim
          | _ => exact cu.elim
        | dead => exact .ref

/-! ### the end of an evaluation -/
/-- an exception: its class, its own dict -/
def ExR (C : Cc) (g : Gs) (H : Hp) (x : Exc) (cls : Value) (d : Option Addr) : Prop :=
  cls = .ref (C.CA x.c) ∧ (x.fs = [] → d = none) ∧ (x.fs ≠ [] → ∃ a vfs, d = some a ∧ H a = some (.xd vfs) ∧ vfs.map (·.1) = x.fs.map (·.1) ∧ Reps C.K C.CA g.Z g.rho (vfs.map (·.2)) (x.fs.map (·.2)))
def Po {α β : Type} (Rp : Gs → β → α → Prop) (C : Cc) (W : WX) (σ : Sl) (g : Gs) (Q : β → Hp → Prop) : Out α → Prop
  | .ok M a => ∀ b H' g', Ext g g' → g'.env = g.env → g'.mem = M → Rel C σ H' g' → Rp g' b a → Q b H'
  | .ex M x => ∀ cls d H' g', Ext g g' → g'.env = g.env → g'.mem = M → Rel C σ H' g' → ExR C g' H' x cls d → W cls d σ H'
theorem Po.ext {α β : Type} {Rp : Gs → β → α → Prop} {C : Cc} {W : WX} {σ : Sl} {g g1 : Gs} {Q : β → Hp → Prop} {r : Out α} (p : Po Rp C W σ g Q r) (e : Ext g g1) (he : g1.env = g.env) : Po Rp C W σ g1 Q r := by
  cases r with
  | ok M a => exact fun b H' g' x y z R q => p b H' g' (e.trans x) (y.trans he) z R q
  | ex M x => exact fun c d H' g' a b z R q => p c d H' g' (e.trans a) (b.trans he) z R q
abbrev RpV (C : Cc) : Gs → V → D → Prop := fun g v d => Rep C.K C.CA g.Z g.rho v d
abbrev RpA (C : Cc) : Gs → List V → List D → Prop := fun g v d => Reps C.K C.CA g.Z g.rho v d
abbrev RpB : Gs → Bool → D → Prop := fun _ b d => d = .bl b
abbrev RpE {α : Type} : Gs → α → α → Prop := fun _ b d => b = d
/-- a reading by reckoning -/
def tR {α β : Type} (Rp : Gs → β → α → Prop) (C : Cc) (W : WX) (f : En → Mem → Option (Out α)) : Sl → Hp → (β → Hp → Prop) → Prop := fun σ H Q => ∃ g r, Rel C σ H g ∧ f g.env g.mem = some r ∧ Po Rp C W σ g Q r
theorem tR_bind {α β α' : Type} {Rp : Gs → β → α → Prop} {β' : Type} {Rp' : Gs → β' → α' → Prop} {C : Cc} {W : WX} {σ : Sl} {H : Hp} {g : Gs} {r : Out α'} {Q : β' → Hp → Prop} {f : En → Mem → Option (Out α)} {k : Mem → α → Option (Out α')} {Kk : β → Hp → Prop}
    (R : Rel C σ H g) (h : obind (f g.env g.mem) k = some r) (p : Po Rp' C W σ g Q r)
    (hk : ∀ b a H1 g1, Ext g g1 → g1.env = g.env → Rel C σ H1 g1 → Rp g1 b a → k g1.mem a = some r → Po Rp' C W σ g1 Q r → Kk b H1) : tR Rp C W f σ H Kk := by
  cases hf : f g.env g.mem with
  | none => rw [hf] at h; cases h
  | some o =>
    rw [hf] at h
    refine ⟨g, o, R, hf, ?_⟩
    cases o with
    | ok M a =>
      rintro b H1 g1 e he hm R1 q
      subst hm
      exact hk b a H1 g1 e he R1 q h (p.ext e he)
    | ex M x =>
      have e2 : some (Out.ex M x) = some r := h
      injection e2 with e2
      subst e2
      exact p
theorem tR_imp {α β : Type} {Rp : Gs → β → α → Prop} {C : Cc} {W : WX} {σ : Sl} {H : Hp} {f f' : En → Mem → Option (Out α)} {Q : β → Hp → Prop} (h : tR Rp C W f σ H Q) (e : ∀ env M, f env M = f' env M) : tR Rp C W f' σ H Q := by
  obtain ⟨g, r, R, hf, p⟩ := h
  exact ⟨g, r, R, (e _ _) ▸ hf, p⟩
theorem _root_.L2.PE.wk {X : Cx} {e : Expr} {t t' : TE} (h : PE X e t) (i : ∀ σ H Q, t' σ H Q → t σ H Q) : PE X e t' := ⟨fun pins s σ H Q I q => h.run pins s σ H Q I (i σ H Q q)⟩
theorem _root_.L2.PT.wk {X : Cx} {e : Expr} {t t' : TT} (h : PT X e t) (i : ∀ σ H Q, t' σ H Q → t σ H Q) : PT X e t' := ⟨fun pins s σ H Q I q => h.run pins s σ H Q I (i σ H Q q)⟩
theorem _root_.L2.PA.wk {X : Cx} {e : List Expr} {t t' : TA} (h : PA X e t) (i : ∀ σ H Q, t' σ H Q → t σ H Q) : PA X e t' := ⟨fun pos pins s σ H Q I q => h.run pos pins s σ H Q I (i σ H Q q)⟩
theorem _root_.L2.OpR.orM {X : Cx} {f : Value → Value → Sem Value} {r r' : R2} (h : OpR X f r) (h' : OpR X f r') : OpR X f (fun x y H Q => r x y H Q ∨ r' x y H Q) := by
  intro pins s σ H x y v u Q I rx ry q
  rcases q with q | q
  · exact h pins s σ H x y v u Q I rx ry q
  · exact h' pins s σ H x y v u Q I rx ry q
theorem _root_.L2.CallR.orM {X : Cx} {f : Value} {r r' : List V → Hp → VK → Prop} (h : CallR X f r) (h' : CallR X f r') : CallR X f (fun x H Q => r x H Q ∨ r' x H Q) := by
  intro pins s σ H x y Q I rx q
  rcases q with q | q
  · exact h pins s σ H x y Q I rx q
  · exact h' pins s σ H x y Q I rx q
def rNo : R2 := fun _ _ _ _ => False
theorem opNo {X : Cx} {f : Value → Value → Sem Value} : OpR X f rNo := fun _ _ _ _ _ _ _ _ _ _ _ _ q => q.elim

/-! ### a result laid -/
section
variable {C : Cc} {W : WX} {σ : Sl} {H : Hp} {g : Gs} {Q : VK}
theorem fin_val {al : Bool} {d : D} {v : V} (R : Rel C σ H g) (p : Po (RpV C) C W σ g Q ((Rs.val d).fin al g.mem)) (r : Rep C.K C.CA g.Z g.rho v d) : Q v H := p v H g (Ext.refl g) rfl rfl R r
theorem fin_tup {al : Bool} {ds : List D} {vs : List V} (R : Rel C σ H g) (p : Po (RpV C) C W σ g Q ((Rs.tup ds).fin al g.mem)) (r : Reps C.K C.CA g.Z g.rho vs ds) : ∀ a, H a = none → Q (.ref a) (upd H a (.tup vs)) := fun a ha =>
  p (.ref a) _ _ (ext_z (R.freshZ ha)) rfl rfl (R.lay ha _) (.tup (show upd g.Z a (.tup vs) a = _ from upd_same) (r.ext (ext_z (R.freshZ ha))))
theorem fin_new {al : Bool} {c : Cell} {o : HO} (R : Rel C σ H g) (p : Po (RpV C) C W σ g Q ((Rs.new c).fin al g.mem)) (r : COk C.K C.CA g.Z g.rho c o) : ∀ a, H a = none → Q (.ref a) (upd H a o) := fun a ha => by
  cases al with
  | true =>
    obtain ⟨R1, e1⟩ := R.cell ha r
    refine p (.ref a) _ _ e1 rfl rfl R1 (.ref ?_)
    show (g.rho ++ [a])[g.mem.length]? = some a
    rw [← R.rl, List.getElem?_append_right (Nat.le_refl _), Nat.sub_self]
    rfl
  | false =>
    have ez := ext_z (g := g) (o := o) (R.freshZ ha)
    refine p (.ref a) _ _ ez rfl rfl (R.lay ha _) ?_
    have hz : upd g.Z a o a = some o := upd_same
    cases c <;> cases o <;> first
      | exact r.elim
      | exact .lst hz (Reps.ext r ez)
      | exact .dic (.inl hz) r.1 (Reps.ext r.2 ez)
      | exact .dct (.inl hz) r.1 (Reps.ext r.2 ez)
      | (obtain ⟨r1, r2, r3⟩ := r; subst r1; exact .ins hz r2 (Reps.ext r3 ez))
end

/-! ### binary operators -/
def rBin (K : PySem.W.Frag) : Operator → R2
  | .Add => fun x y H Q => rI0 (fun i j => .int (i + j)) x y H Q ∨ (∃ i j, x = .str i ∧ y = .str j ∧ i.length + j.length ≤ sizeLine ∧ Q (.str (i ++ j)) H) ∨ rCat x y H Q ∨ rCatT K x y H Q
  | .Sub => rI0 fun i j => .int (i - j)
  | .Mult => fun x y H Q => rI CMul (fun i j => .int (i * j)) x y H Q ∨ rI CMulW (fun i j => .int (i * j)) x y H Q ∨ rRep x y H Q
  | .FloorDiv => rI CDivW fun i j => .int (i / j)
  | .Mod => rI (fun _ j => 0 < j) fun i j => .int (i % j)
  | .Pow => rI CPow fun i j => .int (i ^ j.toNat)
  | .LShift => rI CPow fun i j => .int (i * 2 ^ j.toNat)
  | .RShift => rI (fun _ j => 0 ≤ j) fun i j => .int (i / 2 ^ j.toNat)
  | .BitAnd => rI0 fun i j => .int (Builtin.bitAnd i j)
  | _ => rNo
theorem op_bin {X : Cx} : ∀ op : Operator, OpR X (binaryOp op) (rBin X.K op)
  | .Add => OpR.orM op_add (OpR.orM op_add_str (OpR.orM op_cat op_catT))
  | .Sub => op_sub
  | .Mult => OpR.orM op_mul (OpR.orM op_mulW op_rep)
  | .FloorDiv => op_fdivW
  | .Mod => op_mod
  | .Pow => op_pow
  | .LShift => op_shl
  | .RShift => op_shr
  | .BitAnd => op_and
  | .MatMult => opNo
  | .Div => opNo
  | .BitOr => opNo
  | .BitXor => opNo
theorem Reps.nil_iff {K : PySem.W.Frag} {CA : Nat → Addr} {Z : Hp} {rho : List Addr} {d : D} {ds : List D} : ∀ {vs : List V}, Reps K CA Z rho vs (d :: ds) → vs ≠ []
  | _, .cons _ _ => fun z => nomatch z
theorem rep_flatten {K : PySem.W.Frag} {CA : Nat → Addr} {Z : Hp} {rho : List Addr} {vs : List V} {ds : List D} (r : Reps K CA Z rho vs ds) : ∀ n : Nat, Reps K CA Z rho (List.replicate n vs).flatten (List.replicate n ds).flatten
  | 0 => .nil
  | n + 1 => by
    rw [List.replicate_succ, List.replicate_succ, List.flatten_cons, List.flatten_cons]
    exact r.append (rep_flatten r n)
theorem bin_leaf {C : Cc} {W : WX} {σ : Sl} {H : Hp} {g : Gs} {Q : VK} {al : Bool} {op : Operator} {v u : V} {x y : D} {rs : Rs} (R : Rel C σ H g) (hx : Sh C H g v x) (hy : Sh C H g u y) (h : binR op x y = some rs) (p : Po (RpV C) C W σ g Q (rs.fin al g.mem)) :
    rBin C.K op v u H Q := by
  cases op <;> cases hx <;> cases hy <;> first | (simp [binR] at h; done) | skip
  case Add.int.int => 
    simp only [binR, Option.some.injEq] at h; subst h
    exact .inl ⟨_, _, rfl, rfl, fin_val R p (.int _)⟩
  case Add.str.str =>
    simp only [binR] at h
    split at h
    · rename_i hl
      cases h
      exact .inr (.inl ⟨_, _, rfl, rfl, hl, fin_val R p (.str _)⟩)
    · cases h
  case Add.lst.lst =>
    rename_i a vs ds h1 r1 b us es h2 r2
    simp only [binR] at h
    split at h
    · rename_i hl
      cases h
      refine .inr (.inr (.inl ⟨_, _, _, _, rfl, rfl, h1, h2, by rw [r1.length, r2.length]; exact hl, fin_new R p (show Reps _ _ _ _ _ _ from r1.append r2)⟩))
    · cases h
  case Add.tup.tup =>
    rename_i a vs ds h1 r1 b us es h2 r2
    cases ds with
    | nil => cases es <;> simp [binR] at h
    | cons d ds =>
      cases es with
      | nil => simp [binR] at h
      | cons e es =>
        simp only [binR] at h
        split at h
        · rename_i hl
          cases h
          refine .inr (.inr (.inr ⟨_, _, _, _, rfl, rfl, SqT.of h1, SqT.of h2, r1.nil_iff, by rw [r1.length, r2.length]; exact hl, fun z => absurd z r2.nil_iff, fun _ => fin_tup R p (r1.append r2)⟩))
        · cases h
  case Sub.int.int =>
    simp only [binR, Option.some.injEq] at h; subst h
    exact ⟨_, _, rfl, rfl, fin_val R p (.int _)⟩
  case Mult.int.int =>
    simp only [binR] at h
    split at h
    · rename_i hl
      cases h
      simp only [mulB, Bool.or_eq_true, Bool.and_eq_true, decide_eq_true_eq] at hl
      rcases hl with hl | hl
      · exact .inl ⟨_, _, rfl, rfl, hl, fin_val R p (.int _)⟩
      · exact .inr (.inl ⟨_, _, rfl, rfl, hl, fin_val R p (.int _)⟩)
    · cases h
  case Mult.lst.int =>
    rename_i a vs ds h1 r1 k
    simp only [binR] at h
    split at h
    · rename_i hl
      cases h
      exact .inr (.inr ⟨_, _, _, rfl, rfl, h1, hl.1, hl.2.1, by rw [r1.length]; exact hl.2.2, fin_new R p (show Reps _ _ _ _ _ _ from rep_flatten r1 _)⟩)
    · cases h
  case BitAnd.int.int =>
    simp only [binR, Option.some.injEq] at h; subst h
    exact ⟨_, _, rfl, rfl, fin_val R p (.int _)⟩
  all_goals
    simp only [binR] at h
    split at h
    · rename_i hl
      cases h
      exact ⟨_, _, rfl, rfl, hl, fin_val R p (.int _)⟩
    · cases h

/-! ### truth -/
theorem isEmpty_len {α β : Type} {xs : List α} {ys : List β} (h : xs.length = ys.length) : xs.isEmpty = ys.isEmpty := by
  cases xs <;> cases ys <;> simp_all
theorem tru_of {C : Cc} {H : Hp} {g : Gs} {v : V} {d : D} {b : Bool} (s : Sh C H g v d) (h : tv d = some b) : TruV C.K v H b := by
  cases s with
  | non => cases h; rfl
  | bl b => cases h; rfl
  | int i => cases h; rfl
  | str x =>
    simp only [tv] at h
    split at h
    · rename_i hl
      cases h
      refine ⟨hl, ?_⟩
      rw [Bool.eq_iff_iff]
      simp
    · cases h
  | tup h1 r => cases h; exact .inr (.inl ⟨_, SqT.of h1, by rw [isEmpty_len r.length]⟩)
  | lst h1 r => cases h; exact .inl ⟨_, SqL.of h1, by rw [isEmpty_len r.length]⟩
  | _ => cases h

/-! ### comparisons -/
theorem flat_sh {C : Cc} {H : Hp} {g : Gs} {v : V} {d : D} (s : Sh C H g v d) (f : d.flat = true) : v = d.flatV ∧ flatV v = true := by
  cases s <;> first | exact ⟨rfl, rfl⟩ | (simp [D.flat] at f)
theorem flat_rep {K : PySem.W.Frag} {CA : Nat → Addr} {Z : Hp} {rho : List Addr} {v : V} {d : D} (s : Rep K CA Z rho v d) (f : d.flat = true) : v = d.flatV ∧ flatV v = true := by
  cases s <;> first | exact ⟨rfl, rfl⟩ | (simp [D.flat] at f)
theorem flat_reps {K : PySem.W.Frag} {CA : Nat → Addr} {Z : Hp} {rho : List Addr} : ∀ {vs : List V} {ds : List D}, Reps K CA Z rho vs ds → ds.all D.flat = true → vs = ds.map D.flatV ∧ vs.all flatV = true
  | _, _, .nil, _ => ⟨rfl, rfl⟩
  | _, _, .cons h t, f => by
    rw [List.all_cons, Bool.and_eq_true] at f
    obtain ⟨h1, h2⟩ := flat_rep h f.1
    obtain ⟨t1, t2⟩ := flat_reps t f.2
    exact ⟨by rw [List.map_cons, h1, t1], by rw [List.all_cons, h2, t2]; rfl⟩
mutual
theorem py_rep {C : Cc} {Lk : List Addr} {Z H : Hp} {rho : List Addr} (l : Le Lk Z H) : ∀ {v : V} {d : D}, Rep C.K C.CA Z rho v d → d.isPy = true → Dp C.K H v d.py
  | _, _, .non, _ => .non
  | _, _, .bl b, _ => .bl b
  | _, _, .int i, _ => .int i
  | _, _, .str x, _ => .str x
  | _, _, .tup h r, f => .tup (SqT.of (l.tup h)) (py_reps l r (by simpa [D.isPy] using f))
  | _, _, .lst h r, f => .lst (SqL.of (l.lst h)) (py_reps l r (by simpa [D.isPy] using f))
  | _, _, .dic _ _ _, f => by simp [D.isPy] at f
  | _, _, .dct _ _ _, f => by simp [D.isPy] at f
  | _, _, .ins _ _ _, f => by simp [D.isPy] at f
  | _, _, .scr _, f => by simp [D.isPy] at f
  | _, _, .ref _, f => by simp [D.isPy] at f
theorem py_reps {C : Cc} {Lk : List Addr} {Z H : Hp} {rho : List Addr} (l : Le Lk Z H) : ∀ {vs : List V} {ds : List D}, Reps C.K C.CA Z rho vs ds → isPyL ds = true → DpAll C.K H vs (pyL ds)
  | _, _, .nil, _ => .nil
  | _, _, .cons h t, f => by
    have f' : (_ && _) = true := f
    rw [Bool.and_eq_true] at f'
    exact .cons (py_rep l h f'.1) (py_reps l t f'.2)
end
theorem py_sh {C : Cc} {σ : Sl} {H : Hp} {g : Gs} {v : V} {d : D} (R : Rel C σ H g) (s : Sh C H g v d) (f : d.isPy = true) : Dp C.K H v d.py := by
  cases s with
  | non => exact .non
  | bl b => exact .bl b
  | int i => exact .int i
  | str x => exact .str x
  | tup h r => exact .tup (SqT.of h) (py_reps R.leZ r (by simpa [D.isPy] using f))
  | lst h r => exact .lst (SqL.of h) (py_reps R.leZ r (by simpa [D.isPy] using f))
  | _ => simp [D.isPy] at f
theorem key_sh {C : Cc} {H : Hp} {g : Gs} {v : V} {d : D} {k : Key} (s : Sh C H g v d) (h : keyD d = some k) : v = kV k := by
  cases s <;> simp only [keyD, Option.some.injEq] at h <;> first | (subst h; rfl) | (cases h)
theorem look_dic {C : Cc} {H : Hp} {g : Gs} {a : Addr} {kvs : List (Key × V)} {kds : List (Key × D)} (h : Rd H a (.dK kvs)) (e : kvs.map (·.1) = kds.map (·.1)) (r : Reps C.K C.CA g.Z g.rho (kvs.map (·.2)) (kds.map (·.2))) (k : Key) :
    (∀ d, getK kds k = some d → ∃ v, DGet H a (kV k) (some v) ∧ Rep C.K C.CA g.Z g.rho v d) ∧ (getK kds k = none → DGet H a (kV k) none) := by
  obtain ⟨i1, i2⟩ := Reps.look k e r
  refine ⟨fun d hd => ?_, fun hd => ?_⟩
  · obtain ⟨v, e1, r1⟩ := i1 d hd
    exact ⟨v, .inl ⟨kvs, k, h, rfl, e1.symm⟩, r1⟩
  · exact .inl ⟨kvs, k, h, rfl, (i2 hd).symm⟩
def rInA (K : PySem.W.Frag) (neg : Bool) : R2 := fun x y H Q => rIn K neg x y H Q ∨ (∃ a o, y = .ref a ∧ DGet H a x o ∧ Q (.bl (if neg = true then !o.isSome else o.isSome)) H) ∨
  (∃ i j, x = .str i ∧ y = .str j ∧ Q (.bl (if neg = true then !(!(Builtin.Str.occurrences j i 0 j.length 1).isEmpty) else !(Builtin.Str.occurrences j i 0 j.length 1).isEmpty)) H)
theorem op_inA {X : Cx} (hu : X.A.units + 1 < cLine) : OpR X (compareOp .In) (rInA X.K false) := by
  refine OpR.orM op_in_seq (OpR.orM ?_ ?_)
  · rintro pins s σ H x y v u Q I rx ry ⟨a, o, rfl, g, q⟩
    obtain rfl : u = Value.ref a := ry
    exact d_in hu I g rx fun s3 I3 => ⟨.bl o.isSome, H, I3, rfl, q⟩
  · rintro pins s σ H x y v u Q I rx ry ⟨i, j, rfl, rfl, q⟩
    exact op_in_str pins s σ H _ _ v u Q I rx ry ⟨i, j, rfl, rfl, q⟩
theorem op_ninA {X : Cx} (hu : X.A.units + 1 < cLine) : OpR X (compareOp .NotIn) (rInA X.K true) := by
  refine OpR.orM op_notIn_seq (OpR.orM ?_ ?_)
  · rintro pins s σ H x y v u Q I rx ry ⟨a, o, rfl, g, q⟩
    obtain rfl : u = Value.ref a := ry
    exact d_notIn hu I g rx fun s3 I3 => ⟨.bl (!o.isSome), H, I3, rfl, q⟩
  · rintro pins s σ H x y v u Q I rx ry ⟨i, j, rfl, rfl, q⟩
    exact op_notin_str pins s σ H _ _ v u Q I rx ry ⟨i, j, rfl, rfl, q⟩
def rCmp (K : PySem.W.Frag) : CmpOp → R2
  | .Lt => rI0 fun i j => .bl (decide (i < j))
  | .LtE => rI0 fun i j => .bl (decide (i ≤ j))
  | .Gt => rI0 fun i j => .bl (decide (j < i))
  | .GtE => rI0 fun i j => .bl (decide (j ≤ i))
  | .Eq => fun x y H Q => rEq x y H Q ∨ rEqD K x y H Q
  | .NotEq => fun x y H Q => rNe x y H Q ∨ rNeD K x y H Q
  | .Is => fun x y H Q => y = .non ∧ Q (.bl (decide (x = .non))) H
  | .IsNot => fun x y H Q => y = .non ∧ Q (.bl (!decide (x = .non))) H
  | .In => rInA K false
  | .NotIn => rInA K true
theorem op_cmp {X : Cx} (hu : X.A.units + 64 < cLine) : ∀ op : CmpOp, OpR X (compareOp op) (rCmp X.K op)
  | .Lt => op_lt
  | .LtE => op_le
  | .Gt => op_gt
  | .GtE => op_ge
  | .Eq => OpR.orM op_eq (op_eqD hu)
  | .NotEq => OpR.orM op_ne (op_neD hu)
  | .Is => op_isN
  | .IsNot => op_notN
  | .In => op_inA (by omega)
  | .NotIn => op_ninA (by omega)
theorem eq_leaf {C : Cc} {σ : Sl} {H : Hp} {g : Gs} {Q : VK} {v u : V} {x y : D} {b : Bool} (R : Rel C σ H g) (hx : Sh C H g v x) (hy : Sh C H g u y) (h : eqD x y = some b) :
    (Q (.bl b) H → rEq v u H Q ∨ rEqD C.K v u H Q) ∧ (Q (.bl (!b)) H → rNe v u H Q ∨ rNeD C.K v u H Q) := by
  unfold eqD at h
  split at h
  · rename_i hs
    obtain ⟨h1, _⟩ := flat_sh hx hs.2.1
    obtain ⟨h2, _⟩ := flat_sh hy hs.2.2
    injection h with h
    subst h h1 h2
    exact ⟨fun q => .inl ⟨hs.1, q⟩, fun q => .inl ⟨hs.1, q⟩⟩
  · split at h
    · rename_i hs
      injection h with h
      subst h
      exact ⟨fun q => .inr ⟨_, _, py_sh R hx hs.1, py_sh R hy hs.2.1, hs.2.2.1, hs.2.2.2, q⟩, fun q => .inr ⟨_, _, py_sh R hx hs.1, py_sh R hy hs.2.1, hs.2.2.1, hs.2.2.2, q⟩⟩
    · cases h
theorem in_leaf {C : Cc} {σ : Sl} {H : Hp} {g : Gs} {Q : VK} {v u : V} {x y : D} {b : Bool} (neg : Bool) (hx : Sh C H g v x) (hy : Sh C H g u y) (h : inD x y = some b) (q : Q (.bl (if neg = true then !b else b)) H) : rInA C.K neg v u H Q := by
  cases hy with
  | lst h1 r =>
    simp only [inD] at h
    split at h
    · rename_i hs
      injection h with h
      subst h
      obtain ⟨e1, f1⟩ := flat_sh hx hs.1
      obtain ⟨e2, f2⟩ := flat_reps r hs.2
      subst e1
      rw [e2] at h1 f2
      exact .inl ⟨_, _, rfl, .inl (SqL.of h1), f1, f2, q⟩
    · cases h
  | tup h1 r =>
    simp only [inD] at h
    split at h
    · rename_i hs
      injection h with h
      subst h
      obtain ⟨e1, f1⟩ := flat_sh hx hs.1
      obtain ⟨e2, f2⟩ := flat_reps r hs.2
      subst e1
      rw [e2] at h1 f2
      exact .inl ⟨_, _, rfl, .inr (SqT.of h1), f1, f2, q⟩
    · cases h
  | dic h1 e r =>
    simp only [inD] at h
    split at h
    · rename_i k hk
      injection h with h
      obtain ⟨i1, i2⟩ := look_dic h1 e r k
      have ev := key_sh hx hk
      subst ev
      cases hg : getK _ k with
      | some d =>
        obtain ⟨w, hw, _⟩ := i1 d hg
        rw [hg] at h
        subst h
        exact .inr (.inl ⟨_, _, rfl, hw, q⟩)
      | none =>
        have hw := i2 hg
        rw [hg] at h
        subst h
        exact .inr (.inl ⟨_, _, rfl, hw, q⟩)
    · cases h
  | str z =>
    cases hx <;> simp only [inD] at h <;> first | (cases h; done) | skip
    injection h with h
    subst h
    exact .inr (.inr ⟨_, _, rfl, rfl, q⟩)
  | _ => cases h
theorem cmp_leaf {C : Cc} {σ : Sl} {H : Hp} {g : Gs} {Q : VK} {op : CmpOp} {v u : V} {x y : D} {b : Bool} (R : Rel C σ H g) (hx : Sh C H g v x) (hy : Sh C H g u y) (h : cmpR op x y = some b) (q : Q (.bl b) H) : rCmp C.K op v u H Q := by
  cases op with
  | Eq => exact (eq_leaf R hx hy h).1 q
  | NotEq =>
    simp only [cmpR, Option.map_eq_some_iff] at h
    obtain ⟨b', h1, h2⟩ := h
    subst h2
    exact (eq_leaf R hx hy h1).2 q
  | In => exact in_leaf (σ := σ) false hx hy h q
  | NotIn =>
    simp only [cmpR, Option.map_eq_some_iff] at h
    obtain ⟨b', h1, h2⟩ := h
    subst h2
    exact in_leaf (σ := σ) true hx hy h1 q
  | Lt => 
    cases hx <;> cases hy <;> first | (simp [cmpR] at h; done) | (simp only [cmpR, Option.some.injEq] at h; subst h; exact ⟨_, _, rfl, rfl, q⟩)
  | LtE => 
    cases hx <;> cases hy <;> first | (simp [cmpR] at h; done) | (simp only [cmpR, Option.some.injEq] at h; subst h; exact ⟨_, _, rfl, rfl, q⟩)
  | Gt => 
    cases hx <;> cases hy <;> first | (simp [cmpR] at h; done) | (simp only [cmpR, Option.some.injEq] at h; subst h; exact ⟨_, _, rfl, rfl, q⟩)
  | GtE => 
    cases hx <;> cases hy <;> first | (simp [cmpR] at h; done) | (simp only [cmpR, Option.some.injEq] at h; subst h; exact ⟨_, _, rfl, rfl, q⟩)
  | Is =>
    cases hy <;> first | (cases hx <;> (simp [cmpR] at h; done)) | skip
    cases hx <;> first | (simp [cmpR] at h; done) | (simp only [cmpR, Option.some.injEq] at h; subst h; exact ⟨rfl, by simpa using q⟩)
  | IsNot =>
    cases hy <;> first | (cases hx <;> (simp [cmpR] at h; done)) | skip
    cases hx <;> first | (simp [cmpR] at h; done) | (simp only [cmpR, Option.some.injEq] at h; subst h; exact ⟨rfl, by simpa using q⟩)

/-! ### items, slices, fields -/
theorem ix_dict {X : Cx} (hu : X.A.units + 1 < cLine) : IxR X (fun x y H Q => ∃ a v, x = .ref a ∧ DGet H a y (some v) ∧ Q v H) := by
  rintro value slice pins s σ H x y v u Q I rx ry ⟨a, w, rfl, g, q⟩ hs
  obtain rfl : v = Value.ref a := rx
  exact tail_any (dict_typeIs I g) PySem.F.slot_dict_getitem.lookup (d_getItem hu I g ry fun w' s3 I3 rw' => ⟨w, H, I3, rw', q⟩) hs
def rIxA (K : PySem.W.Frag) : R2 := fun x y H Q => rIx K x y H Q ∨ ∃ a v, x = .ref a ∧ DGet H a y (some v) ∧ Q v H
theorem ix_any {X : Cx} (hu : X.A.units + 1 < cLine) : IxR X (rIxA X.K) := IxR.or ix_seq (ix_dict hu)
theorem atI_rep {K : PySem.W.Frag} {CA : Nat → Addr} {Z : Hp} {rho : List Addr} {vs : List V} {ds : List D} {i : Int} {d : D} (r : Reps K CA Z rho vs ds) (h : atI ds i = some d) : ∃ v, atI vs i = some v ∧ Rep K CA Z rho v d := by
  unfold atI at h ⊢
  rw [r.length]
  cases e : ixN ds.length i with
  | none => rw [e] at h; cases h
  | some j =>
    rw [e] at h
    exact r.get h
theorem keys_rep {K : PySem.W.Frag} {CA : Nat → Addr} {Z : Hp} {rho : List Addr} : ∀ {vs : List V} {ds : List D} {ks : List Key}, Reps K CA Z rho vs ds → keysD ds = some ks → vs = ks.map kV
  | _, _, _, .nil, h => by cases h; rfl
  | _, _, ks, .cons h t, e => by
    rename_i v d vs ds
    simp only [keysD] at e
    split at e
    · rename_i k ks' h1 h2
      injection e with e
      subst e
      rw [List.map_cons, ← keys_rep t h2]
      congr 1
      cases h <;> simp only [keyD, Option.some.injEq] at h1 <;> first | (subst h1; rfl) | (cases h1)
    · cases e
theorem ix_leaf {C : Cc} {W : WX} {σ : Sl} {H : Hp} {g : Gs} {Q : VK} {v u : V} {x y d : D} (R : Rel C σ H g) (hx : Sh C H g v x) (hy : Rep C.K C.CA g.Z g.rho u y) (h : ixD x y = some d) (p : Po (RpV C) C W σ g Q (.ok g.mem d)) : rIxA C.K v u H Q := by
  have fin : ∀ w, Rep C.K C.CA g.Z g.rho w d → Q w H := fun w r => p w H g (Ext.refl g) rfl rfl R r
  cases hx with
  | lst h1 r =>
    cases hy <;> simp only [ixD] at h <;> first | (cases h; done) | skip
    obtain ⟨w, e, rw'⟩ := atI_rep r h
    exact .inl (.inl ⟨_, _, _, _, rfl, rfl, SqL.of h1, e, fin w rw'⟩)
  | tup h1 r =>
    cases hy <;> simp only [ixD] at h <;> first | (cases h; done) | skip
    obtain ⟨w, e, rw'⟩ := atI_rep r h
    exact .inl (.inr (.inl ⟨_, _, _, _, rfl, rfl, SqT.of h1, e, fin w rw'⟩))
  | scr h1 =>
    cases hy <;> simp only [ixD] at h <;> first | (cases h; done) | skip
    simp only [Option.map_eq_some_iff] at h
    obtain ⟨n, h2, h3⟩ := h
    subst h3
    refine .inl (.inl ⟨_, _, _, .int n, rfl, rfl, h1, ?_, fin _ (.int n)⟩)
    unfold atI at h2 ⊢
    rw [List.length_map]
    cases e : ixN _ _ with
    | none => rw [e] at h2; cases h2
    | some j =>
      rw [e] at h2
      simp only [Option.bind_some] at h2 ⊢
      rw [List.getElem?_map, h2]; rfl
  | str z =>
    cases hy <;> simp only [ixD] at h <;> first | (cases h; done) | skip
    split at h
    · rename_i hl
      simp only [Option.map_eq_some_iff] at h
      obtain ⟨c, h2, h3⟩ := h
      subst h3
      exact .inl (.inr (.inr ⟨_, _, _, rfl, rfl, hl, h2, fin _ (.str _)⟩))
    · cases h
  | dic h1 e r =>
    simp only [ixD] at h
    split at h
    · rename_i k hk
      obtain ⟨w, hw, rw'⟩ := (look_dic h1 e r k).1 d h
      have ev := key_sh (see_sh R hy) (by cases hy <;> first | exact hk | (cases hk))
      subst ev
      exact .inr ⟨_, _, rfl, hw, fin w rw'⟩
    · cases h
  | dct h1 e r =>
    cases hy <;> simp only [ixD] at h <;> first | (cases h; done) | skip
    rename_i vs ds hz ry
    split at h
    · rename_i k hk
      obtain ⟨w, e1, r1⟩ := (Reps.look k e r).1 d h
      have ev := keys_rep ry hk
      subst ev
      exact .inr ⟨_, _, rfl, .inr ⟨_, k, _, h1, rfl, R.leZ.tup hz, e1.symm⟩, fin w r1⟩
    · cases h
  | _ => cases h
def rSlA (K : PySem.W.Frag) : V → Option Int → Option Int → Hp → VK → Prop := fun x lo hi H Q => rSlL K x lo hi H Q ∨ rSlT K x lo hi H Q ∨ rSlS x lo hi H Q
theorem cut_rep {K : PySem.W.Frag} {CA : Nat → Addr} {Z : Hp} {rho : List Addr} {vs : List V} {ds : List D} (r : Reps K CA Z rho vs ds) (lo hi : Option Int) : Reps K CA Z rho (cutV vs lo hi) (cutL ds lo hi) := by
  unfold cutV cutL
  rw [r.length]
  exact (r.drop _).take _
theorem cut_map {α β : Type} (f : α → β) (xs : List α) (lo hi : Option Int) : cutL (xs.map f) lo hi = (cutL xs lo hi).map f := by
  unfold cutL
  rw [List.length_map, List.map_take, List.map_drop]
theorem reps_ints {K : PySem.W.Frag} {CA : Nat → Addr} {Z : Hp} {rho : List Addr} : ∀ ns : List Int, Reps K CA Z rho (ns.map V.int) (ns.map D.int)
  | [] => .nil
  | n :: ns => .cons (.int n) (reps_ints ns)
theorem fld_leaf {K : PySem.W.Frag} {CA : Nat → Addr} {Z : Hp} {rho : List Addr} (f : Str) : ∀ {vfs : List (Str × V)} {fs : List (Str × D)} {d : D}, vfs.map (·.1) = fs.map (·.1) → Reps K CA Z rho (vfs.map (·.2)) (fs.map (·.2)) → fs.lookup f = some d →
    ∃ v, vfs.lookup f = some v ∧ Rep K CA Z rho v d
  | [], [], _, _, _, h => by cases h
  | [], _ :: _, _, e, _, _ => by cases e
  | _ :: _, [], _, e, _, _ => by cases e
  | (p, v) :: r, (q, w) :: s, d, e, h, hl => by
    rw [List.map_cons, List.map_cons] at e h
    injection e with e1 e2
    have e1' : p = q := e1
    subst e1'
    cases h with
    | cons h1 h2 =>
      rw [List.lookup_cons] at hl ⊢
      cases hb : (f == p) with
      | true =>
        rw [hb] at hl
        have : w = d := Option.some.inj hl
        subst this
        exact ⟨v, rfl, h1⟩
      | false =>
        rw [hb] at hl
        exact fld_leaf f e2 h2 hl
end Mn

set_option Elab.async false
set_option linter.all false
set_option maxRecDepth 100000
set_option maxHeartbeats 2000000
/-! Mn4: the look whether a small text is the program's; expressions. -/
namespace Mn
open PySem PySem.Spec PyProof.Rows L2

/-! ### the look -/
structure Ck where
  N : List Str
  fns : List Str
  bis : List Str
  gls : List (Str × D)
def Bi.name : Bi → Str
  | .len => "len" | .abs => "abs" | .int => "int" | .str => "str" | .max => "max" | .min => "min" | .sum => "sum" | .list => "list" | .tuple => "tuple" | .dict => "dict" | .sorted => "sorted" | .set => "set"
  | .reversed => "reversed" | .all => "all" | .any => "any"
def visB (sc : Scope) (x : Str) : Bool := match sc.names.lookup x with
  | some .local => true
  | some .cell => true
  | some .free => true
  | _ => false
def locB (sc : Scope) (x : Str) : Bool := match sc.names.lookup x with
  | some .local => true
  | _ => false
def glB (sc : Scope) (x : Str) : Bool := (match sc.names.lookup x with
  | some .globalImplicit => true
  | _ => false) && !(x == ("__debug__" : Str)) && !decide (x = ("__name__" : Str))
theorem visB_ok {sc : Scope} {x : Str} (h : visB sc x = true) : Vis sc x := by
  unfold visB at h
  split at h <;> first | exact .inl (by assumption) | exact .inr (.inl (by assumption)) | exact .inr (.inr (by assumption)) | cases h
def constB : D → Const → Bool
  | .non, .none => true
  | .bl a, .bool b => a == b
  | .int a, .int b => decide (a = b)
  | .str a, .str b => decide (a = b)
  | _, _ => false
def sameF (a b : D) : Bool := a.flat && b.flat && decide (a.flatV = b.flatV)
theorem sameF_ok {a b : D} (h : sameF a b = true) : a = b ∧ b.flat = true := by
  unfold sameF at h
  simp only [Bool.and_eq_true, decide_eq_true_eq] at h
  obtain ⟨⟨h1, h2⟩, h3⟩ := h
  refine ⟨?_, h2⟩
  cases a <;> cases b <;> first | (simp [D.flat] at h1; done) | (simp [D.flat] at h2; done) | (cases h3; done) | (cases h3; rfl)
mutual
def chkE (k : Ck) (sc : Scope) : E → Expr → Bool
  | .var i, e => match e with
    | .Name x _ => decide (k.N[i]? = some x) && visB sc x && !(x == ("__debug__" : Str)) && !(x == ("__classdict__" : Str))
    | _ => false
  | .cst d, e => match e with
    | .Constant c _ _ => constB d c
    | _ => false
  | .glb x d, e => match e with
    | .Name y _ => decide (x = y) && glB sc x && (match k.gls.lookup x with
      | some d' => sameF d' d
      | none => false)
    | _ => false
  | .bin op _ a b, e => match e with
    | .BinOp a' op' b' _ => decide (op = op') && chkE k sc a a' && chkE k sc b b'
    | _ => false
  | .neg a, e => match e with
    | .UnaryOp .USub a' _ => chkE k sc a a'
    | _ => false
  | .cmp op a b, e => match e with
    | .Compare a' [op'] [b'] _ => decide (op = op') && !behindInMarks op' b' && chkE k sc a a' && chkE k sc b b'
    | _ => false
  | .chn p q a b c, e => match e with
    | .Compare a' [p', q'] [b', c'] _ => decide (p = p') && decide (q = q') && !lastMarks [p', q'] [b', c'] && chkE k sc a a' && chkE k sc b b' && chkE k sc c c'
    | _ => false
  | .and es, e => match e with
    | .BoolOp .And vs _ => chkEs k sc es vs
    | _ => false
  | .or es, e => match e with
    | .BoolOp .Or vs _ => chkEs k sc es vs
    | _ => false
  | .not a, e => match e with
    | .UnaryOp .Not a' _ => chkE k sc a a'
    | _ => false
  | .ite c a b, e => match e with
    | .IfExp c' a' b' _ => chkE k sc c c' && chkE k sc a a' && chkE k sc b b'
    | _ => false
  | .tup es, e => match e with
    | .Tuple vs _ _ => chkEs k sc es vs
    | _ => false
  | .lst _ es, e => match e with
    | .List vs _ => chkEs k sc es vs
    | _ => false
  | .dsp _ _ _, _ => false
  | .sub a i, e => match e with
    | .Subscript a' i' _ => chkE k sc a a' && chkE k sc i i'
    | _ => false
  | .slc _ a lo hi, e => match e with
    | .Subscript a' (.Slice lo' hi' none _) _ => chkE k sc a a' && chkP k sc lo lo' && chkP k sc hi hi'
    | _ => false
  | .nop, _ => false
  | .fld _ _, _ => false
  | .cal f es, e => match e with
    | .Call (.Name x _) vs [] _ => decide (k.fns[f]? = some x) && glB sc x && chkEs k sc es vs
    | _ => false
  | .met _ _ _, _ => false
  | .mak _ _, _ => false
  | .blt b _ es, e => match e with
    | .Call (.Name x _) vs [] _ => decide (x = b.name) && decide (x ∈ k.bis) && glB sc x && chkEs k sc es vs
    | _ => false
  | .mth _ _ _ _, _ => false
  | .isi a t, e => match e with
    | .Call (.Name x _) [a', .Name y _] [] _ => decide (x = ("isinstance" : Str)) && decide (x ∈ k.bis) && glB sc x && decide (y = Str.ofString t.name) && decide (y ∈ k.bis) && glB sc y && chkE k sc a a'
    | _ => false
  | .lcp _ _ _ _ _, _ => false
def chkP (k : Ck) (sc : Scope) : E → Option Expr → Bool
  | .nop, o => match o with
    | none => true
    | _ => false
  | .cst d, o => match o with
    | some (.Constant c _ _) => constB d c
    | _ => false
  | .var i, o => match o with
    | some (.Name x _) => decide (k.N[i]? = some x) && visB sc x && !(x == ("__debug__" : Str)) && !(x == ("__classdict__" : Str))
    | _ => false
  | .bin op _ a b, o => match o with
    | some (.BinOp a' op' b' _) => decide (op = op') && chkE k sc a a' && chkE k sc b b'
    | _ => false
  | _, _ => false
def chkEs (k : Ck) (sc : Scope) : Es → List Expr → Bool
  | .nil, vs => match vs with
    | [] => true
    | _ => false
  | .cons e es, vs => match vs with
    | v :: vs => chkE k sc e v && chkEs k sc es vs
    | _ => false
end

/-! ### what is known of the text around -/
/-- what a def of the text hands back, by a function of data -/
def spF (K : PySem.W.Frag) (CA : Nat → Addr) (γ : List D → Option Res) : Sp := fun vs H Q E => ∃ (Z : Hp) (ds : List D) (r : Res), (∀ a o, Z a = some o → H a = some o) ∧ Reps K CA Z [] vs ds ∧ γ ds = some r ∧
  match r with
  | .ret d => ∀ v H' Z', (∀ a o, H a = some o → H' a = some o) → (∀ a o, Z a = some o → Z' a = some o) → (∀ a o, Z' a = some o → H' a = some o) → (∀ a o, Z' a = some o → Z a = some o ∨ H a = none) → Rep K CA Z' [] v d → Q v H'
  | .exc x => ∀ cls d H' Z', (∀ a o, H a = some o → H' a = some o) → (∀ a o, Z a = some o → Z' a = some o) → (∀ a o, Z' a = some o → H' a = some o) → (∀ a o, Z' a = some o → Z a = some o ∨ H a = none) →
    cls = .ref (CA x.c) → (x.fs = [] → d = none) → (x.fs ≠ [] → ∃ a vfs, d = some a ∧ H' a = some (.xd vfs) ∧ vfs.map (·.1) = x.fs.map (·.1) ∧ Reps K CA Z' [] (vfs.map (·.2)) (x.fs.map (·.2))) → E cls d H'
structure Fnd (P : Program) (w : World) (K : PySem.W.Frag) (mg : Str → Option Value) (base : Heap) (CA : Nat → Addr) (k : Nat) (x : Str) (γ : List D → Option Res) : Prop where
  ex : ∃ (f : Addr) (fd : FuncData) (ps : List Str), FnOk P w K mg base (CX P w) k f fd ps (spF K CA γ) ∧ Binds K fd ps [] ∧ mg x = some (.ref f) ∧ PySem.W.keepIn K (.ref f) = true
structure XOk (X : Cx) (C : Cc) (k : Nat) (ck : Ck) (G : Sig) (W : WX) : Prop where
  K : X.K = C.K
  nb : C.B.length ≤ G.nb
  N : X.N = ck.N
  calm : X.calm = true
  nd : X.N.Nodup
  room : Room k X.A
  tk : Takes X W
  fn : ∀ (i : Nat) x, ck.fns[i]? = some x → Fnd X.prog X.w X.K X.mg X.base C.CA k x (G.f i)
  bi : ∀ x ∈ ck.bis, X.mg x = none
  gl : ∀ x d, ck.gls.lookup x = some d → ∃ u, X.mg x = some u ∧ RelV d.flatV u
theorem XOk.hu {X : Cx} {C : Cc} {k : Nat} {ck : Ck} {G : Sig} {W : WX} (ok : XOk X C k ck G W) : X.A.units + 64 < cLine := ok.room.units

def SE (X : Cx) (C : Cc) (G : Sig) (W : WX) (e : Expr) (c : E) : Prop := PE X e (tR (RpV C) C W fun env M => ev G c false env M) ∧ PT X e (tR RpB C W fun env M => ev G c true env M)
def SA (X : Cx) (C : Cc) (G : Sig) (W : WX) (vs : List Expr) (c : Es) : Prop := PA X vs (tR (RpA C) C W fun env M => evs G c env M)
def SP (X : Cx) (C : Cc) (G : Sig) (W : WX) (o : Option Expr) (c : E) : Prop := PO X o (tR RpE C W fun env M => evP G c env M)

section
variable {X : Cx} {C : Cc} {k : Nat} {ck : Ck} {G : Sig} {W : WX}
/-- where the test is the value's truth -/
theorem plain {e : Expr} {c : E} {f : En → Mem → Option (Out D)} (hK : X.K = C.K) (h : PE X e (tR (RpV C) C W f)) (hf : ∀ t env M, ev G c t env M = tst t (f env M))
    (he : ∀ whole, isTrue e X.env whole = (do let v ← whole; standAt e.pos; holding [v] (truthy v)) := by intro _; rfl) : SE X C G W e c := by
  refine ⟨h.wk fun σ H Q q => tR_imp q fun env M => by rw [hf]; rfl, (pt_truth h he).wk fun σ H Q q => ?_⟩
  obtain ⟨g, r, R, hg, p⟩ := q
  dsimp only at hg
  rw [hf] at hg
  refine tR_bind R hg p fun v d H1 g1 e1 he1 R1 r1 hk p1 => ?_
  simp only [Option.map_eq_some_iff] at hk
  obtain ⟨b, hb, hr⟩ := hk
  subst hr
  refine ⟨b, hK ▸ tru_of (see_sh R1 r1) hb, p1 b H1 g1 (Ext.refl _) rfl rfl R1 rfl⟩
theorem s_var {i : Nat} {x : Str} {pos : Pos} (ok : XOk X C k ck G W) (h : chkE ck X.env.scope (.var i) (.Name x pos) = true) : SE X C G W (.Name x pos) (.var i) := by
  simp only [chkE, Bool.and_eq_true, decide_eq_true_eq, Bool.not_eq_true'] at h
  obtain ⟨⟨⟨h1, h2⟩, h3⟩, h4⟩ := h
  refine plain (f := fun env M => varR env i M) ok.K ((pe_var (i := i) (by rw [ok.N]; exact h1) (visB_ok h2) h3 h4).wk fun σ H Q q => ?_) (fun _ _ _ => by simp only [ev])
  obtain ⟨g, r, R, hg, p⟩ := q
  dsimp only at hg
  unfold varR at hg
  split at hg
  · rename_i d hd
    injection hg with hg
    subst hg
    obtain ⟨v, e1, r1⟩ := R.ev i d hd
    exact ⟨v, e1, p v H g (Ext.refl _) rfl rfl R r1⟩
  · cases hg
theorem cst_pe {d : D} {c : Const} {j : Nat} {pos : Pos} (h : constB d c = true) : PE X (.Constant c j pos) (tC d.flatV) ∧ ∀ g, RpV C g d.flatV d := by
  cases d <;> cases c <;> first | (simp [constB] at h; done) | skip
  · exact ⟨pe_non, fun _ => .non⟩
  · have h' : (_ == _) = true := h
    rw [eq_of_beq h']
    exact ⟨pe_bl, fun _ => .bl _⟩
  · rw [of_decide_eq_true (show decide _ = true from h)]
    exact ⟨pe_int, fun _ => .int _⟩
  · rw [of_decide_eq_true (show decide _ = true from h)]
    exact ⟨pe_str, fun _ => .str _⟩
theorem s_cst {d : D} {c : Const} {j : Nat} {pos : Pos} (ok : XOk X C k ck G W) (h : constB d c = true) : SE X C G W (.Constant c j pos) (.cst d) := by
  obtain ⟨h1, h2⟩ := cst_pe (X := X) (C := C) (j := j) (pos := pos) h
  refine plain (f := fun _ M => some (.ok M d)) ok.K (h1.wk fun σ H Q q => ?_) (fun _ _ _ => by simp only [ev])
  obtain ⟨g, r, R, hg, p⟩ := q
  injection hg with hg
  subst hg
  exact p _ H g (Ext.refl _) rfl rfl R (h2 g)
theorem rep_flat {d : D} (f : d.flat = true) (g : Gs) : RpV C g d.flatV d := by
  cases d <;> first | exact .non | exact .bl _ | exact .int _ | exact .str _ | (simp [D.flat] at f)
theorem glB_ok {sc : Scope} {x : Str} (h : glB sc x = true) : sc.names.lookup x = some .globalImplicit ∧ (x == ("__debug__" : Str)) = false ∧ x ≠ "__name__" := by
  unfold glB at h
  simp only [Bool.and_eq_true, Bool.not_eq_true', decide_eq_false_iff_not] at h
  obtain ⟨⟨h1, h2⟩, h3⟩ := h
  refine ⟨?_, h2, h3⟩
  split at h1
  · assumption
  · cases h1
theorem s_glb {x y : Str} {d : D} {pos : Pos} (ok : XOk X C k ck G W) (h : chkE ck X.env.scope (.glb x d) (.Name y pos) = true) : SE X C G W (.Name y pos) (.glb x d) := by
  simp only [chkE, Bool.and_eq_true, decide_eq_true_eq] at h
  obtain ⟨⟨h1, h2⟩, h3⟩ := h
  subst h1
  split at h3
  · rename_i d' hd'
    obtain ⟨e1, f1⟩ := sameF_ok h3
    subst e1
    obtain ⟨u, hu, ru⟩ := ok.gl x d' hd'
    obtain ⟨g1, g2, g3⟩ := glB_ok h2
    refine plain (f := fun _ M => some (.ok M d')) ok.K ((pe_glob (v := d'.flatV) g1 hu ru g2).wk fun σ H Q q => ?_) (fun _ _ _ => by simp only [ev])
    obtain ⟨g, r, R, hg, p⟩ := q
    injection hg with hg
    subst hg
    exact p _ H g (Ext.refl _) rfl rfl R (rep_flat f1 g)
  · cases h3
/-- two parts -/
theorem two {α : Type} {β : Type} {Rp : Gs → β → α → Prop} {a b : E} {σ : Sl} {H : Hp} {g : Gs} {r : Out α} {Q : β → Hp → Prop} {f : Mem → D → D → Option (Out α)} {Kk : V → V → Hp → Prop}
    (R : Rel C σ H g) (h : (obind (ev G a false g.env g.mem) fun M1 x => obind (ev G b false g.env M1) fun M2 y => f M2 x y) = some r) (p : Po Rp C W σ g Q r)
    (hk : ∀ v u x y H2 g2, Ext g g2 → g2.env = g.env → Rel C σ H2 g2 → RpV C g2 v x → RpV C g2 u y → f g2.mem x y = some r → Po Rp C W σ g2 Q r → Kk v u H2) :
    tR (RpV C) C W (fun env M => ev G a false env M) σ H fun v H1 => tR (RpV C) C W (fun env M => ev G b false env M) σ H1 fun u H2 => Kk v u H2 := by
  refine tR_bind R h p fun v x H1 g1 e1 he1 R1 r1 h1 p1 => ?_
  rw [← he1] at h1
  refine tR_bind R1 h1 p1 fun u y H2 g2 e2 he2 R2 r2 h2 p2 => ?_
  exact hk v u x y H2 g2 (e1.trans e2) (he2.trans he1) R2 (r1.ext e2) r2 h2 p2
theorem s_bin {op : Operator} {al : Bool} {a b : E} {a' b' : Expr} {pos : Pos} (ok : XOk X C k ck G W) (ha : SE X C G W a' a) (hb : SE X C G W b' b) : SE X C G W (.BinOp a' op b' pos) (.bin op al a b) := by
  refine plain (f := fun env M => obind (ev G a false env M) fun M1 x => obind (ev G b false env M1) fun M2 y => (binR op (see M2 x) (see M2 y)).map (Rs.fin al M2)) ok.K ((pe_op (op_bin op) ha.1 hb.1).wk fun σ H Q q => ?_) (fun _ _ _ => by simp only [ev])
  obtain ⟨g, r, R, hg, p⟩ := q
  refine two R hg p fun v u x y H2 g2 _ _ R2 rx ry h2 p2 => ?_
  simp only [Option.map_eq_some_iff] at h2
  obtain ⟨rs, h3, h4⟩ := h2
  subst h4
  rw [ok.K]
  exact bin_leaf R2 (see_sh R2 rx) (see_sh R2 ry) h3 p2
theorem s_neg {a : E} {a' : Expr} {pos : Pos} (ok : XOk X C k ck G W) (ha : SE X C G W a' a) : SE X C G W (.UnaryOp .USub a' pos) (.neg a) := by
  refine plain (f := fun env M => obind (ev G a false env M) fun M1 x => negR M1 x) ok.K ((pe_un un_neg ha.1).wk fun σ H Q q => ?_) (fun _ _ _ => by simp only [ev])
  obtain ⟨g, r, R, hg, p⟩ := q
  refine tR_bind R hg p fun v x H1 g1 e1 he1 R1 r1 h1 p1 => ?_
  cases r1 <;> simp only [negR, Option.some.injEq] at h1 <;> first | (cases h1; done) | skip
  subst h1
  exact ⟨_, rfl, p1 _ H1 g1 (Ext.refl _) rfl rfl R1 (.int _)⟩
theorem s_cmp {op : CmpOp} {a b : E} {a' b' : Expr} {pos : Pos} (ok : XOk X C k ck G W) (hm : behindInMarks op b' = false) (ha : SE X C G W a' a) (hb : SE X C G W b' b) : SE X C G W (.Compare a' [op] [b'] pos) (.cmp op a b) := by
  constructor
  · refine (pe_cmpR (op_cmp ok.hu op) ha.1 hb.1 hm).wk fun σ H Q q => ?_
    obtain ⟨g, r, R, hg, p⟩ := q
    simp only [ev] at hg
    refine two R hg p fun v u x y H2 g2 _ _ R2 rx ry h2 p2 => ?_
    simp only [Option.map_eq_some_iff] at h2
    obtain ⟨b, h3, h4⟩ := h2
    subst h4
    rw [ok.K]
    exact cmp_leaf R2 (see_sh R2 rx) (see_sh R2 ry) h3 (p2 _ H2 g2 (Ext.refl _) rfl rfl R2 (.bl b))
  · refine (pt_cmpR (op_cmp ok.hu op) ha.1 hb.1 hm).wk fun σ H Q q => ?_
    obtain ⟨g, r, R, hg, p⟩ := q
    simp only [ev] at hg
    refine two R hg p fun v u x y H2 g2 _ _ R2 rx ry h2 p2 => ?_
    simp only [Option.map_eq_some_iff] at h2
    obtain ⟨b, h3, h4⟩ := h2
    subst h4
    rw [ok.K]
    exact cmp_leaf R2 (see_sh R2 rx) (see_sh R2 ry) h3 ⟨b, rfl, p2 b H2 g2 (Ext.refl _) rfl rfl R2 rfl⟩
theorem s_chn {op op' : CmpOp} {a b c : E} {a' b' c' : Expr} {pos : Pos} (ok : XOk X C k ck G W) (hm : lastMarks [op, op'] [b', c'] = false) (ha : SE X C G W a' a) (hb : SE X C G W b' b) (hc : SE X C G W c' c) : SE X C G W (.Compare a' [op, op'] [b', c'] pos) (.chn op op' a b c) := by
  constructor
  · refine (pe_chain (op_cmp ok.hu op) (op_cmp ok.hu op') ha.1 hb.1 hc.1 hm).wk fun σ H Q q => ?_
    obtain ⟨g, r, R, hg, p⟩ := q
    simp only [ev] at hg
    refine two R hg p fun v u x y H2 g2 _ _ R2 rx ry h2 p2 => ?_
    rw [ok.K]
    split at h2
    · cases h2
    · rename_i h3
      injection h2 with h2
      subst h2
      exact cmp_leaf R2 (see_sh R2 rx) (see_sh R2 ry) h3 ⟨false, rfl, iteF (p2 _ H2 g2 (Ext.refl _) rfl rfl R2 (.bl false))⟩
    · rename_i h3
      refine cmp_leaf R2 (see_sh R2 rx) (see_sh R2 ry) h3 ⟨true, rfl, iteT ?_⟩
      rename_i he2 _
      rw [← he2] at h2
      refine tR_bind R2 h2 p2 fun w z H3 g3 e3 he3 R3 r3 h4 p3 => ?_
      simp only [Option.map_eq_some_iff] at h4
      obtain ⟨b, h5, h6⟩ := h4
      subst h6
      exact cmp_leaf R3 (see_sh R3 (ry.ext e3)) (see_sh R3 r3) h5 (p3 _ H3 g3 (Ext.refl _) rfl rfl R3 (.bl b))
  · refine (pt_chain (op_cmp ok.hu op) (op_cmp ok.hu op') ha.1 hb.1 hc.1 hm).wk fun σ H Q q => ?_
    obtain ⟨g, r, R, hg, p⟩ := q
    simp only [ev] at hg
    refine two R hg p fun v u x y H2 g2 _ _ R2 rx ry h2 p2 => ?_
    rw [ok.K]
    split at h2
    · cases h2
    · rename_i h3
      injection h2 with h2
      subst h2
      exact cmp_leaf R2 (see_sh R2 rx) (see_sh R2 ry) h3 ⟨false, rfl, iteF ⟨false, rfl, p2 _ H2 g2 (Ext.refl _) rfl rfl R2 rfl⟩⟩
    · rename_i h3
      refine cmp_leaf R2 (see_sh R2 rx) (see_sh R2 ry) h3 ⟨true, rfl, iteT ?_⟩
      rename_i he2 _
      rw [← he2] at h2
      refine tR_bind R2 h2 p2 fun w z H3 g3 e3 he3 R3 r3 h4 p3 => ?_
      simp only [Option.map_eq_some_iff] at h4
      obtain ⟨b, h5, h6⟩ := h4
      subst h6
      exact cmp_leaf R3 (see_sh R3 (ry.ext e3)) (see_sh R3 r3) h5 ⟨b, rfl, p3 b H3 g3 (Ext.refl _) rfl rfl R3 rfl⟩
end
end Mn

set_option Elab.async false
set_option linter.all false
set_option maxRecDepth 100000
set_option maxHeartbeats 2000000
/-! Mn5: expressions, the rest. -/
namespace Mn
open PySem PySem.Spec PyProof.Rows L2

/-! ### closed data by other heaps -/
theorem le_rd {Lk : List Addr} {Z Z2 : Hp} (l : Le Lk Z Z2) {a : Addr} {u : HO} (r : Rd Z a u) : Rd Z2 a u := l.rdL r
theorem closedK_map : ∀ kds : List (Key × D), closedK kds = true → closedL (kds.map (·.2)) = true
  | [], _ => rfl
  | (k, d) :: r, h => by
    have h' : (_ && _) = true := h
    rw [Bool.and_eq_true] at h'
    show (_ && _) = true
    rw [Bool.and_eq_true]
    exact ⟨h'.1, closedK_map r h'.2⟩
theorem closedT_map : ∀ kds : List (List Key × D), closedT kds = true → closedL (kds.map (·.2)) = true
  | [], _ => rfl
  | (k, d) :: r, h => by
    have h' : (_ && _) = true := h
    rw [Bool.and_eq_true] at h'
    show (_ && _) = true
    rw [Bool.and_eq_true]
    exact ⟨h'.1, closedT_map r h'.2⟩
theorem closedF_map : ∀ kds : List (Str × D), closedF kds = true → closedL (kds.map (·.2)) = true
  | [], _ => rfl
  | (k, d) :: r, h => by
    have h' : (_ && _) = true := h
    rw [Bool.and_eq_true] at h'
    show (_ && _) = true
    rw [Bool.and_eq_true]
    exact ⟨h'.1, closedF_map r h'.2⟩
mutual
theorem Rep.toH {K : PySem.W.Frag} {CA : Nat → Addr} {Lk : List Addr} {Z Z2 : Hp} {rho : List Addr} (l : Le Lk Z Z2) : ∀ {v : V} {d : D}, Rep K CA Z rho v d → d.closed = true → Rep K CA Z2 [] v d
  | _, _, .non, _ => .non
  | _, _, .bl b, _ => .bl b
  | _, _, .int i, _ => .int i
  | _, _, .str x, _ => .str x
  | _, _, .tup h r, c => .tup (l.tup h) (Reps.toH l r (by simpa [D.closed] using c))
  | _, _, .lst h r, c => .lst (l.lst h) (Reps.toH l r (by simpa [D.closed] using c))
  | _, _, .dic (kds := kds) h e r, c => .dic (l.rdL h) e (Reps.toH l r (closedK_map kds (by simpa [D.closed] using c)))
  | _, _, .dct (kds := kds) h e r, c => .dct (l.rdL h) e (Reps.toH l r (closedT_map kds (by simpa [D.closed] using c)))
  | _, _, .ins (fs := fs) h e r, c => .ins (l.ins h) e (Reps.toH l r (closedF_map fs (by simpa [D.closed] using c)))
  | _, _, .scr h, _ => .scr (l.sql h)
  | _, _, .ref _, c => by simp [D.closed] at c
theorem Reps.toH {K : PySem.W.Frag} {CA : Nat → Addr} {Lk : List Addr} {Z Z2 : Hp} {rho : List Addr} (l : Le Lk Z Z2) : ∀ {vs : List V} {ds : List D}, Reps K CA Z rho vs ds → closedL ds = true → Reps K CA Z2 [] vs ds
  | _, _, .nil, _ => .nil
  | _, _, .cons h t, c => by
    have c' : (_ && _) = true := c
    rw [Bool.and_eq_true] at c'
    exact .cons (Rep.toH l h c'.1) (Reps.toH l t c'.2)
end

/-! ### the live cells read through -/
theorem mapM_len {α β : Type} {f : α → Option β} : ∀ {xs : List α} {ys : List β}, xs.mapM f = some ys → xs.length = ys.length
  | [], ys, h => by
    have e : some [] = some ys := h
    injection e with e
    rw [← e]; rfl
  | x :: xs, ys, h => by
    rw [List.mapM_cons] at h
    cases e1 : f x with
    | none => rw [e1] at h; cases h
    | some y =>
      rw [e1] at h
      cases e2 : xs.mapM f with
      | none => rw [e2] at h; cases h
      | some zs =>
        rw [e2] at h
        have e : some (y :: zs) = some ys := h
        injection e with e
        rw [← e, List.length_cons, List.length_cons, mapM_len e2]
theorem mapM_cons' {α β : Type} {f : α → Option β} {x : α} {xs : List α} {zs : List β} (h : (x :: xs).mapM f = some zs) : ∃ y ys, f x = some y ∧ xs.mapM f = some ys ∧ zs = y :: ys := by
  rw [List.mapM_cons] at h
  cases e1 : f x with
  | none => rw [e1] at h; cases h
  | some y =>
    rw [e1] at h
    cases e2 : xs.mapM f with
    | none => rw [e2] at h; cases h
    | some ys =>
      rw [e2] at h
      have e : some (y :: ys) = some zs := h
      injection e with e
      exact ⟨y, ys, rfl, rfl, e.symm⟩
theorem reps_mapM {K : PySem.W.Frag} {CA : Nat → Addr} {Z Z2 : Hp} {rho rho2 : List Addr} {f : D → Option D} (hf : ∀ v d d', Rep K CA Z rho v d → f d = some d' → Rep K CA Z2 rho2 v d') :
    ∀ {vs : List V} {ds es : List D}, Reps K CA Z rho vs ds → ds.mapM f = some es → Reps K CA Z2 rho2 vs es
  | _, _, es, .nil, h => by
    have e : some [] = some es := h
    injection e with e
    rw [← e]; exact .nil
  | _, _, es, .cons r t, h => by
    obtain ⟨y, ys, e1, e2, e3⟩ := mapM_cons' h
    rw [e3]
    exact .cons (hf _ _ _ r e1) (reps_mapM hf t e2)
theorem reps_mapP {κ : Type} {K : PySem.W.Frag} {CA : Nat → Addr} {Z Z2 : Hp} {rho rho2 : List Addr} {f : D → Option D} (hf : ∀ v d d', Rep K CA Z rho v d → f d = some d' → Rep K CA Z2 rho2 v d') :
    ∀ {vs : List V} {ds es : List (κ × D)}, Reps K CA Z rho vs (ds.map (·.2)) → (ds.mapM fun p => (f p.2).map fun d => (p.1, d)) = some es → Reps K CA Z2 rho2 vs (es.map (·.2)) ∧ ds.map (·.1) = es.map (·.1)
  | _, [], es, r, h => by
    have e : some [] = some es := h
    injection e with e
    subst e
    cases r
    exact ⟨.nil, rfl⟩
  | _, p :: ds, es, r, h => by
    obtain ⟨y, ys, e1, e2, e3⟩ := mapM_cons' h
    subst e3
    rw [List.map_cons] at r
    cases r with
    | cons r t =>
      simp only [Option.map_eq_some_iff] at e1
      obtain ⟨d, h1, h2⟩ := e1
      subst h2
      obtain ⟨i1, i2⟩ := reps_mapP hf t e2
      exact ⟨.cons (hf _ _ _ r h1) i1, by rw [List.map_cons, List.map_cons, i2]⟩
theorem rep_at {K : PySem.W.Frag} {CA : Nat → Addr} {Z : Hp} {rho : List Addr} : ∀ {v : V} {d : D} {a : Addr}, Rep K CA Z rho v d → v = .ref a → Z a ≠ none ∨ a ∈ rho ∨ ∃ ns, d = .scr ns
  | _, _, _, .non, e => nomatch e
  | _, _, _, .bl _, e => nomatch e
  | _, _, _, .int _, e => nomatch e
  | _, _, _, .str _, e => nomatch e
  | _, _, _, .tup h _, e => by cases e; exact .inl (by rw [h]; exact (fun z => nomatch z))
  | _, _, _, .lst h _, e => by cases e; exact .inl (by rw [h]; exact (fun z => nomatch z))
  | _, _, _, .dic h _ _, e => by cases e; rcases h with h | ⟨ob, h⟩ <;> exact .inl (by rw [h]; exact (fun z => nomatch z))
  | _, _, _, .dct h _ _, e => by cases e; rcases h with h | ⟨ob, h⟩ <;> exact .inl (by rw [h]; exact (fun z => nomatch z))
  | _, _, _, .ins h _ _, e => by cases e; exact .inl (by rw [h]; exact (fun z => nomatch z))
  | _, _, _, .ref h, e => by cases e; exact .inr (.inl (List.mem_of_getElem? h))
  | _, _, _, .scr _, e => .inr (.inr ⟨_, rfl⟩)
/-- what a run knows of the heap: its still data and its cells -/
def live (g : Gs) (H : Hp) : Hp := fun a => if (g.Z a).isSome = true ∨ a ∈ g.rho then H a else none
theorem live_le {C : Cc} {σ : Sl} {H : Hp} {g : Gs} (R : Rel C σ H g) : Le g.Lk g.Z (live g H) := fun a o e => by
  unfold Here live
  rw [if_pos (.inl (by rw [e]; rfl))]
  exact R.leZ a o e
theorem rd_rep {C : Cc} {σ : Sl} {H : Hp} {g : Gs} (R : Rel C σ H g) : ∀ (n : Nat) (v : V) (d d' : D), RpV C g v d → rd g.mem n d = some d' → Rep C.K C.CA (live g H) [] v d'
  | 0, v, d, d', r, h => by
    unfold rd at h
    split at h
    · rename_i hc
      injection h with h
      subst h
      exact r.toH (live_le R) hc
    · cases h
  | n + 1, v, d, d', r, h => by
    unfold rd at h
    split at h
    · rename_i hc
      injection h with h
      subst h
      exact r.toH (live_le R) hc
    · have s := see_sh R r
      have lv : ∀ a u, Rd H a u → (g.Z a ≠ none ∨ a ∈ g.rho) → Rd (live g H) a u := fun a u q hz => by
        have e : live g H a = H a := by
          unfold live
          rw [if_pos]
          rcases hz with hz | hz
          · exact .inl (Option.isSome_iff_ne_none.mpr hz)
          · exact .inr hz
        unfold Rd
        rw [e]; exact q
      have hz := fun a (e : v = .ref a) => rep_at r e
      have hz2 : ∀ a, v = .ref a → (∀ ns, see g.mem d ≠ .scr ns) → g.Z a ≠ none ∨ a ∈ g.rho := fun a e hn => by
        rcases hz a e with q | q | ⟨ns, q⟩
        · exact .inl q
        · exact .inr q
        · subst q; exact absurd rfl (hn ns)
      cases hs : see g.mem d with
      | tup ds =>
        rw [hs] at s h
        cases s with
        | tup h1 r1 =>
          simp only [Option.map_eq_some_iff] at h
          obtain ⟨es, h2, h3⟩ := h
          subst h3
          have q := hz2 _ rfl (fun ns z => by rw [hs] at z; cases z)
          refine .tup ?_ (reps_mapM (rd_rep R n) r1 h2)
          unfold live
          rw [if_pos]
          · exact h1
          · rcases q with q | q
            · exact .inl (Option.isSome_iff_ne_none.mpr q)
            · exact .inr q
      | lst ds =>
        rw [hs] at s h
        cases s with
        | lst h1 r1 =>
          simp only [Option.map_eq_some_iff] at h
          obtain ⟨es, h2, h3⟩ := h
          subst h3
          have q := hz2 _ rfl (fun ns z => by rw [hs] at z; cases z)
          refine .lst ?_ (reps_mapM (rd_rep R n) r1 h2)
          unfold live
          rw [if_pos]
          · exact h1
          · rcases q with q | q
            · exact .inl (Option.isSome_iff_ne_none.mpr q)
            · exact .inr q
      | dic kds =>
        rw [hs] at s h
        cases s with
        | dic h1 e1 r1 =>
          simp only [Option.map_eq_some_iff] at h
          obtain ⟨es, h2, h3⟩ := h
          subst h3
          have q := hz2 _ rfl (fun ns z => by rw [hs] at z; cases z)
          obtain ⟨i1, i2⟩ := reps_mapP (rd_rep R n) r1 h2
          exact .dic (lv _ _ h1 q) (e1.trans i2) i1
      | ins c fs =>
        rw [hs] at s h
        cases s with
        | ins h1 e1 r1 =>
          simp only [Option.map_eq_some_iff] at h
          obtain ⟨es, h2, h3⟩ := h
          subst h3
          have q := hz2 _ rfl (fun ns z => by rw [hs] at z; cases z)
          obtain ⟨i1, i2⟩ := reps_mapP (rd_rep R n) r1 h2
          refine .ins (dx := ?_) ?_ (e1.trans i2) i1
          rotate_left
          · unfold live
            rw [if_pos]
            · exact h1
            · rcases q with q | q
              · exact .inl (Option.isSome_iff_ne_none.mpr q)
              · exact .inr q
      | _ => rw [hs] at h; cases h

/-! ### behind a call -/
def liveZ (g : Gs) (H : Hp) : Hp := fun a => if (g.Z a).isSome = true then H a else none
theorem liveZ_le {C : Cc} {σ : Sl} {H : Hp} {g : Gs} (R : Rel C σ H g) : Le g.Lk g.Z (liveZ g H) := fun a o e => by
  unfold Here liveZ
  rw [if_pos (by rw [e]; rfl)]
  exact R.leZ a o e
def behind (g : Gs) (Z' : Hp) : Gs := { g with Z := fun a => match g.Z a with | some o => some o | none => if a ∈ g.rho then none else Z' a }
theorem behind_z {g : Gs} {Z' : Hp} {a : Addr} {o : HO} (h : g.Z a = some o) : (behind g Z').Z a = some o := by
  show (match g.Z a with | some o => some o | none => if a ∈ g.rho then none else Z' a) = some o
  rw [h]
theorem behind_r {g : Gs} {Z' : Hp} {a : Addr} (h : g.Z a = none) (hr : a ∈ g.rho) : (behind g Z').Z a = none := by
  show (match g.Z a with | some o => some o | none => if a ∈ g.rho then none else Z' a) = none
  rw [h]; exact if_pos hr
theorem behind_n {g : Gs} {Z' : Hp} {a : Addr} (h : g.Z a = none) (hr : a ∉ g.rho) : (behind g Z').Z a = Z' a := by
  show (match g.Z a with | some o => some o | none => if a ∈ g.rho then none else Z' a) = Z' a
  rw [h]; exact if_neg hr
theorem behind_ext (g : Gs) (Z' : Hp) : Ext g (behind g Z') := ⟨rfl, fun _ _ h => behind_z h, fun _ _ h => h⟩
theorem Here.mono {Lk : List Addr} {H H' : Hp} {a : Addr} {o : HO} (hh : ∀ a o, H a = some o → H' a = some o) (h : Here Lk H a o) : Here Lk H' a o := by
  rcases h with h | ⟨k, m, ob, h⟩
  · exact .inl (hh _ _ h)
  · exact .inr ⟨k, m, ob, hh _ _ h⟩
theorem nn_mono {H H' : Hp} {a : Addr} (hh : ∀ a o, H a = some o → H' a = some o) (h : H a ≠ none) : H' a ≠ none := by
  cases e : H a with
  | none => exact absurd e h
  | some o => rw [hh _ _ e]; exact (fun z => nomatch z)
theorem behind_rel {C : Cc} {σ : Sl} {H H' : Hp} {g : Gs} {Zb Z' : Hp} (R : Rel C σ H g) (hb : ∀ a o, Zb a = some o → (g.Z a ≠ none ∨ a ∈ g.rho)) (h1 : ∀ a o, H a = some o → H' a = some o) (h3 : ∀ a o, Z' a = some o → H' a = some o) (h4 : ∀ a o, Z' a = some o → Zb a = some o ∨ H a = none) :
    Rel C σ H' (behind g Z') := by
  refine ⟨fun a o e => ?_, fun a o e hB => (R.le0 a o e hB).mono h1, fun a hB => nn_mono h1 (R.bh a hB), fun a o e => behind_z (R.zz a o e), fun a o e => ?_, R.rl, R.nd, fun k a e => ⟨nn_mono h1 (R.cz k a e).1, (R.cz k a e).2⟩, fun k a c e1 e2 => ?_, fun i d e => ?_, R.el⟩
  · cases hz : g.Z a with
    | some u =>
      rw [behind_z hz] at e
      injection e with e
      subst e
      exact (R.leZ a u hz).mono h1
    | none =>
      by_cases hr : a ∈ g.rho
      · rw [behind_r hz hr] at e; cases e
      · rw [behind_n hz hr] at e
        exact .inl (h3 a o e)
  · cases hz : g.Z a with
    | some u =>
      rw [behind_z hz] at e
      injection e with e
      subst e
      exact R.zn a u hz
    | none =>
      by_cases hr : a ∈ g.rho
      · rw [behind_r hz hr] at e; cases e
      · rw [behind_n hz hr] at e
        rcases h4 a o e with q | q
        · rcases hb a o q with q | q
          · exact absurd hz q
          · exact absurd q hr
        · exact .inr (R.fresh0 q)
  · rcases R.cl k a c e1 e2 with ⟨z1, z2⟩ | ⟨z, u, hu, cu⟩
    · refine .inl ⟨z1, ?_⟩
      cases hz : g.Z a with
      | none => exact absurd hz z2
      | some u => rw [behind_z hz]; exact (fun z => nomatch z)
    · exact .inr ⟨behind_r z (List.mem_of_getElem? e1), u, hu.mono h1, cu.mono (behind_ext g Z').z (fun _ _ h => h)⟩
  · obtain ⟨v, e1, r⟩ := R.ev i d e
    exact ⟨v, e1, r.ext (behind_ext g Z')⟩
mutual
theorem Rep.immM {K : PySem.W.Frag} {CA : Nat → Addr} {Z Z2 : Hp} {rho rho2 : List Addr} (h : ∀ a vs, Z a = some (.tup vs) → Z2 a = some (.tup vs)) : ∀ {v : V} {d : D}, Rep K CA Z rho v d → d.imm = true → Rep K CA Z2 rho2 v d
  | _, _, .non, _ => .non
  | _, _, .bl b, _ => .bl b
  | _, _, .int i, _ => .int i
  | _, _, .str x, _ => .str x
  | _, _, .tup q r, c => .tup (h _ _ q) (Reps.immM h r (by simpa [D.imm] using c))
  | _, _, .lst _ _, c => by simp [D.imm] at c
  | _, _, .dic _ _ _, c => by simp [D.imm] at c
  | _, _, .dct _ _ _, c => by simp [D.imm] at c
  | _, _, .ins _ _ _, c => by simp [D.imm] at c
  | _, _, .scr _, c => by simp [D.imm] at c
  | _, _, .ref _, c => by simp [D.imm] at c
theorem Reps.immM {K : PySem.W.Frag} {CA : Nat → Addr} {Z Z2 : Hp} {rho rho2 : List Addr} (h : ∀ a vs, Z a = some (.tup vs) → Z2 a = some (.tup vs)) : ∀ {vs : List V} {ds : List D}, Reps K CA Z rho vs ds → immL ds = true → Reps K CA Z2 rho2 vs ds
  | _, _, .nil, _ => .nil
  | _, _, .cons r t, c => by
    have c' : (_ && _) = true := c
    rw [Bool.and_eq_true] at c'
    exact .cons (Rep.immM h r c'.1) (Reps.immM h t c'.2)
end
theorem immF_map : ∀ kds : List (Str × D), immF kds = true → immL (kds.map (·.2)) = true
  | [], _ => rfl
  | (k, d) :: r, h => by
    have h' : (_ && _) = true := h
    rw [Bool.and_eq_true] at h'
    show (_ && _) = true
    rw [Bool.and_eq_true]
    exact ⟨h'.1, immF_map r h'.2⟩
theorem rd_closed {M : Mem} : ∀ (n : Nat) {d : D}, d.closed = true → rd M n d = some d
  | 0, d, h => by unfold rd; rw [if_pos h]
  | n + 1, d, h => by unfold rd; rw [if_pos h]
theorem mapM_rd_closed {M : Mem} {n : Nat} : ∀ {ds : List D}, closedL ds = true → ds.mapM (rd M n) = some ds
  | [], _ => rfl
  | d :: ds, h => by
    have h' : (_ && _) = true := h
    rw [Bool.and_eq_true] at h'
    rw [List.mapM_cons, rd_closed n h'.1, mapM_rd_closed h'.2]
    rfl
/-- from a callee's data to the run's -/
theorem behind_conv {C : Cc} {σ : Sl} {H : Hp} {g : Gs} {Z' : Hp} (R : Rel C σ H g) (h2 : ∀ a o, liveZ g H a = some o → Z' a = some o) (h4 : ∀ a o, Z' a = some o → liveZ g H a = some o ∨ H a = none) : Conv Z' (behind g Z').Z := fun a o e => by
  cases hz : g.Z a with
  | some u =>
    have q := liveZ_le R a u hz
    rw [behind_z hz]
    rcases q with q | ⟨k, _, ob, q⟩
    · have q2 := h2 a u q
      rw [e] at q2
      exact .inl (by rw [Option.some.inj q2])
    · have q2 := h2 a _ q
      rw [e] at q2
      exact .inr ⟨ob, u, Option.some.inj q2, k, rfl⟩
  | none =>
    by_cases hr : a ∈ g.rho
    · exfalso
      rcases h4 a o e with q | q
      · unfold liveZ at q
        rw [hz] at q
        cases q
      · obtain ⟨k, hk, e2⟩ := List.getElem_of_mem hr
        exact (R.cz k a (by rw [List.getElem?_eq_getElem hk, e2])).1 q
    · rw [behind_n hz hr]
      exact .inl e
theorem behind_tup {C : Cc} {σ : Sl} {H : Hp} {g : Gs} {Z' : Hp} (R : Rel C σ H g) (h2 : ∀ a o, live g H a = some o → Z' a = some o) : ∀ a vs, Z' a = some (.tup vs) → (behind g Z').Z a = some (.tup vs) := fun a vs e => by
  cases hz : g.Z a with
  | some u =>
    have q := live_le R a u hz
    rw [behind_z hz]
    rcases q with q | ⟨k, _, ob, q⟩
    · have q2 := h2 a u q
      rw [e] at q2
      rw [Option.some.inj q2]
    · have q2 := h2 a _ q
      rw [e] at q2
      cases q2
  | none =>
    by_cases hr : a ∈ g.rho
    · exfalso
      obtain ⟨k, hk, e2⟩ := List.getElem_of_mem hr
      have hk2 : g.rho[k]? = some a := by rw [List.getElem?_eq_getElem hk, e2]
      have hkm : k < g.mem.length := by rw [← R.rl]; exact hk
      rcases R.cl k a _ hk2 (List.getElem?_eq_getElem hkm) with ⟨_, z⟩ | ⟨_, u, hu, cu⟩
      · exact z hz
      · have hl : ∀ o, H a = some o → Z' a = some o := fun o q => h2 a o (by unfold live; rw [if_pos (.inr hr)]; exact q)
        have nt : ∀ ws, u ≠ .tup ws := fun ws z => by
          subst z
          cases hc : g.mem[k] <;> rw [hc] at cu <;> exact cu.elim
        rcases hu with hu | ⟨_, _, ob, hu⟩
        · have := hl _ hu
          rw [e] at this
          exact nt vs (Option.some.inj this).symm
        · have := hl _ hu
          rw [e] at this
          cases this
    · rw [behind_n hz hr]
      exact e
theorem call_leaf {C : Cc} {W : WX} {σ : Sl} {H : Hp} {g : Gs} {Q : VK} {γ : List D → Option Res} {vs : List V} {ds : List D} {out : Out D} (R : Rel C σ H g) (ra : Reps C.K C.CA g.Z g.rho vs ds) (h : callR γ g.mem ds = some out) (p : Po (RpV C) C W σ g Q out) :
    spF C.K C.CA γ vs H Q (WE W σ) := by
  unfold callR at h
  split at h
  · cases h
  · rename_i ds' hm
    split at h
    · cases h
    · rename_i r hr
      split at h
      · rename_i hc
        injection h with h
        subst h
        by_cases hcl : closedL ds = true
        · -- still arguments
          rw [mapM_rd_closed hcl] at hm
          injection hm with hm
          subst hm
          have le := liveZ_le R
          have hb : ∀ a o, liveZ g H a = some o → (g.Z a ≠ none ∨ a ∈ g.rho) := fun a o e => by
            unfold liveZ at e
            split at e
            · rename_i q; exact .inl (Option.isSome_iff_ne_none.mp q)
            · cases e
          refine ⟨liveZ g H, ds, r, fun a o e => ?_, ra.toH le hcl, hr, ?_⟩
          · unfold liveZ at e
            split at e
            · exact e
            · cases e
          · cases r with
            | ret d =>
              intro v H' Z' h1 h2 h3 h4 rv
              exact p v H' (behind g Z') (behind_ext g Z') rfl rfl (behind_rel R hb h1 h3 h4) (rv.conv (behind_conv R h2 h4) (fun _ _ e => by simp at e))
            | exc x =>
              intro cls d H' Z' h1 h2 h3 h4 e1 e2 e3
              refine p cls d H' (behind g Z') (behind_ext g Z') rfl rfl (behind_rel R hb h1 h3 h4) ⟨e1, e2, fun ne => ?_⟩
              obtain ⟨a, vfs, q1, q2, q3, q4⟩ := e3 ne
              exact ⟨a, vfs, q1, q2, q3, Reps.conv (behind_conv R h2 h4) (fun _ _ e => by simp at e) q4⟩
        · have hi : r.imm = true := hc.resolve_left hcl
          have hb : ∀ a o, live g H a = some o → (g.Z a ≠ none ∨ a ∈ g.rho) := fun a o e => by
            unfold live at e
            split at e
            · rename_i q
              rcases q with q | q
              · exact .inl (Option.isSome_iff_ne_none.mp q)
              · exact .inr q
            · cases e
          refine ⟨live g H, ds', r, fun a o e => ?_, reps_mapM (rd_rep R 8) ra hm, hr, ?_⟩
          · unfold live at e
            split at e
            · exact e
            · cases e
          · cases r with
            | ret d =>
              intro v H' Z' h1 h2 h3 h4 rv
              exact p v H' (behind g Z') (behind_ext g Z') rfl rfl (behind_rel R hb h1 h3 h4) (rv.immM (behind_tup R h2) hi)
            | exc x =>
              intro cls d H' Z' h1 h2 h3 h4 e1 e2 e3
              refine p cls d H' (behind g Z') (behind_ext g Z') rfl rfl (behind_rel R hb h1 h3 h4) ⟨e1, e2, fun ne => ?_⟩
              obtain ⟨a, vfs, q1, q2, q3, q4⟩ := e3 ne
              exact ⟨a, vfs, q1, q2, q3, Reps.immM (behind_tup R h2) q4 (immF_map _ hi)⟩
      · cases h
end Mn

set_option Elab.async false
set_option linter.all false
set_option maxRecDepth 100000
set_option maxHeartbeats 2000000
/-! Mn6: every expression. -/
namespace Mn
open PySem PySem.Spec PyProof.Rows L2
section
variable {X : Cx} {C : Cc} {k : Nat} {ck : Ck} {G : Sig} {W : WX}

/-! ### truths -/
theorem s_not {a : E} {a' : Expr} {pos : Pos} (ok : XOk X C k ck G W) (ha : SE X C G W a' a) : SE X C G W (.UnaryOp .Not a' pos) (.not a) := by
  constructor
  · refine (pe_notT ha.1).wk fun σ H Q q => ?_
    obtain ⟨g, r, R, hg, p⟩ := q
    simp only [ev, Bool.false_eq_true, if_false] at hg
    cases h0 : ev G a false g.env g.mem with
    | none => rw [h0] at hg; cases hg
    | some o =>
      rw [h0] at hg
      refine ⟨g, o, R, h0, ?_⟩
      cases o with
      | ex M x =>
        have e : some (Out.ex M x) = some r := hg
        injection e with e
        subst e
        exact p
      | ok M d =>
        intro v H1 g1 e1 he1 hm R1 r1
        subst hm
        have hg' : (obind (obind (some (Out.ok g1.mem d)) fun M d => (tv (see M d)).map fun b => .ok M (.bl b)) fun M1 x => notR M1 x) = some r := hg
        rw [obind_ok] at hg'
        cases hb : tv (see g1.mem d) with
        | none => rw [hb] at hg'; cases hg'
        | some b =>
          rw [hb] at hg'
          have e : some (Out.ok g1.mem (D.bl (!b))) = some r := hg'
          injection e with e
          subst e
          exact ⟨b, ok.K ▸ tru_of (see_sh R1 r1) hb, p _ H1 g1 e1 he1 rfl R1 (.bl _)⟩
  · refine (pt_not ha.2).wk fun σ H Q q => ?_
    obtain ⟨g, r, R, hg, p⟩ := q
    simp only [ev, if_true] at hg
    refine tR_bind R hg p fun b d H1 g1 e1 he1 R1 r1 h1 p1 => ?_
    have e : d = .bl b := r1
    subst e
    have e : some (Out.ok g1.mem (D.bl (!b))) = some r := h1
    injection e with e
    subst e
    exact p1 _ H1 g1 (Ext.refl _) rfl rfl R1 rfl
theorem s_ite {c a b : E} {c' a' b' : Expr} {pos : Pos} (ok : XOk X C k ck G W) (hc : SE X C G W c' c) (ha : SE X C G W a' a) (hb : SE X C G W b' b) : SE X C G W (.IfExp c' a' b' pos) (.ite c a b) := by
  constructor
  · refine (pe_ifExp hc.2 ha.1 hb.1).wk fun σ H Q q => ?_
    obtain ⟨g, r, R, hg, p⟩ := q
    simp only [ev] at hg
    refine tR_bind R hg p fun t d H1 g1 e1 he1 R1 r1 h1 p1 => ?_
    have e : d = .bl t := r1
    subst e
    rw [← he1] at h1
    cases t with
    | true => exact iteT ⟨g1, r, R1, h1, p1⟩
    | false => exact iteF ⟨g1, r, R1, h1, p1⟩
  · refine ⟨fun pins s σ H Q I q => ?_⟩
    obtain ⟨g, r, R, hg, p⟩ := q
    simp only [ev] at hg
    show wpAny _ _ (isTrue (.IfExp c' a' b' pos) X.env (eval (.IfExp c' a' b' pos) X.env)) _ _ _
    have e : isTrue (.IfExp c' a' b' pos) X.env (eval (.IfExp c' a' b' pos) X.env) = (do if ← isTrue c' X.env (eval c' X.env) then isTrue a' X.env (eval a' X.env) else isTrue b' X.env (eval b' X.env)) := by first | rfl | simp only [isTrue]
    rw [e]
    refine wpAny_bind (thn (hc.2.run pins s σ H _ I (tR_bind (Kk := fun tt H1 => if tt = true then tR RpB C W (fun env M => ev G a true env M) σ H1 Q else tR RpB C W (fun env M => ev G b true env M) σ H1 Q) R hg p fun t d H1 g1 e1 he1 R1 r1 h1 p1 => ?_)) fun t s1 ⟨H1, I1, q1⟩ => ?_)
    · have e : d = .bl t := r1
      subst e
      rw [← he1] at h1
      cases t with
      | true => exact iteT ⟨g1, r, R1, h1, p1⟩
      | false => exact iteF ⟨g1, r, R1, h1, p1⟩
    · cases t with
      | true => exact ha.2.run pins s1 σ H1 Q I1 q1
      | false => exact hb.2.run pins s1 σ H1 Q I1 q1

/-! ### lists of parts -/
theorem chk_star {ck : Ck} {sc : Scope} {c : E} {e : Expr} (h : chkE ck sc c e = true) (es : List Expr) (env : Env) : starEach (e :: es) env = (false, eval e env) :: starEach es env := by
  cases e <;> first | rfl | skip
  cases c <;> simp [chkE] at h
theorem chk_any {ck : Ck} {sc : Scope} (pos : Pos) (env : Env) : ∀ {cs : Es} {es : List Expr}, chkEs ck sc cs es = true → (backTo pos (starEach es env)).any (·.1) = false
  | .nil, [], _ => rfl
  | .nil, _ :: _, h => by simp [chkEs] at h
  | .cons _ _, [], h => by simp [chkEs] at h
  | .cons c cs, e :: es, h => by
    simp only [chkEs, Bool.and_eq_true] at h
    rw [chk_star h.1]
    show (false || (backTo pos (starEach es env)).any (·.1)) = false
    rw [chk_any pos env h.2]
    rfl
theorem a_nil : SA X C G W [] .nil := pa_nil.wk fun σ H Q q => by
  obtain ⟨g, r, R, hg, p⟩ := q
  simp only [evs, Option.some.injEq] at hg
  subst hg
  exact p [] H g (Ext.refl _) rfl rfl R .nil
theorem a_cons {c : E} {cs : Es} {e : Expr} {es : List Expr} (h : SE X C G W e c) (t : SA X C G W es cs) (hs : starEach (e :: es) X.env = (false, eval e X.env) :: starEach es X.env) : SA X C G W (e :: es) (.cons c cs) :=
  (pa_cons h.1 t hs).wk fun σ H Q q => by
    obtain ⟨g, r, R, hg, p⟩ := q
    simp only [evs] at hg
    refine tR_bind R hg p fun v d H1 g1 e1 he1 R1 r1 h1 p1 => ?_
    rw [← he1] at h1
    refine tR_bind R1 h1 p1 fun vs ds H2 g2 e2 he2 R2 r2 h2 p2 => ?_
    simp only [Option.some.injEq] at h2
    subst h2
    exact p2 (v :: vs) H2 g2 (Ext.refl _) rfl rfl R2 (.cons (r1.ext e2) r2)
theorem s_tup {es : Es} {vs : List Expr} {j : Nat} {pos : Pos} (ok : XOk X C k ck G W) (h : SA X C G W vs es) : SE X C G W (.Tuple vs j pos) (.tup es) := by
  refine plain (f := fun env M => obind (evs G es env M) fun M1 ds => if ds.length ≤ sizeLine then some (.ok M1 (.tup ds)) else none) ok.K ((pe_tup h).wk fun σ H Q q => ?_) (fun _ _ _ => by simp only [ev])
  obtain ⟨g, r, R, hg, p⟩ := q
  refine tR_bind R hg p fun v d H1 g1 e1 he1 R1 r1 h1 p1 => ?_
  split at h1
  · rename_i hl
    injection h1 with h1
    subst h1
    exact ⟨by rw [Reps.length r1]; exact hl, fin_tup (al := false) R1 p1 r1⟩
  · cases h1
theorem s_lst {es : Es} {al : Bool} {vs : List Expr} {pos : Pos} (ok : XOk X C k ck G W) (h : SA X C G W vs es) : SE X C G W (.List vs pos) (.lst al es) := by
  refine plain (f := fun env M => obind (evs G es env M) fun M1 ds => if ds.length ≤ sizeLine then some ((Rs.new (.lst ds)).fin al M1) else none) ok.K ((pe_lst h).wk fun σ H Q q => ?_) (fun _ _ _ => by simp only [ev])
  obtain ⟨g, r, R, hg, p⟩ := q
  refine tR_bind R hg p fun v d H1 g1 e1 he1 R1 r1 h1 p1 => ?_
  split at h1
  · rename_i hl
    injection h1 with h1
    subst h1
    exact ⟨by rw [Reps.length r1]; exact hl, fin_new R1 p1 (show Reps _ _ _ _ _ _ from r1)⟩
  · cases h1

/-! ### items and slices -/
theorem chk_plainIx {ck : Ck} {sc : Scope} {c : E} {e : Expr} (h : chkE ck sc c e = true) : PlainIx e := by
  intro o i
  cases e <;> first | rfl | skip
  cases c <;> simp [chkE] at h
theorem s_sub {a i : E} {a' i' : Expr} {pos : Pos} (ok : XOk X C k ck G W) (hp : PlainIx i') (ha : SE X C G W a' a) (hi : SE X C G W i' i) : SE X C G W (.Subscript a' i' pos) (.sub a i) := by
  refine plain (f := fun env M => obind (ev G a false env M) fun M1 x => obind (ev G i false env M1) fun M2 y => (ixD (see M2 x) y).map fun d => .ok M2 d) ok.K ((pe_ix (ix_any (by have := ok.hu; omega)) ha.1 hi.1 hp).wk fun σ H Q q => ?_) (fun _ _ _ => by simp only [ev])
  obtain ⟨g, r, R, hg, p⟩ := q
  refine two R hg p fun v u x y H2 g2 _ _ R2 rx ry h2 p2 => ?_
  simp only [Option.map_eq_some_iff] at h2
  obtain ⟨d, h3, h4⟩ := h2
  subst h4
  rw [ok.K]
  exact ix_leaf R2 (see_sh R2 rx) ry h3 p2
theorem p_nop : SP X C G W none .nop := by
  refine ⟨fun pins s σ H Q I q => po_none.run pins s σ H Q I ?_⟩
  obtain ⟨g, r, R, hg, p⟩ := q
  simp only [evP, Option.some.injEq] at hg
  subst hg
  exact p none H g (Ext.refl _) rfl rfl R rfl
theorem p_cst {d : D} {c : Const} {j : Nat} {pos : Pos} (h : constB d c = true) : SP X C G W (some (.Constant c j pos)) (.cst d) := by
  obtain ⟨h1, h2⟩ := cst_pe (X := X) (C := C) (j := j) (pos := pos) h
  refine ⟨fun pins s σ H Q I q => (po_some h1).run pins s σ H Q I ?_⟩
  obtain ⟨g, r, R, hg, p⟩ := q
  cases d <;> simp only [evP, Option.some.injEq] at hg <;> first | (cases hg; done) | skip
  subst hg
  exact ⟨_, rfl, p _ H g (Ext.refl _) rfl rfl R rfl⟩
theorem p_var {i : Nat} {x : Str} {pos : Pos} (ok : XOk X C k ck G W) (h : chkE ck X.env.scope (.var i) (.Name x pos) = true) : SP X C G W (some (.Name x pos)) (.var i) := by
  refine ⟨fun pins s σ H Q I q => (po_some (s_var ok h).1).run pins s σ H Q I ?_⟩
  obtain ⟨g, r, R, hg, p⟩ := q
  simp only [evP] at hg
  split at hg
  · rename_i n hn
    injection hg with hg
    subst hg
    refine ⟨g, .ok g.mem (.int n), R, by simp only [ev, tst, varR, hn]; rfl, fun v H' g' e1 e2 e3 R' rv => ?_⟩
    cases rv
    exact ⟨n, rfl, p _ H' g' e1 e2 e3 R' rfl⟩
  · cases hg
theorem p_bin {op : Operator} {al : Bool} {a b : E} {a' b' : Expr} {pos : Pos} (ok : XOk X C k ck G W) (ha : SE X C G W a' a) (hb : SE X C G W b' b) : SP X C G W (some (.BinOp a' op b' pos)) (.bin op al a b) := by
  refine ⟨fun pins s σ H Q I q => (po_some (s_bin (al := false) ok ha hb).1).run pins s σ H Q I ?_⟩
  obtain ⟨g, r, R, hg, p⟩ := q
  simp only [evP] at hg
  have key : tR (RpV C) C W (fun env M => ev G (.bin op false a b) false env M) σ H fun v H1 => ∃ i, v = .int i ∧ Q (some i) H1 := by
    cases h1 : ev G a false g.env g.mem with
    | none => rw [h1] at hg; cases hg
    | some o1 =>
      rw [h1] at hg
      cases o1 with
      | ex M x =>
        have e : some (Out.ex M x) = some r := hg
        injection e with e
        subst e
        exact ⟨g, .ex M x, R, by simp only [ev, tst, h1]; rfl, p⟩
      | ok M1 x =>
        rw [obind_ok] at hg
        cases h2 : ev G b false g.env M1 with
        | none => rw [h2] at hg; cases hg
        | some o2 =>
          rw [h2] at hg
          cases o2 with
          | ex M x' =>
            have e : some (Out.ex M x') = some r := hg
            injection e with e
            subst e
            exact ⟨g, .ex M x', R, by simp only [ev, tst, h1, obind_ok, h2]; rfl, p⟩
          | ok M2 y =>
            rw [obind_ok] at hg
            split at hg
            · rename_i n hn
              injection hg with hg
              subst hg
              refine ⟨g, .ok M2 (.int n), R, by simp only [ev, tst, h1, obind_ok, h2, hn]; rfl, fun v H' g' e1 e2 e3 R' rv => ?_⟩
              cases rv
              exact ⟨n, rfl, p _ H' g' e1 e2 e3 R' rfl⟩
            · cases hg
  exact key
theorem sl_any : SlR X (rSlA X.K) := SlR.or sl_list (SlR.or sl_tup sl_str)
theorem sl_leaf {C : Cc} {W : WX} {σ : Sl} {H : Hp} {g : Gs} {Q : VK} {al : Bool} {v : V} {x : D} {lo hi : Option Int} {rs : Rs} (R : Rel C σ H g) (hx : Sh C H g v x) (h : slD x lo hi = some rs) (p : Po (RpV C) C W σ g Q (rs.fin al g.mem)) : rSlA C.K v lo hi H Q := by
  cases hx with
  | lst h1 r =>
    simp only [slD, Option.some.injEq] at h
    subst h
    exact .inl ⟨_, _, rfl, SqL.of h1, fin_new R p (show Reps _ _ _ _ _ _ from cut_rep r lo hi)⟩
  | scr h1 =>
    rename_i ns
    simp only [slD, Option.some.injEq] at h
    subst h
    refine .inl ⟨_, _, rfl, h1, fin_new R p (show Reps _ _ _ _ _ _ from ?_)⟩
    show Reps _ _ _ _ (cutL (ns.map V.int) lo hi) _
    rw [cut_map]
    exact reps_ints _
  | tup h1 r =>
    simp only [slD] at h
    split at h
    · cases h
    · rename_i hn
      injection h with h
      subst h
      exact .inr (.inl ⟨_, _, rfl, SqT.of h1, by rw [r.length]; exact hn, fin_tup R p (cut_rep r lo hi)⟩)
  | str z =>
    simp only [slD] at h
    split at h
    · rename_i hl
      injection h with h
      subst h
      exact .inr (.inr ⟨_, rfl, hl, fin_val R p (.str _)⟩)
    · cases h
  | _ => cases h
theorem s_slc {al : Bool} {a lo hi : E} {a' : Expr} {lo' hi' : Option Expr} {pos pos' : Pos} (ok : XOk X C k ck G W) (ha : SE X C G W a' a) (hl : SP X C G W lo' lo) (hh : SP X C G W hi' hi) : SE X C G W (.Subscript a' (.Slice lo' hi' none pos') pos) (.slc al a lo hi) := by
  refine plain (f := fun env M => obind (ev G a false env M) fun M1 x => obind (evP G lo env M1) fun M2 l => obind (evP G hi env M2) fun M3 h => (slD (see M3 x) l h).map (Rs.fin al M3)) ok.K ((pe_slice sl_any ha.1 hl hh).wk fun σ H Q q => ?_) (fun _ _ _ => by simp only [ev])
  obtain ⟨g, r, R, hg, p⟩ := q
  refine tR_bind R hg p fun v x H1 g1 e1 he1 R1 r1 h1 p1 => ?_
  rw [← he1] at h1
  refine tR_bind R1 h1 p1 fun l l' H2 g2 e2 he2 R2 r2 h2 p2 => ?_
  rw [← he2] at h2
  refine tR_bind R2 h2 p2 fun u u' H3 g3 e3 he3 R3 r3 h3 p3 => ?_
  simp only [Option.map_eq_some_iff] at h3
  obtain ⟨rs, h4, h5⟩ := h3
  subst h5
  have q2 : l = l' := r2
  have q3 : u = u' := r3
  subst q2 q3
  rw [ok.K]
  exact sl_leaf R3 (see_sh R3 (r1.ext (e2.trans e3))) h4 p3

/-! ### calls -/
theorem s_cal {f : Nat} {es : Es} {x : Str} {vs : List Expr} {p pos : Pos} (ok : XOk X C k ck G W) (hf : ck.fns[f]? = some x) (hg : glB X.env.scope x = true) (hc : chkEs ck X.env.scope es vs = true) (h : SA X C G W vs es) : SE X C G W (.Call (.Name x p) vs [] pos) (.cal f es) := by
  obtain ⟨g1, g2, g3⟩ := glB_ok hg
  obtain ⟨fa, fd, ps, F, b, hm, hk⟩ := (ok.fn f x hf).ex
  refine plain (f := fun env M => obind (evs G es env M) fun M1 ds => callR (G.f f) M1 ds) ok.K ?_ (fun _ _ _ => by simp only [ev])
  have fin : ∀ σ H Q, tR (RpV C) C W (fun env M => obind (evs G es env M) fun M1 ds => callR (G.f f) M1 ds) σ H Q → tCallS (spF X.K C.CA (G.f f)) (WE W) (tR (RpA C) C W fun env M => evs G es env M) σ H Q := fun σ H Q q => by
    obtain ⟨g, r, R, hg, p⟩ := q
    refine tR_bind R hg p fun v d H1 g1 e1 he1 R1 r1 h1 p1 => ?_
    rw [ok.K]
    exact call_leaf R1 r1 h1 p1
  cases vs with
  | nil =>
    refine ⟨fun pins s σ H Q I q => ?_⟩
    have q' := fin σ H Q q
    refine wpAny_Call_Name_kw (ld_glob I g1 hm ?_ g2)
    have h0 := h.run pos pins s σ H (fun vs H1 => spF X.K C.CA (G.f f) vs H1 Q (WE W σ)) I q'
    refine PySem.W.callWith_K0 I.kIn hk ?_
    cases es with
    | cons => simp [chkEs] at hc
    | nil =>
      obtain ⟨g, r, R, hg', p⟩ := q
      simp only [evs] at hg'
      rw [obind_ok] at hg'
      refine run_fnS (us := []) (vs := []) F ok.room b (passAt ok.tk σ) I .nil ?_
      rw [ok.K]
      exact call_leaf R .nil hg' p
  | cons e es' =>
    cases es with
    | nil => simp [chkEs] at hc
    | cons c cs =>
      simp only [chkEs, Bool.and_eq_true] at hc
      exact (pe_callS F ok.room g1 hm hk b (fun σ => passAt ok.tk σ) h g2 (chk_star hc.1 _ _) (chk_any _ _ hc.2)).wk fin
end
end Mn

set_option Elab.async false
set_option linter.all false
set_option maxRecDepth 100000
set_option maxHeartbeats 2000000
/-! Mn7: built-ins; every expression is sound. -/
namespace Mn
open PySem PySem.Spec PyProof.Rows L2

/-! ### built-ins -/
def Bi.val : Bi → Value
  | .len => .builtin "len" | .abs => .builtin "abs" | .int => .type "int" | .str => .type "str" | .max => .builtin "max" | .min => .builtin "min" | .sum => .builtin "sum" | .list => .type "list" | .tuple => .type "tuple"
  | .dict => .type "dict" | .sorted => .builtin "sorted" | .set => .type "set" | .reversed => .type "reversed" | .all => .builtin "all" | .any => .builtin "any"
def rNoC : List V → Hp → VK → Prop := fun _ _ _ => False
theorem callNo {X : Cx} {f : Value} : CallR X f rNoC := fun _ _ _ _ _ _ _ _ _ q => q.elim
def rBi (K : PySem.W.Frag) : Bi → List V → Hp → VK → Prop
  | .len => fun xs H Q => (∃ x n, xs = [x] ∧ LenV K x H n ∧ Q (.int n) H) ∨ (∃ a kvs, xs = [V.ref a] ∧ Rd H a (.dK kvs) ∧ Q (.int kvs.length) H)
  | .abs => fun xs H Q => ∃ i, xs = [.int i] ∧ Q (.int (if i < 0 then -i else i)) H
  | .int => fun xs H Q => ((∃ i, xs = [.int i] ∧ Q (.int i) H) ∨ ∃ k, xs = [.bl k] ∧ Q (.int (if k then 1 else 0)) H) ∨ (∃ a n, xs = [.str a] ∧ PySem.intText? a = some n ∧ a.length ≤ 640 ∧ Q (.int n) H)
  | .str => fun xs H Q => ∃ i, xs = [.int i] ∧ i.natAbs.log2 < 1920 ∧ Q (.str (toString i)) H
  | .max => fun xs H Q => ∃ i j, xs = [.int i, .int j] ∧ Q (.int (if j > i then j else i)) H
  | .min => fun xs H Q => ∃ i j, xs = [.int i, .int j] ∧ Q (.int (if j < i then j else i)) H
  | .sum => rSum K
  | .list => fun xs H Q => ∃ p ys, xs = [.ref p] ∧ (SqL K H p ys ∨ SqT K H p ys) ∧ ∀ l, H l = none → Q (.ref l) (upd H l (.lst ys))
  | .tuple => fun xs H Q => ∃ p ys, xs = [.ref p] ∧ ((SqL K H p ys ∧ ∀ l, H l = none → Q (.ref l) (upd H l (.tup ys))) ∨ (SqT K H p ys ∧ Q (.ref p) H))
  | .all => rAll K
  | _ => rNoC
theorem call_len2 {X : Cx} : CallR X (.builtin "len") (fun xs H Q => ∃ a kvs, xs = [V.ref a] ∧ Rd H a (.dK kvs) ∧ Q (.int kvs.length) H) := by
  rintro pins s σ H xs us Q I r ⟨a, kvs, rfl, ha, q⟩
  obtain ⟨u, rfl, ru⟩ := vals1 r
  obtain rfl : u = Value.ref a := ru
  exact d_len I ha fun t s' I' => ⟨.int kvs.length, H, I', ⟨_, rfl⟩, q⟩
theorem call_bi {X : Cx} (hc : X.calm = true) : ∀ b : Bi, CallR X b.val (rBi X.K b)
  | .len => CallR.orM call_len call_len2
  | .abs => call_abs
  | .int => CallR.orM call_int1 call_int_str
  | .str => call_str_int
  | .max => call_max2 hc
  | .min => call_min2 hc
  | .sum => cr_sum hc
  | .list => call_list_of
  | .tuple => call_tuple_of
  | .all => cr_all hc
  | .dict => callNo
  | .sorted => callNo
  | .set => callNo
  | .reversed => callNo
  | .any => callNo
theorem boot_bi : ∀ b : Bi, bootBuiltins b.name = some b.val := by
  intro b
  cases b <;> decide +kernel
/-- what stands at the parts now -/
inductive Shs (C : Cc) (H : Hp) (g : Gs) : List V → List D → Prop
  | nil : Shs C H g [] []
  | cons {v : V} {d : D} {vs : List V} {ds : List D} (h : Sh C H g v d) (t : Shs C H g vs ds) : Shs C H g (v :: vs) (d :: ds)
theorem see_shs {C : Cc} {σ : Sl} {H : Hp} {g : Gs} (R : Rel C σ H g) : ∀ {vs : List V} {ds : List D}, Reps C.K C.CA g.Z g.rho vs ds → Shs C H g vs (ds.map (see g.mem))
  | _, _, .nil => .nil
  | _, _, .cons h t => .cons (see_sh R h) (see_shs R t)
theorem ints_rep {K : PySem.W.Frag} {CA : Nat → Addr} {Z : Hp} {rho : List Addr} : ∀ {vs : List V} {ds : List D} {ns : List Int}, Reps K CA Z rho vs ds → intsD ds = some ns → vs = ns.map V.int
  | _, _, _, .nil, h => by cases h; rfl
  | _, _, ns, .cons h t, e => by
    cases h <;> simp only [intsD] at e <;> first | (cases e; done) | skip
    simp only [Option.map_eq_some_iff] at e
    obtain ⟨ms, e1, e2⟩ := e
    subst e2
    rw [List.map_cons, ← ints_rep t e1]
theorem bis_rep {K : PySem.W.Frag} {CA : Nat → Addr} {Z : Hp} {rho : List Addr} : ∀ {vs : List V} {ds : List D} {ns : List Bool}, Reps K CA Z rho vs ds → bisD ds = some ns → vs = ns.map V.bl
  | _, _, _, .nil, h => by cases h; rfl
  | _, _, ns, .cons h t, e => by
    cases h <;> simp only [bisD] at e <;> first | (cases e; done) | skip
    simp only [Option.map_eq_some_iff] at e
    obtain ⟨ms, e1, e2⟩ := e
    subst e2
    rw [List.map_cons, ← bis_rep t e1]
theorem bi_leaf {C : Cc} {W : WX} {σ : Sl} {H : Hp} {g : Gs} {Q : VK} {al : Bool} {b : Bi} {vs : List V} {ds : List D} {rs : Rs} (R : Rel C σ H g) (h : Shs C H g vs ds) (e : biR b ds = some rs) (p : Po (RpV C) C W σ g Q (rs.fin al g.mem)) : rBi C.K b vs H Q := by
  cases h with
  | nil => cases b <;> cases e
  | cons h1 t1 =>
    cases t1 with
    | nil =>
      cases b <;> cases h1 <;> simp only [biR, Option.some.injEq] at e <;> first | (cases e; done) | skip
      case len.str =>
        split at e
        · rename_i hl
          cases e
          exact .inl ⟨_, _, rfl, ⟨hl, rfl⟩, fin_val R p (.int _)⟩
        · cases e
      case len.tup h2 r2 =>
        subst e
        exact .inl ⟨_, _, rfl, .inr ⟨_, SqT.of h2, r2.length.symm⟩, fin_val R p (.int _)⟩
      case len.lst h2 r2 =>
        subst e
        exact .inl ⟨_, _, rfl, .inl ⟨_, SqL.of h2, r2.length.symm⟩, fin_val R p (.int _)⟩
      case len.dic h2 e2 r2 =>
        subst e
        have hl : ∀ {l1 : List (Key × V)} {l2 : List (Key × D)}, l1.map (·.1) = l2.map (·.1) → l1.length = l2.length := fun e => by
          have := congrArg List.length e
          simpa using this
        exact .inr ⟨_, _, rfl, h2, by rw [hl e2]; exact fin_val R p (.int _)⟩
      case len.scr h2 =>
        subst e
        exact .inl ⟨_, _, rfl, .inl ⟨_, h2, by rw [List.length_map]⟩, fin_val R p (.int _)⟩
      case abs.int => subst e; exact ⟨_, rfl, fin_val R p (.int _)⟩
      case int.bl => subst e; exact .inl (.inr ⟨_, rfl, fin_val R p (.int _)⟩)
      case int.int => subst e; exact .inl (.inl ⟨_, rfl, fin_val R p (.int _)⟩)
      case int.str =>
        split at e
        · rename_i n hn
          split at e
          · rename_i hl
            cases e
            exact .inr ⟨_, _, rfl, hn, hl, fin_val R p (.int _)⟩
          · cases e
        · cases e
      case str.int =>
        split at e
        · rename_i hl
          cases e
          exact ⟨_, rfl, hl, fin_val R p (.str _)⟩
        · cases e
      case sum.lst h2 r2 =>
        split at e
        · rename_i ns hn
          cases e
          have q := ints_rep r2 hn
          subst q
          exact ⟨_, _, rfl, SqL.of h2, fin_val R p (.int _)⟩
        · cases e
      case list.tup h2 r2 => subst e; exact ⟨_, _, rfl, .inr (SqT.of h2), fin_new R p (show Reps _ _ _ _ _ _ from r2)⟩
      case list.lst h2 r2 => subst e; exact ⟨_, _, rfl, .inl (SqL.of h2), fin_new R p (show Reps _ _ _ _ _ _ from r2)⟩
      case tuple.lst h2 r2 => subst e; exact ⟨_, _, rfl, .inl ⟨SqL.of h2, fin_tup R p r2⟩⟩
      case all.lst h2 r2 =>
        split at e
        · rename_i ns hn
          cases e
          have q := bis_rep r2 hn
          subst q
          exact ⟨_, _, rfl, SqL.of h2, fin_val R p (.bl _)⟩
        · cases e
      all_goals skip
    | cons h2 t2 =>
      cases t2 with
      | nil =>
        cases b <;> cases h1 <;> cases h2 <;> simp only [biR, Option.some.injEq] at e <;> first | (cases e; done) | skip
        case max.int.int => subst e; exact ⟨_, _, rfl, fin_val R p (.int _)⟩
        case min.int.int => subst e; exact ⟨_, _, rfl, fin_val R p (.int _)⟩
      | cons h3 t3 => cases b <;> simp only [biR] at e <;> cases e
section
variable {X : Cx} {C : Cc} {k : Nat} {ck : Ck} {G : Sig} {W : WX}
theorem s_blt {b : Bi} {al : Bool} {es : Es} {x : Str} {vs : List Expr} {p pos : Pos} (ok : XOk X C k ck G W) (hx : x = b.name) (hb : x ∈ ck.bis) (hg : glB X.env.scope x = true) (hc : chkEs ck X.env.scope es vs = true) (h : SA X C G W vs es) : SE X C G W (.Call (.Name x p) vs [] pos) (.blt b al es) := by
  obtain ⟨g1, g2, g3⟩ := glB_ok hg
  have hm := ok.bi x hb
  have hv : bootBuiltins x = some b.val := by rw [hx]; exact boot_bi b
  have hcall := call_bi (X := X) ok.calm b
  refine plain (f := fun env M => obind (evs G es env M) fun M1 ds => (biR b (ds.map (see M1))).map (Rs.fin al M1)) ok.K ?_ (fun _ _ _ => by simp only [ev])
  cases vs with
  | nil =>
    cases es with
    | cons => simp [chkEs] at hc
    | nil =>
      refine ⟨fun pins s σ H Q I q => ?_⟩
      obtain ⟨g, r, R, hg', p⟩ := q
      simp only [evs] at hg'
      rw [obind_ok] at hg'
      exfalso
      cases b <;> cases hg'
  | cons e es' =>
    cases es with
    | nil => simp [chkEs] at hc
    | cons c cs =>
      simp only [chkEs, Bool.and_eq_true] at hc
      have key : PE X (.Call (.Name x p) (e :: es') [] pos) (tCB (rBi X.K b) (tR (RpA C) C W fun env M => evs G (.cons c cs) env M)) := by
        cases hbv : b.val with
        | builtin id => 
          rw [hbv] at hcall hv
          exact pe_callB hcall g1 hm hv h g3 g2 (chk_star hc.1 _ _) (chk_any _ _ hc.2)
        | type T =>
          rw [hbv] at hcall hv
          exact pe_callTy hcall g1 hm hv h g3 g2 (chk_star hc.1 _ _) (chk_any _ _ hc.2)
        | _ => cases b <;> cases hbv
      refine key.wk fun σ H Q q => ?_
      obtain ⟨g, r, R, hg', p⟩ := q
      refine tR_bind R hg' p fun v d H1 g1 e1 he1 R1 r1 h1 p1 => ?_
      simp only [Option.map_eq_some_iff] at h1
      obtain ⟨rs, h2, h3⟩ := h1
      subst h3
      rw [ok.K]
      exact bi_leaf R1 (see_shs R1 r1) h2 p1
/-- the type of what stands there -/
theorem ty_of {C : Cc} {H : Hp} {g : Gs} {v : V} {d : D} {n : String} (s : Sh C H g v d) (h : tyN d = some n) : TyX C.K H v (.type n) := by
  cases s <;> simp only [tyN, Option.some.injEq] at h <;> first | (cases h; done) | skip
  case non => subst h; exact .base .non
  case bl => subst h; exact .base (.bl _)
  case int => subst h; exact .base (.int _)
  case str => subst h; exact .base (.str _)
  case tup h1 _ => subst h; exact .base (.tup h1)
  case lst h1 _ => subst h; exact .base (.lst h1)
  case dic h1 _ _ =>
    subst h
    rcases h1 with h1 | ⟨o, h1⟩
    · exact .base (.dK h1)
    · exact .fDict h1
  case scr h1 =>
    subst h
    rcases h1 with (h1 | ⟨o, h1⟩) | ⟨o, its, n, h2, h3, _⟩
    · exact .base (.lst h1)
    · exact .base (.frz h1)
    · exact .kList h2 h3
theorem boot_ty : ∀ t : Ty, bootBuiltins (Str.ofString t.name) = some (.type t.name) := by
  intro t
  cases t <;> decide +kernel
theorem s_isi {a : E} {a' : Expr} {t : Ty} {x y : Str} {p q pos : Pos} (ok : XOk X C k ck G W) (hx : x = ("isinstance" : Str)) (hb : x ∈ ck.bis) (hg : glB X.env.scope x = true) (hy : y = Str.ofString t.name) (hyb : y ∈ ck.bis) (hyg : glB X.env.scope y = true)
    (hc : chkE ck X.env.scope a a' = true) (ha : SE X C G W a' a) : SE X C G W (.Call (.Name x p) [a', .Name y q] [] pos) (.isi a t) := by
  obtain ⟨g1, g2, g3⟩ := glB_ok hg
  obtain ⟨y1, y2, y3⟩ := glB_ok hyg
  have hm := ok.bi x hb
  have hym := ok.bi y hyb
  refine plain (f := fun env M => obind (ev G a false env M) fun M1 x => (isiR (see M1 x) t).map fun b => .ok M1 (.bl b)) ok.K ?_ (fun _ _ _ => by simp only [ev])
  have hv : bootBuiltins y = some (.type t.name) := by rw [hy]; exact boot_ty t
  refine (pe_callB call_isi g1 hm (by rw [hx]; exact boot_isinstance) (pa_cons ha.1 (pa_cons (pe_bltn (v := .ty t.name) y1 hym hv rfl y3 y2) pa_nil) (chk_star hc _ _)) g3 g2 (chk_star hc _ _) rfl).wk fun σ H Q q => ?_
  obtain ⟨g, r, R, hg', p⟩ := q
  refine tR_bind R hg' p fun v d H1 g1 e1 he1 R1 r1 h1 p1 => ?_
  simp only [Option.map_eq_some_iff] at h1
  obtain ⟨b, h2, h3⟩ := h1
  subst h3
  unfold isiR at h2
  split at h2
  · rename_i n hn
    exact ⟨v, .ty t.name, .type n, .type t.name, b, rfl, .ty _, ok.K ▸ ty_of (see_sh R1 r1) hn, kit_ty h2, p1 _ H1 g1 (Ext.refl _) rfl rfl R1 (.bl b)⟩
  · cases h2
/-! ### and, or -/
def SB (X : Cx) (C : Cc) (W : WX) (op : BoolOp) (pos : Pos) (vs : List Expr) (fv ft : En → Mem → Option (Out D)) : Prop := PE X (.BoolOp op vs pos) (tR (RpV C) C W fv) ∧ PW X (.BoolOp op vs pos) (tR RpB C W ft)
theorem b_and1 {c : E} {e : Expr} {pos : Pos} (h : SE X C G W e c) : SB X C W .And pos [e] (evA G (.cons c .nil)) (evTA G (.cons c .nil)) :=
  ⟨(pe_one h.1).wk fun σ H Q q => tR_imp q fun env M => by simp only [evA], ⟨fun wh pins s σ H Q I q => (pw_and1 h.2).run wh pins s σ H Q I (tR_imp q fun env M => by simp only [evTA])⟩⟩
theorem b_or1 {c : E} {e : Expr} {pos : Pos} (h : SE X C G W e c) : SB X C W .Or pos [e] (evO G (.cons c .nil)) (evTO G (.cons c .nil)) :=
  ⟨(pe_one h.1).wk fun σ H Q q => tR_imp q fun env M => by simp only [evO], ⟨fun wh pins s σ H Q I q => (pw_or1 h.2).run wh pins s σ H Q I (tR_imp q fun env M => by simp only [evTO])⟩⟩
theorem b_and {c c2 : E} {cs : Es} {e e2 : Expr} {es : List Expr} {pos : Pos} (ok : XOk X C k ck G W) (h : SE X C G W e c) (t : SB X C W .And pos (e2 :: es) (evA G (.cons c2 cs)) (evTA G (.cons c2 cs))) :
    SB X C W .And pos (e :: e2 :: es) (evA G (.cons c (.cons c2 cs))) (evTA G (.cons c (.cons c2 cs))) := by
  refine ⟨(pe_andT h.1 t.1).wk fun σ H Q q => ?_, ⟨fun wh pins s σ H Q I q => (pw_and h.2 t.2).run wh pins s σ H Q I ?_⟩⟩
  · obtain ⟨g, r, R, hg, p⟩ := q
    have hg' : (obind (ev G c false g.env g.mem) fun M1 d => match tv (see M1 d) with | some true => evA G (.cons c2 cs) g.env M1 | some false => some (.ok M1 d) | none => none) = some r := by rw [← hg]; simp only [evA] <;> rfl
    refine tR_bind R hg' p fun v d H1 g1 e1 he1 R1 r1 h1 p1 => ?_
    split at h1
    · rename_i hb
      rw [← he1] at h1
      exact ⟨true, ok.K ▸ tru_of (see_sh R1 r1) hb, iteT ⟨g1, r, R1, h1, p1⟩⟩
    · rename_i hb
      injection h1 with h1
      subst h1
      exact ⟨false, ok.K ▸ tru_of (see_sh R1 r1) hb, iteF (p1 v H1 g1 (Ext.refl _) rfl rfl R1 r1)⟩
    · cases h1
  · obtain ⟨g, r, R, hg, p⟩ := q
    have hg' : (obind (ev G c true g.env g.mem) fun M1 d => match d with | .bl true => evTA G (.cons c2 cs) g.env M1 | .bl false => some (.ok M1 (.bl false)) | _ => none) = some r := by rw [← hg]; simp only [evTA] <;> rfl
    refine tR_bind R hg' p fun v d H1 g1 e1 he1 R1 r1 h1 p1 => ?_
    have e : d = .bl v := r1
    subst e
    cases v with
    | true => rw [← he1] at h1; exact iteT ⟨g1, r, R1, h1, p1⟩
    | false =>
      have e : some (Out.ok g1.mem (D.bl false)) = some r := h1
      injection e with e
      subst e
      exact iteF (p1 false H1 g1 (Ext.refl _) rfl rfl R1 rfl)
theorem b_or {c c2 : E} {cs : Es} {e e2 : Expr} {es : List Expr} {pos : Pos} (ok : XOk X C k ck G W) (h : SE X C G W e c) (t : SB X C W .Or pos (e2 :: es) (evO G (.cons c2 cs)) (evTO G (.cons c2 cs))) :
    SB X C W .Or pos (e :: e2 :: es) (evO G (.cons c (.cons c2 cs))) (evTO G (.cons c (.cons c2 cs))) := by
  refine ⟨(pe_orT h.1 t.1).wk fun σ H Q q => ?_, ⟨fun wh pins s σ H Q I q => (pw_or h.2 t.2).run wh pins s σ H Q I ?_⟩⟩
  · obtain ⟨g, r, R, hg, p⟩ := q
    have hg' : (obind (ev G c false g.env g.mem) fun M1 d => match tv (see M1 d) with | some false => evO G (.cons c2 cs) g.env M1 | some true => some (.ok M1 d) | none => none) = some r := by rw [← hg]; simp only [evO] <;> rfl
    refine tR_bind R hg' p fun v d H1 g1 e1 he1 R1 r1 h1 p1 => ?_
    split at h1
    · rename_i hb
      rw [← he1] at h1
      exact ⟨false, ok.K ▸ tru_of (see_sh R1 r1) hb, iteF ⟨g1, r, R1, h1, p1⟩⟩
    · rename_i hb
      injection h1 with h1
      subst h1
      exact ⟨true, ok.K ▸ tru_of (see_sh R1 r1) hb, iteT (p1 v H1 g1 (Ext.refl _) rfl rfl R1 r1)⟩
    · cases h1
  · obtain ⟨g, r, R, hg, p⟩ := q
    have hg' : (obind (ev G c true g.env g.mem) fun M1 d => match d with | .bl false => evTO G (.cons c2 cs) g.env M1 | .bl true => some (.ok M1 (.bl true)) | _ => none) = some r := by rw [← hg]; simp only [evTO] <;> rfl
    refine tR_bind R hg' p fun v d H1 g1 e1 he1 R1 r1 h1 p1 => ?_
    have e : d = .bl v := r1
    subst e
    cases v with
    | false => rw [← he1] at h1; exact iteF ⟨g1, r, R1, h1, p1⟩
    | true =>
      have e : some (Out.ok g1.mem (D.bl true)) = some r := h1
      injection e with e
      subst e
      exact iteT (p1 true H1 g1 (Ext.refl _) rfl rfl R1 rfl)
end
theorem none_E {X : Cx} {C : Cc} {G : Sig} {W : WX} {e : Expr} {c : E} (h : ∀ t env M, ev G c t env M = none) : SE X C G W e c :=
  ⟨⟨fun pins s σ H Q I ⟨g, r, R, hg, p⟩ => by dsimp only at hg; rw [h] at hg; cases hg⟩, ⟨fun pins s σ H Q I ⟨g, r, R, hg, p⟩ => by dsimp only at hg; rw [h] at hg; cases hg⟩⟩
section
variable {C : Cc} {k : Nat} {ck : Ck} {G : Sig}
mutual
theorem soundE : ∀ (c : E) {X : Cx} {W : WX} (ok : XOk X C k ck G W) (e : Expr), chkE ck X.env.scope c e = true → SE X C G W e c
  | .var i, X, W, ok, e, h => by
    cases e <;> first | (simp [chkE] at h; done) | skip
    exact s_var ok h
  | .cst d, X, W, ok, e, h => by
    cases e <;> first | (simp [chkE] at h; done) | skip
    exact s_cst ok (by simpa [chkE] using h)
  | .glb x d, X, W, ok, e, h => by
    cases e <;> first | (simp [chkE] at h; done) | skip
    exact s_glb ok h
  | .bin op al a b, X, W, ok, e, h => by
    cases e <;> first | (simp [chkE] at h; done) | skip
    simp only [chkE, Bool.and_eq_true, decide_eq_true_eq] at h
    obtain ⟨⟨h1, h2⟩, h3⟩ := h
    subst h1
    exact s_bin ok (soundE a ok _ h2) (soundE b ok _ h3)
  | .neg a, X, W, ok, e, h => by
    cases e <;> first | (simp [chkE] at h; done) | skip
    rename_i op x pos
    cases op <;> first | (simp [chkE] at h; done) | skip
    exact s_neg ok (soundE a ok _ (by simpa [chkE] using h))
  | .cmp op a b, X, W, ok, e, h => by
    simp only [chkE] at h
    split at h
    · simp only [Bool.and_eq_true, decide_eq_true_eq, Bool.not_eq_true'] at h
      obtain ⟨⟨⟨h1, h2⟩, h3⟩, h4⟩ := h
      subst h1
      exact s_cmp ok h2 (soundE a ok _ h3) (soundE b ok _ h4)
    · cases h
  | .chn p q a b c, X, W, ok, e, h => by
    simp only [chkE] at h
    split at h
    · simp only [Bool.and_eq_true, decide_eq_true_eq, Bool.not_eq_true'] at h
      obtain ⟨⟨⟨⟨⟨h1, h2⟩, h3⟩, h4⟩, h5⟩, h6⟩ := h
      subst h1 h2
      exact s_chn ok h3 (soundE a ok _ h4) (soundE b ok _ h5) (soundE c ok _ h6)
    · cases h
  | .and es, X, W, ok, e, h => by
    simp only [chkE] at h
    split at h
    · obtain ⟨h1, h2⟩ := soundA es ok _ h _
      exact ⟨h1.wk fun σ H Q q => tR_imp q fun env M => by simp only [ev, Bool.false_eq_true, if_false], (PW.pt h2).wk fun σ H Q q => tR_imp q fun env M => by simp only [ev, if_true]⟩
    · cases h
  | .or es, X, W, ok, e, h => by
    simp only [chkE] at h
    split at h
    · obtain ⟨h1, h2⟩ := soundO es ok _ h _
      exact ⟨h1.wk fun σ H Q q => tR_imp q fun env M => by simp only [ev, Bool.false_eq_true, if_false], (PW.pt h2).wk fun σ H Q q => tR_imp q fun env M => by simp only [ev, if_true]⟩
    · cases h
  | .not a, X, W, ok, e, h => by
    simp only [chkE] at h
    split at h
    · exact s_not ok (soundE a ok _ h)
    · cases h
  | .ite c a b, X, W, ok, e, h => by
    simp only [chkE] at h
    split at h
    · simp only [Bool.and_eq_true] at h
      exact s_ite ok (soundE c ok _ h.1.1) (soundE a ok _ h.1.2) (soundE b ok _ h.2)
    · cases h
  | .tup es, X, W, ok, e, h => by
    simp only [chkE] at h
    split at h
    · exact s_tup ok (soundEs es ok _ h)
    · cases h
  | .lst al es, X, W, ok, e, h => by
    simp only [chkE] at h
    split at h
    · exact s_lst ok (soundEs es ok _ h)
    · cases h
  | .dsp _ _ _, X, W, ok, e, h => by simp [chkE] at h
  | .sub a i, X, W, ok, e, h => by
    simp only [chkE] at h
    split at h
    · simp only [Bool.and_eq_true] at h
      exact s_sub ok (chk_plainIx h.2) (soundE a ok _ h.1) (soundE i ok _ h.2)
    · cases h
  | .slc al a lo hi, X, W, ok, e, h => by
    simp only [chkE] at h
    split at h
    · simp only [Bool.and_eq_true] at h
      exact s_slc ok (soundE a ok _ h.1.1) (soundP lo ok _ h.1.2) (soundP hi ok _ h.2)
    · cases h
  | .nop, X, W, ok, e, h => by simp [chkE] at h
  | .fld _ _, X, W, ok, e, h => by simp [chkE] at h
  | .cal f es, X, W, ok, e, h => by
    simp only [chkE] at h
    split at h
    · simp only [Bool.and_eq_true, decide_eq_true_eq] at h
      exact s_cal ok h.1.1 h.1.2 h.2 (soundEs es ok _ h.2)
    · cases h
  | .met _ _ _, X, W, ok, e, h => by simp [chkE] at h
  | .mak _ _, X, W, ok, e, h => by simp [chkE] at h
  | .blt b al es, X, W, ok, e, h => by
    simp only [chkE] at h
    split at h
    · simp only [Bool.and_eq_true, decide_eq_true_eq] at h
      exact s_blt ok h.1.1.1 h.1.1.2 h.1.2 h.2 (soundEs es ok _ h.2)
    · cases h
  | .mth _ _ _ _, X, W, ok, e, h => by simp [chkE] at h
  | .isi a t, X, W, ok, e, h => by
    simp only [chkE] at h
    split at h
    · simp only [Bool.and_eq_true, decide_eq_true_eq] at h
      obtain ⟨⟨⟨⟨⟨⟨h1, h2⟩, h3⟩, h4⟩, h5⟩, h6⟩, h7⟩ := h
      exact s_isi ok h1 h2 h3 h4 h5 h6 h7 (soundE a ok _ h7)
    · cases h
  | .lcp _ _ _ _ _, X, W, ok, e, h => by simp [chkE] at h
theorem soundEs : ∀ (cs : Es) {X : Cx} {W : WX} (ok : XOk X C k ck G W) (es : List Expr), chkEs ck X.env.scope cs es = true → SA X C G W es cs
  | .nil, X, W, ok, [], h => a_nil
  | .nil, X, W, ok, _ :: _, h => by simp [chkEs] at h
  | .cons _ _, X, W, ok, [], h => by simp [chkEs] at h
  | .cons c cs, X, W, ok, e :: es, h => by
    simp only [chkEs, Bool.and_eq_true] at h
    exact a_cons (soundE c ok _ h.1) (soundEs cs ok _ h.2) (chk_star h.1 _ _)
theorem soundA : ∀ (cs : Es) {X : Cx} {W : WX} (ok : XOk X C k ck G W) (es : List Expr), chkEs ck X.env.scope cs es = true → ∀ pos, SB X C W .And pos es (evA G cs) (evTA G cs)
  | .nil, X, W, ok, es, h, pos => by
    refine ⟨⟨fun pins s σ H Q I ⟨g, r, R, hg, p⟩ => ?_⟩, ⟨fun wh pins s σ H Q I ⟨g, r, R, hg, p⟩ => ?_⟩⟩
    · simp only [evA] at hg; cases hg
    · simp only [evTA] at hg; cases hg
  | .cons _ _, X, W, ok, [], h, pos => by simp [chkEs] at h
  | .cons c .nil, X, W, ok, e :: es, h, pos => by
    simp only [chkEs, Bool.and_eq_true] at h
    cases es with
    | nil => exact b_and1 (soundE c ok _ h.1)
    | cons => simp [chkEs] at h
  | .cons c (.cons c2 cs), X, W, ok, e :: es, h, pos => by
    cases es with
    | nil => simp [chkEs] at h
    | cons e2 es =>
      have h' : (_ && _) = true := h
      rw [Bool.and_eq_true] at h'
      exact b_and ok (soundE c ok _ h'.1) (soundA (.cons c2 cs) ok _ h'.2 pos)
theorem soundO : ∀ (cs : Es) {X : Cx} {W : WX} (ok : XOk X C k ck G W) (es : List Expr), chkEs ck X.env.scope cs es = true → ∀ pos, SB X C W .Or pos es (evO G cs) (evTO G cs)
  | .nil, X, W, ok, es, h, pos => by
    refine ⟨⟨fun pins s σ H Q I ⟨g, r, R, hg, p⟩ => ?_⟩, ⟨fun wh pins s σ H Q I ⟨g, r, R, hg, p⟩ => ?_⟩⟩
    · simp only [evO] at hg; cases hg
    · simp only [evTO] at hg; cases hg
  | .cons _ _, X, W, ok, [], h, pos => by simp [chkEs] at h
  | .cons c .nil, X, W, ok, e :: es, h, pos => by
    simp only [chkEs, Bool.and_eq_true] at h
    cases es with
    | nil => exact b_or1 (soundE c ok _ h.1)
    | cons => simp [chkEs] at h
  | .cons c (.cons c2 cs), X, W, ok, e :: es, h, pos => by
    cases es with
    | nil => simp [chkEs] at h
    | cons e2 es =>
      have h' : (_ && _) = true := h
      rw [Bool.and_eq_true] at h'
      exact b_or ok (soundE c ok _ h'.1) (soundO (.cons c2 cs) ok _ h'.2 pos)
theorem soundP : ∀ (c : E) {X : Cx} {W : WX} (ok : XOk X C k ck G W) (o : Option Expr), chkP ck X.env.scope c o = true → SP X C G W o c
  | .nop, X, W, ok, o, h => by
    cases o with
    | none => exact p_nop
    | some e => simp [chkP] at h
  | .cst d, X, W, ok, o, h => by
    cases o with
    | none => simp [chkP] at h
    | some e =>
      cases e <;> first | (simp [chkP] at h; done) | skip
      exact p_cst (by simpa [chkP] using h)
  | .var i, X, W, ok, o, h => by
    cases o with
    | none => simp [chkP] at h
    | some e =>
      cases e <;> first | (simp [chkP] at h; done) | skip
      exact p_var ok (by simpa [chkP, chkE] using h)
  | .bin op al a b, X, W, ok, o, h => by
    cases o with
    | none => simp [chkP] at h
    | some e =>
      cases e <;> first | (simp [chkP] at h; done) | skip
      simp only [chkP, Bool.and_eq_true, decide_eq_true_eq] at h
      obtain ⟨⟨h1, h2⟩, h3⟩ := h
      subst h1
      exact p_bin ok (soundE a ok _ h2) (soundE b ok _ h3)
  | .glb _ _, X, W, ok, o, h => by simp [chkP] at h
  | .neg _, X, W, ok, o, h => by simp [chkP] at h
  | .cmp _ _ _, X, W, ok, o, h => by simp [chkP] at h
  | .chn _ _ _ _ _, X, W, ok, o, h => by simp [chkP] at h
  | .and _, X, W, ok, o, h => by simp [chkP] at h
  | .or _, X, W, ok, o, h => by simp [chkP] at h
  | .not _, X, W, ok, o, h => by simp [chkP] at h
  | .ite _ _ _, X, W, ok, o, h => by simp [chkP] at h
  | .tup _, X, W, ok, o, h => by simp [chkP] at h
  | .lst _ _, X, W, ok, o, h => by simp [chkP] at h
  | .dsp _ _ _, X, W, ok, o, h => by simp [chkP] at h
  | .sub _ _, X, W, ok, o, h => by simp [chkP] at h
  | .slc _ _ _ _, X, W, ok, o, h => by simp [chkP] at h
  | .fld _ _, X, W, ok, o, h => by simp [chkP] at h
  | .cal _ _, X, W, ok, o, h => by simp [chkP] at h
  | .met _ _ _, X, W, ok, o, h => by simp [chkP] at h
  | .mak _ _, X, W, ok, o, h => by simp [chkP] at h
  | .blt _ _ _, X, W, ok, o, h => by simp [chkP] at h
  | .mth _ _ _ _, X, W, ok, o, h => by simp [chkP] at h
  | .isi _ _, X, W, ok, o, h => by simp [chkP] at h
  | .lcp _ _ _ _ _, X, W, ok, o, h => by simp [chkP] at h
end
end
end Mn

set_option Elab.async false
set_option linter.all false
set_option maxRecDepth 100000
set_option maxHeartbeats 2000000
/-! Mn8: statements. -/
namespace Mn
open PySem PySem.Spec PyProof.Rows L2

def locB2 (sc : Scope) (x : Str) : Bool := match sc.names.lookup x with
  | some .local => true
  | some .cell => true
  | _ => false
theorem locB2_ok {sc : Scope} {x : Str} (h : locB2 sc x = true) : Loc sc x := by
  unfold locB2 at h
  split at h <;> first | exact .inl (by assumption) | exact .inr (by assumption) | cases h
theorem locB_ok {sc : Scope} {x : Str} (h : locB sc x = true) : sc.names.lookup x = some .local := by
  unfold locB at h
  split at h <;> first | assumption | cases h
/-! ### the look -/
def notComp : Expr → Bool
  | .ListComp _ _ _ _ => false
  | .SetComp _ _ _ _ => false
  | .DictComp _ _ _ _ _ => false
  | _ => true
def notTup (tg : Expr) : Expr → Bool
  | .Tuple vs _ _ => (match tg with
    | .Name _ _ => true
    | .Tuple ts _ _ => (!(ts.length == 2 || ts.length == 3)) || (vs.all (foldedForSure 8) && !vs.any fun | .Starred .. => true | _ => false)
    | _ => false)
  | _ => true
def chkN (k : Ck) (sc : Scope) (i : Nat) : Expr → Bool
  | .Name x _ => decide (k.N[i]? = some x) && locB2 sc x
  | _ => false
def chkNs (k : Ck) (sc : Scope) : List Nat → List Expr → Bool
  | [], [] => true
  | i :: is, e :: es => chkN k sc i e && chkNs k sc is es
  | _, _ => false
def chkT (k : Ck) (sc : Scope) (t : List Nat) (e : Expr) : Bool := match t with
  | [i] => chkN k sc i e
  | is => match e with
    | .Tuple es _ _ => chkNs k sc is es
    | _ => false
def chkI (k : Ck) (sc : Scope) : Itr → Expr → Bool
  | .exp a, e => chkE k sc a e
  | .rng1 a, e => match e with
    | .Call (.Name x _) [a'] [] _ => decide (x = ("range" : Str)) && decide (x ∈ k.bis) && glB sc x && chkE k sc a a'
    | _ => false
  | .rng2 a b, e => match e with
    | .Call (.Name x _) [a', b'] [] _ => decide (x = ("range" : Str)) && decide (x ∈ k.bis) && glB sc x && chkE k sc a a' && chkE k sc b b'
    | _ => false
  | .enu a, e => match e with
    | .Call (.Name x _) [a'] [] _ => decide (x = ("enumerate" : Str)) && decide (x ∈ k.bis) && glB sc x && chkE k sc a a'
    | _ => false
  | _, _ => false
def enuB : Itr → Expr → Bool
  | .enu _, .Tuple _ _ _ => true
  | .enu _, _ => false
  | .zip _ _, .Tuple _ _ _ => true
  | .zip _ _, _ => false
  | .itm _, .Tuple _ _ _ => true
  | .itm _, _ => false
  | _, _ => true
mutual
def chkS (k : Ck) (sc : Scope) : S → Stmt → Bool
  | .asg t c, s => match s with
    | .Assign [tg] e _ => notComp e && notTup tg e && chkT k sc t tg && chkE k sc c e
    | _ => false
  | .par t cs, s => match t, s with
    | [i, j], .Assign [.Tuple [.Name x px, .Name y py] kt pt] (.Tuple [a, b] k2 pt2) _ => decide (k.N[i]? = some x) && decide (k.N[j]? = some y) && decide (i ≠ j) && locB sc x && locB sc y && decide (x ≠ y) && (decide (sc.kind = .function)) &&
      decide (px.line = pt.line) && decide (px.line = py.line) && !([a, b].all (foldedForSure 8)) && !([a, b].all (constantsAlone 8)) && chkEs k sc cs [a, b]
    | _, _ => false
  | .aug i op c, s => match s with
    | .AugAssign (.Name x _) op' e _ => decide (k.N[i]? = some x) && locB2 sc x && decide (op = op') && (decide (op = .Add) || decide (op = .Sub)) && chkE k sc c e
    | _ => false
  | .put _ _ _, _ => false
  | .fld _ _ _, _ => false
  | .exp c, s => match s with
    | .Expr e _ => notComp e && chkE k sc c e
    | _ => false
  | .mut _ _ _, _ => false
  | .ife c a b, s => match s with
    | .If e a' b' _ => chkE k sc c e && chkSs k sc a a' && chkSs k sc b b'
    | _ => false
  | .whl c b, s => match s with
    | .While e b' [] _ => chkE k sc c e && chkSs k sc b b'
    | _ => false
  | .frl t it b, s => match s with
    | .For tg e b' [] _ => enuB it tg && chkT k sc t tg && chkI k sc it e && chkSs k sc b b'
    | _ => false
  | .ret c, s => match s with
    | .Return (some e) _ => chkE k sc c e
    | _ => false
  | .retN, s => match s with
    | .Return none _ => true
    | _ => false
  | .brk, s => match s with
    | .Break _ => true
    | _ => false
  | .cnt, s => match s with
    | .Continue _ => true
    | _ => false
  | .pas, s => match s with
    | .Pass _ => true
    | _ => false
  | .rse _, _ => false
  | .frz _, _ => false
def chkSs (k : Ck) (sc : Scope) : Ss → List Stmt → Bool
  | .nil, ss => match ss with
    | [] => true
    | _ => false
  | .cons c cs, ss => match c with
    | .frz _ => chkSs k sc cs ss
    | c => match ss with
      | s :: ss => chkS k sc c s && chkSs k sc cs ss
      | _ => false
end

/-! ### the end of a statement -/
def PoS (C : Cc) (W : WX) (D : Ends) (g : Gs) : Out Fl → Prop
  | .ok M (.nx e) => ∀ σ H g', Ext g g' → g'.env = e → g'.mem = M → Rel C σ H g' → D.nx σ H
  | .ok M (.brk e) => ∀ σ H g', Ext g g' → g'.env = e → g'.mem = M → Rel C σ H g' → D.bk σ H
  | .ok M (.cnt e) => ∀ σ H g', Ext g g' → g'.env = e → g'.mem = M → Rel C σ H g' → D.ct σ H
  | .ok M (.ret d) => ∀ v σ H g', Ext g g' → g'.mem = M → Rel C σ H g' → RpV C g' v d → D.rt v H
  | .ex M x => ∀ cls d σ H g', Ext g g' → g'.mem = M → Rel C σ H g' → ExR C g' H x cls d → W cls d σ H
theorem PoS.ext {C : Cc} {W : WX} {D : Ends} {g g1 : Gs} {r : Out Fl} (p : PoS C W D g r) (e : Ext g g1) : PoS C W D g1 r := by
  cases r with
  | ok M f =>
    cases f with
    | nx en => exact fun σ H g' x y z R => p σ H g' (e.trans x) y z R
    | brk en => exact fun σ H g' x y z R => p σ H g' (e.trans x) y z R
    | cnt en => exact fun σ H g' x y z R => p σ H g' (e.trans x) y z R
    | ret d => exact fun v σ H g' x y R q => p v σ H g' (e.trans x) y R q
  | ex M x => exact fun c d σ H g' a z R q => p c d σ H g' (e.trans a) z R q
/-- a statement's reading by reckoning -/
def tX (C : Cc) (W : WX) (f : En → Mem → Option (Out Fl)) : TS := fun D σ H => ∃ g r, Rel C σ H g ∧ f g.env g.mem = some r ∧ PoS C W D g r
theorem _root_.L2.PS.wk {X : Cx} {e : Stmt} {t t' : TS} (h : PS X e t) (i : ∀ D σ H, t' D σ H → t D σ H) : PS X e t' := ⟨fun pins s σ H D I q => h.run pins s σ H D I (i D σ H q)⟩
theorem _root_.L2.PSs.wk {X : Cx} {e : List Stmt} {t t' : TS} (h : PSs X e t) (i : ∀ D σ H, t' D σ H → t D σ H) : PSs X e t' := ⟨fun pins s σ H D I q => h.run pins s σ H D I (i D σ H q)⟩
/-- an expression within a statement -/
theorem tX_bind {α β : Type} {Rp : Gs → β → α → Prop} {C : Cc} {W : WX} {D : Ends} {σ : Sl} {H : Hp} {g : Gs} {r : Out Fl} {f : En → Mem → Option (Out α)} {k : Mem → α → Option (Out Fl)} {Kk : β → Hp → Prop}
    (R : Rel C σ H g) (h : obind (f g.env g.mem) k = some r) (p : PoS C W D g r)
    (hk : ∀ b a H1 g1, Ext g g1 → g1.env = g.env → Rel C σ H1 g1 → Rp g1 b a → k g1.mem a = some r → PoS C W D g1 r → Kk b H1) : tR Rp C W f σ H Kk := by
  cases hf : f g.env g.mem with
  | none => rw [hf] at h; cases h
  | some o =>
    rw [hf] at h
    refine ⟨g, o, R, hf, ?_⟩
    cases o with
    | ok M a =>
      rintro b H1 g1 e he hm R1 q
      subst hm
      exact hk b a H1 g1 e he R1 q h (p.ext e)
    | ex M x =>
      have e2 : some (Out.ex M x) = some r := h
      injection e2 with e2
      subst e2
      exact fun cls d H' g' a b c R' q => p cls d σ H' g' a c R' q

/-! ### targets -/
structure SOk (X : Cx) (C : Cc) (k : Nat) (ck : Ck) (G : Sig) (W : WX) : Prop where
  x : XOk X C k ck G W
  po : PassesOwn (model X.prog X.w) X.A X.env X.xe
  all : ∀ y, X.fn y = true
section
variable {X : Cx} {C : Cc} {k : Nat} {ck : Ck} {G : Sig} {W : WX}
theorem chkN_ok {i : Nat} {e : Expr} (ok : SOk X C k ck G W) (h : chkN ck X.env.scope i e = true) : PG X e (gName i) := by
  cases e <;> first | (simp [chkN] at h; done) | skip
  simp only [chkN, Bool.and_eq_true, decide_eq_true_eq] at h
  exact pg_name ok.x.nd (by rw [ok.x.N]; exact h.1) (locB2_ok h.2) (.inl (ok.all _))
def gNames : List Nat → TGs
  | [] => gNil
  | i :: is => gCons (gName i) (gNames is)
theorem chkN_each {i : Nat} {e : Expr} {es : List Expr} {sc : Scope} {env : Env} (h : chkN ck sc i e = true) : assignEach (e :: es) env = (false, assign e env) :: assignEach es env := by
  cases e <;> first | (simp [chkN] at h; done) | skip
  simp only [assignEach]
theorem chkNs_ok (ok : SOk X C k ck G W) : ∀ {is : List Nat} {es : List Expr}, chkNs ck X.env.scope is es = true → PGs X es (gNames is) ∧ (assignEach es X.env).length = is.length ∧ (assignEach es X.env).findIdx? (·.1) = none
  | [], [], _ => ⟨pgs_nil, rfl, rfl⟩
  | [], _ :: _, h => by simp [chkNs] at h
  | _ :: _, [], h => by simp [chkNs] at h
  | i :: is, e :: es, h => by
    simp only [chkNs, Bool.and_eq_true] at h
    obtain ⟨h1, h2, h3⟩ := chkNs_ok ok h.2
    have he := chkN_each (env := X.env) (es := es) h.1
    refine ⟨pgs_cons (chkN_ok ok h.1) h1 (by rw [he]; rfl), by rw [he, List.length_cons, List.length_cons, h2], ?_⟩
    rw [he, List.findIdx?_cons]
    simp only [Bool.false_eq_true, if_false, h3]
    rfl
theorem PG.orM {X : Cx} {tg : Expr} {t u : TG} (a : PG X tg t) (b : PG X tg u) : PG X tg (fun v σ H Q => t v σ H Q ∨ u v σ H Q) := ⟨fun pins s σ H v w Q I r q => by
  rcases q with q | q
  · exact a.run pins s σ H v w Q I r q
  · exact b.run pins s σ H v w Q I r q⟩
/-- names take values -/
theorem names_leaf {H : Hp} {N : Sl → Hp → Prop} : ∀ {is : List Nat} {vs : List V} {ds : List D} {σ : Sl} {g : Gs}, Rel C σ H g → Reps C.K C.CA g.Z g.rho vs ds → ds.length = is.length →
    (∀ σ' , Rel C σ' H { g with env := (is.zip ds).foldl (fun e p => e.set p.1 (some p.2)) g.env } → N σ' H) → gNames is vs σ H N
  | [], [], [], σ, g, R, _, _, h => ⟨rfl, h σ R⟩
  | [], _, _ :: _, σ, g, R, _, hl, _ => by cases hl
  | _ :: _, _, [], σ, g, R, _, hl, _ => by cases hl
  | [], _ :: _, [], σ, g, R, r, _, _ => by cases r
  | i :: is, _, d :: ds, σ, g, R, .cons (v := v) (vs := vs) r t, hl, h =>
    ⟨v, vs, rfl, names_leaf (g := { g with env := g.env.set i (some d) }) (R.slot r) t (by simpa using hl) h⟩
def tgOf (K : PySem.W.Frag) : List Nat → TG
  | [i] => gName i
  | is => fun v σ H Q => gTup K is.length (gNames is) v σ H Q ∨ gLst K is.length (gNames is) v σ H Q
theorem chkT_ok {t : List Nat} {e : Expr} (ok : SOk X C k ck G W) (h : chkT ck X.env.scope t e = true) : PG X e (tgOf X.K t) := by
  unfold chkT at h
  split at h
  · exact chkN_ok ok h
  · rename_i hne
    cases e <;> first | (simp at h; done) | skip
    dsimp only at h
    obtain ⟨h1, h2, h3⟩ := chkNs_ok ok h
    have e : tgOf X.K t = fun v σ H Q => gTup X.K t.length (gNames t) v σ H Q ∨ gLst X.K t.length (gNames t) v σ H Q := by
      unfold tgOf
      split
      · exact absurd rfl (hne _)
      · rfl
    rw [e]
    exact PG.orM (pg_tup ok.x.calm h1 h2 h3) (pg_lst ok.x.calm h1 h2 h3)
theorem tg_leaf {H : Hp} {N : Sl → Hp → Prop} {t : List Nat} {v : V} {d : D} {σ : Sl} {g : Gs} {env' : En} (R : Rel C σ H g) (r : RpV C g v d) (hb : bindT g.mem t d g.env = some env') (h : ∀ σ', Rel C σ' H { g with env := env' } → N σ' H) : tgOf C.K t v σ H N := by
  unfold bindT at hb
  split at hb
  · injection hb with hb
    subst hb
    exact h _ (R.slot r)
  · rename_i hne
    have e : tgOf C.K t = fun v σ H Q => gTup C.K t.length (gNames t) v σ H Q ∨ gLst C.K t.length (gNames t) v σ H Q := by
      unfold tgOf
      split
      · exact absurd rfl (hne _)
      · rfl
    rw [e]
    have s := see_sh R r
    split at hb
    · rename_i ds hs
      rw [hs] at s
      split at hb
      · rename_i hl
        injection hb with hb
        subst hb
        cases s with
        | tup h1 r1 => exact .inl ⟨_, _, rfl, SqT.of h1, by rw [r1.length]; exact hl, names_leaf R r1 hl h⟩
      · cases hb
    · rename_i ds hs
      rw [hs] at s
      split at hb
      · rename_i hl
        injection hb with hb
        subst hb
        cases s with
        | lst h1 r1 => exact .inr ⟨_, _, rfl, SqL.of h1, by rw [r1.length]; exact hl, names_leaf R r1 hl h⟩
      · cases hb
    · cases hb

/-! ### plain statements -/
theorem x_nil : PSs X [] (tX C W fun env M => exs G 0 .nil env M) := pss_nil.wk fun D σ H q => by
  obtain ⟨g, r, R, hg, p⟩ := q
  simp only [exs, Option.some.injEq] at hg
  subst hg
  exact p σ H g (Ext.refl _) rfl rfl R
theorem swaps_no {e : Expr} {o : Option Expr} {l : Nat} {env : Env} (h : notComp e = true) : swapsWith e o l env = pure false := by
  cases e <;> first | rfl | (simp [notComp] at h)
theorem swaps1_no {tg e : Expr} {l : Nat} {env : Env} (h : notComp e = true) : swapsWithSole [tg] e l env = pure false := by
  show swapsWith e (some tg) l env = pure false
  exact swaps_no h
theorem stores_no {tg e : Expr} {env : Env} (h : notTup tg e = true) : swappedStores [tg] e env = pure none := by
  cases e
  case Tuple vs k p =>
    cases tg <;> first | rfl | (simp [notTup] at h; done) | skip
    rename_i ts k2 p2
    have h' : ((!(ts.length == 2 || ts.length == 3)) || (vs.all (foldedForSure 8) && !vs.any fun | .Starred .. => true | _ => false)) = true := h
    rw [Bool.or_eq_true] at h'
    unfold swappedStores
    simp only
    rcases h' with h' | h'
    · simp only [h', Bool.true_or, if_true]
    · rw [Bool.and_eq_true] at h'
      simp only [h'.1, if_true]
      repeat (first | rfl | split)
  all_goals (unfold swappedStores; cases tg <;> rfl)
theorem chkT_each {t : List Nat} {e : Expr} {sc : Scope} {env : Env} (h : chkT ck sc t e = true) : (assignEach [e] env).map (·.2) = [assign e env] := by
  cases e <;> first | rfl | skip
  unfold chkT at h
  split at h
  · simp [chkN] at h
  · cases h
theorem x_asg {n : Nat} {t : List Nat} {c : E} {tg e : Expr} {pos : Pos} (ok : SOk X C k ck G W) (h1 : notComp e = true) (h2 : notTup tg e = true) (h3 : chkT ck X.env.scope t tg = true) (he : SE X C G W e c) : PS X (.Assign [tg] e pos) (tX C W fun env M => ex G n (.asg t c) env M) := by
  refine (ps_asg he.1 (chkT_ok ok h3) (swaps1_no h1) (stores_no h2) (chkT_each h3)).wk fun D σ H q => ?_
  obtain ⟨g, r, R, hg, p⟩ := q
  simp only [ex] at hg
  refine tX_bind R hg p fun v d H1 g1 e1 he1 R1 r1 h1 p1 => ?_
  simp only [Option.map_eq_some_iff] at h1
  obtain ⟨env', hb, hr⟩ := h1
  subst hr
  rw [ok.x.K]
  rw [← he1] at hb
  exact tg_leaf R1 r1 hb fun σ' R' => p1 σ' H1 { g1 with env := env' } ⟨rfl, fun _ _ z => z, fun _ _ z => z⟩ rfl rfl R'
theorem set2 {α : Type} {l : List α} {i j : Nat} {a b : α} (h : i ≠ j) : (l.set i a).set j b = (l.set j b).set i a := List.set_comm a b h
theorem x_par {n : Nat} {i j : Nat} {cs : Es} {x y : Str} {px py pt pt2 pos : Pos} {kt k2 : Nat} {a b : Expr} (ok : SOk X C k ck G W)
    (h : chkS ck X.env.scope (.par [i, j] cs) (.Assign [.Tuple [.Name x px, .Name y py] kt pt] (.Tuple [a, b] k2 pt2) pos) = true) (ha : SA X C G W [a, b] cs) :
    PS X (.Assign [.Tuple [.Name x px, .Name y py] kt pt] (.Tuple [a, b] k2 pt2) pos) (tX C W fun env M => ex G n (.par [i, j] cs) env M) := by
  simp only [chkS, Bool.and_eq_true, decide_eq_true_eq, Bool.not_eq_true'] at h
  obtain ⟨⟨⟨⟨⟨⟨⟨⟨⟨⟨⟨h1, h2⟩, h3⟩, h4⟩, h5⟩, h6⟩, h7⟩, h8⟩, h9⟩, h10⟩, h11⟩, h12⟩ := h
  have hx := locB_ok h4
  have hy := locB_ok h5
  have hw : swappedStores [.Tuple [.Name x px, .Name y py] kt pt] (.Tuple [a, b] k2 pt2) X.env = pure (some [x, y]) := by
    have kx : X.env.kindOf x = some .local := hx
    have ky : X.env.kindOf y = some .local := hy
    have hb : X.env.blockKind = .function := by unfold Env.blockKind; rw [h7]; rfl
    have nst : (∀ v q, a ≠ .Starred v q) ∧ ∀ v q, b ≠ .Starred v q := by
      cases cs with
      | nil => simp [chkEs] at h12
      | cons c cs =>
        cases cs with
        | nil => simp [chkEs] at h12
        | cons c2 cs =>
          have h' : (_ && (_ && _)) = true := h12
          rw [Bool.and_eq_true, Bool.and_eq_true] at h'
          have ns : ∀ (c : E) (e : Expr), chkE ck X.env.scope c e = true → ∀ v q, e ≠ .Starred v q := fun c e he v q z => by
            subst z
            cases c <;> simp [chkE] at he
          exact ⟨ns c a h'.1, ns c2 b h'.2.1⟩
    unfold swappedStores
    simp only [List.length_cons, List.length_nil, hb, h10, h11]
    simp [kx, ky, h8, ← h9, h6, List.eraseDups_cons, Expr.pos, Ne.symm h6]
    intro h
    rcases h with h | h
    · cases a <;> first | exact absurd rfl (nst.1 _ _) | (simp at h)
    · cases b <;> first | exact absurd rfl (nst.2 _ _) | (simp at h)
  refine (ps_par ok.x.calm ok.x.nd (by rw [ok.x.N]; exact h1) (by rw [ok.x.N]; exact h2) h3 hx hy ha hw).wk fun D σ H q => ?_
  obtain ⟨g, r, R, hg, p⟩ := q
  simp only [ex] at hg
  refine tX_bind R hg p fun vs ds H1 g1 e1 he1 R1 r1 hk p1 => ?_
  split at hk
  · rename_i hl
    injection hk with hk
    subst hk
    cases r1 with
    | nil => cases hl
    | cons ra ta =>
      cases ta with
      | nil => cases hl
      | cons rb tb =>
        cases tb with
        | cons => cases hl
        | nil =>
          rename_i v d w e
          refine ⟨v, w, rfl, p1 _ H1 { g1 with env := (g1.env.set i (some d)).set j (some e) } ⟨rfl, fun _ _ z => z, fun _ _ z => z⟩ (by rw [he1]; rfl) rfl ?_⟩
          exact (R1.slot ra).slot (g := { g1 with env := g1.env.set i (some d) }) rb
  · cases hk
theorem x_exp {n : Nat} {c : E} {e : Expr} {pos : Pos} (h1 : notComp e = true) (he : SE X C G W e c) : PS X (.Expr e pos) (tX C W fun env M => ex G n (.exp c) env M) := by
  refine (ps_expr he.1 (swaps_no h1)).wk fun D σ H q => ?_
  obtain ⟨g, r, R, hg, p⟩ := q
  simp only [ex] at hg
  refine tX_bind R hg p fun v d H1 g1 e1 he1 R1 r1 hk p1 => ?_
  injection hk with hk
  subst hk
  exact p1 σ H1 g1 (Ext.refl _) he1 rfl R1
theorem x_ret {n : Nat} {c : E} {e : Expr} {pos : Pos} (he : SE X C G W e c) : PS X (.Return (some e) pos) (tX C W fun env M => ex G n (.ret c) env M) := by
  refine (ps_ret he.1).wk fun D σ H q => ?_
  obtain ⟨g, r, R, hg, p⟩ := q
  simp only [ex] at hg
  refine tX_bind R hg p fun v d H1 g1 e1 he1 R1 r1 hk p1 => ?_
  injection hk with hk
  subst hk
  exact p1 v σ H1 g1 (Ext.refl _) rfl R1 r1
theorem x_retN {n : Nat} {pos : Pos} : PS X (.Return none pos) (tX C W fun env M => ex G n .retN env M) := by
  refine ps_retN.wk fun D σ H q => ?_
  obtain ⟨g, r, R, hg, p⟩ := q
  simp only [ex, Option.some.injEq] at hg
  subst hg
  exact p _ σ H g (Ext.refl _) rfl R .non
theorem x_brk {n : Nat} {pos : Pos} : PS X (.Break pos) (tX C W fun env M => ex G n .brk env M) := by
  refine ps_break.wk fun D σ H q => ?_
  obtain ⟨g, r, R, hg, p⟩ := q
  simp only [ex, Option.some.injEq] at hg
  subst hg
  exact p σ H g (Ext.refl _) rfl rfl R
theorem x_cnt {n : Nat} {pos : Pos} : PS X (.Continue pos) (tX C W fun env M => ex G n .cnt env M) := by
  refine ps_continue.wk fun D σ H q => ?_
  obtain ⟨g, r, R, hg, p⟩ := q
  simp only [ex, Option.some.injEq] at hg
  subst hg
  exact p σ H g (Ext.refl _) rfl rfl R
theorem x_pas {n : Nat} {pos : Pos} : PS X (.Pass pos) (tX C W fun env M => ex G n .pas env M) := by
  refine ps_pass.wk fun D σ H q => ?_
  obtain ⟨g, r, R, hg, p⟩ := q
  simp only [ex, Option.some.injEq] at hg
  subst hg
  exact p σ H g (Ext.refl _) rfl rfl R
theorem x_ife {n : Nat} {c : E} {a b : Ss} {e : Expr} {a' b' : List Stmt} {pos : Pos} (he : SE X C G W e c) (ha : PSs X a' (tX C W fun env M => exs G n a env M)) (hb : PSs X b' (tX C W fun env M => exs G n b env M)) :
    PS X (.If e a' b' pos) (tX C W fun env M => ex G n (.ife c a b) env M) := by
  refine (ps_if he.2 ha hb).wk fun D σ H q => ?_
  obtain ⟨g, r, R, hg, p⟩ := q
  simp only [ex] at hg
  refine tX_bind R hg p fun t d H1 g1 e1 he1 R1 r1 hk p1 => ?_
  have e : d = .bl t := r1
  subst e
  rw [← he1] at hk
  cases t with
  | true => exact iteT ⟨g1, r, R1, hk, p1⟩
  | false => exact iteF ⟨g1, r, R1, hk, p1⟩
theorem x_cons {n : Nat} {c : S} {cs : Ss} {s : Stmt} {ss : List Stmt} (h : PS X s (tX C W fun env M => ex G n c env M)) (t : PSs X ss (tX C W fun env M => exs G n cs env M)) : PSs X (s :: ss) (tX C W fun env M => exs G n (.cons c cs) env M) := by
  refine (pss_cons h t).wk fun D σ H q => ?_
  obtain ⟨g, r, R, hg, p⟩ := q
  simp only [exs] at hg
  cases h0 : ex G n c g.env g.mem with
  | none => rw [h0] at hg; cases hg
  | some o =>
    rw [h0] at hg
    refine ⟨g, o, R, h0, ?_⟩
    cases o with
    | ex M x =>
      have e : some (Out.ex M x) = some r := hg
      injection e with e
      subst e
      exact p
    | ok M f =>
      rw [obind_ok] at hg
      cases f with
      | nx en =>
        intro σ' H' g' e1 e2 e3 R'
        subst e2 e3
        exact ⟨g', r, R', hg, p.ext e1⟩
      | brk en =>
        have e : some (Out.ok M (Fl.brk en)) = some r := hg
        injection e with e
        subst e
        exact p
      | cnt en =>
        have e : some (Out.ok M (Fl.cnt en)) = some r := hg
        injection e with e
        subst e
        exact p
      | ret d =>
        have e : some (Out.ok M (Fl.ret d)) = some r := hg
        injection e with e
        subst e
        exact p
/-! ### while -/
theorem x_whl {n : Nat} {c : E} {b : Ss} {e : Expr} {b' : List Stmt} {pos : Pos} (ok : SOk X C k ck G W) (he : SE X C G W e c) (hb : PSs X b' (tX C W fun env M => exs G n b env M)) : PS X (.While e b' [] pos) (tX C W fun env M => ex G n (.whl c b) env M) := by
  refine (ps_while ok.po he.2 hb).wk fun D σ H q => ?_
  obtain ⟨g0, r, R0, hg0, p0⟩ := q
  simp only [ex] at hg0
  refine ⟨fun m σ H => ∃ g, Rel C σ H g ∧ wloop (fun e M => ev G c true e M) (fun e M => exs G n b e M) m g.env g.mem = some r ∧ PoS C W D g r, ⟨n, g0, R0, hg0, p0⟩, ?_⟩
  rintro m σ H ⟨g, R, hg, p⟩
  cases m with
  | zero => simp only [wloop] at hg; cases hg
  | succ m =>
    simp only [wloop] at hg
    refine tX_bind R hg p fun t d H1 g1 e1 he1 R1 r1 hk p1 => ?_
    have e : d = .bl t := r1
    subst e
    cases t with
    | false =>
      have e : some (Out.ok g1.mem (Fl.nx g.env)) = some r := hk
      injection e with e
      subst e
      exact iteF (p1 σ H1 g1 (Ext.refl _) he1 rfl R1)
    | true =>
      refine iteT ⟨fun σ' H' => ∃ g, Rel C σ' H' g ∧ wloop (fun e M => ev G c true e M) (fun e M => exs G n b e M) m g.env g.mem = some r ∧ PoS C W D g r, fun σ' H' h => ⟨m, Nat.lt_succ_self _, h⟩, ?_⟩
      rw [← he1] at hk
      cases h0 : exs G n b g1.env g1.mem with
      | none => simp only [h0] at hk; cases hk
      | some o =>
        simp only [h0] at hk
        refine ⟨g1, o, R1, h0, ?_⟩
        cases o with
        | ex M x =>
          have e : some (Out.ex M x) = some r := hk
          injection e with e
          subst e
          exact p1
        | ok M f =>
          rw [obind_ok] at hk
          cases f with
          | nx en => exact fun σ' H' g' a1 a2 a3 R' => by subst a2 a3; exact ⟨g', R', hk, p1.ext a1⟩
          | cnt en => exact fun σ' H' g' a1 a2 a3 R' => by subst a2 a3; exact ⟨g', R', hk, p1.ext a1⟩
          | brk en =>
            have e : some (Out.ok M (Fl.nx en)) = some r := hk
            injection e with e
            subst e
            exact p1
          | ret d =>
            have e : some (Out.ok M (Fl.ret d)) = some r := hk
            injection e with e
            subst e
            exact p1
/-! ### for -/
structure Wk (C : Cc) (g0 : Gs) (J : It) (ds : List D) : Prop where
  go : ∀ (i : Nat) (σ : Sl) H g, Ext g0 g → Rel C σ H g → i < ds.length → J.go i H
  yl : ∀ (i : Nat) (σ : Sl) H g x H', Ext g0 g → Rel C σ H g → i < ds.length → J.yld i H x H' → ∃ g' d, Ext g g' ∧ g'.env = g.env ∧ g'.mem = g.mem ∧ Rel C σ H' g' ∧ ds[i]? = some d ∧ RpV C g' x d
  st : ∀ (σ : Sl) H g, Ext g0 g → Rel C σ H g → J.stop ds.length H
abbrev RpI (C : Cc) : Gs → It → List D → Prop := fun g J ds => Wk C g J ds
theorem x_frl {n : Nat} {t : List Nat} {it : Itr} {b : Ss} {tg e : Expr} {b' : List Stmt} {pos : Pos} (ok : SOk X C k ck G W) (hs : ∀ x, foldedSetIterable e X.env x = pure x) (ht : chkT ck X.env.scope t tg = true) (hi : PI X tg e (tR (RpI C) C W fun env M => iv G it env M))
    (hb : PSs X b' (tX C W fun env M => exs G n b env M)) : PS X (.For tg e b' [] pos) (tX C W fun env M => ex G n (.frl t it b) env M) := by
  refine (ps_for ok.po ok.x.calm hi (chkT_ok ok ht) hb hs).wk fun D σ H q => ?_
  obtain ⟨g0, r, R0, hg0, p0⟩ := q
  simp only [ex] at hg0
  refine tX_bind R0 hg0 p0 fun J ds H1 g1 e1 he1 R1 wk hk p1 => ?_
  refine ⟨fun i m σ H => m = ds.length - i ∧ i ≤ ds.length ∧ ∃ g, Ext g1 g ∧ Rel C σ H g ∧ floop t (fun e M => exs G n b e M) (ds.drop i) g.env g.mem = some r ∧ PoS C W D g r, ⟨ds.length, by simp, Nat.zero_le _, g1, Ext.refl _, R1, by rw [he1]; exact hk, p1⟩, ?_⟩
  rintro i m σ H ⟨rfl, hil, g, e2, R, hg, p⟩
  by_cases hlt : i < ds.length
  · refine .inr ⟨wk.go i σ H g e2 R hlt, fun σ' H' => ∃ g, Ext g1 g ∧ Rel C σ' H' g ∧ floop t (fun e M => exs G n b e M) (ds.drop (i + 1)) g.env g.mem = some r ∧ PoS C W D g r, fun σ' H' h => ⟨ds.length - (i + 1), by omega, rfl, hlt, h⟩, fun x H' y => ?_⟩
    obtain ⟨g', d, a1, a2, a3, R', hd, rd'⟩ := wk.yl i σ H g x H' e2 R hlt y
    have hdr : ds.drop i = d :: ds.drop (i + 1) := by
      rw [List.drop_eq_getElem_cons hlt]
      have e9 : ds[i]? = some ds[i] := List.getElem?_eq_getElem hlt
      rw [hd] at e9
      rw [Option.some.inj e9]
    rw [hdr] at hg
    simp only [floop] at hg
    split at hg
    · cases hg
    · rename_i env' hbt
      rw [ok.x.K]
      rw [← a2, ← a3] at hbt
      refine tg_leaf R' rd' hbt fun σ2 R2 => ?_
      rw [← a3] at hg
      cases h0 : exs G n b env' g'.mem with
      | none => simp only [h0] at hg; cases hg
      | some o =>
        simp only [h0] at hg
        have p' : PoS C W D { g' with env := env' } r := p.ext (a1.trans ⟨rfl, fun _ _ z => z, fun _ _ z => z⟩)
        refine ⟨{ g' with env := env' }, o, R2, h0, ?_⟩
        cases o with
        | ex M x =>
          have e : some (Out.ex M x) = some r := hg
          injection e with e
          subst e
          exact p'
        | ok M f =>
          rw [obind_ok] at hg
          have e3 : Ext g1 { g' with env := env' } := (e2.trans a1).trans ⟨rfl, fun _ _ z => z, fun _ _ z => z⟩
          cases f with
          | nx en => exact fun σ' H' g' b1 b2 b3 R' => by subst b2 b3; exact ⟨g', e3.trans b1, R', hg, p'.ext b1⟩
          | cnt en => exact fun σ' H' g' b1 b2 b3 R' => by subst b2 b3; exact ⟨g', e3.trans b1, R', hg, p'.ext b1⟩
          | brk en =>
            have e : some (Out.ok M (Fl.nx en)) = some r := hg
            injection e with e
            subst e
            exact p'
          | ret d =>
            have e : some (Out.ok M (Fl.ret d)) = some r := hg
            injection e with e
            subst e
            exact p'
  · have e : i = ds.length := by omega
    subst e
    rw [List.drop_length] at hg
    simp only [floop, Option.some.injEq] at hg
    subst hg
    exact .inl ⟨wk.st σ H g e2 R, p σ H g (Ext.refl _) rfl rfl R⟩
end
end Mn

set_option Elab.async false
set_option linter.all false
set_option maxRecDepth 100000
set_option maxHeartbeats 2000000
/-! Mn9: what is walked; every statement; a def. -/
namespace Mn
open PySem PySem.Spec PyProof.Rows L2
section
variable {X : Cx} {C : Cc} {k : Nat} {ck : Ck} {G : Sig} {W : WX}
theorem PI.orM {tg e : Expr} {t u : TI} (a : PI X tg e t) (b : PI X tg e u) : PI X tg e (fun σ H R => t σ H R ∨ u σ H R) := ⟨fun pins s σ H R I q => by
  rcases q with q | q
  · exact a.run pins s σ H R I q
  · exact b.run pins s σ H R I q⟩
theorem PI.wk {tg e : Expr} {t u : TI} (a : PI X tg e t) (h : ∀ σ H R, u σ H R → t σ H R) : PI X tg e u := ⟨fun pins s σ H R I q => a.run pins s σ H R I (h σ H R q)⟩
theorem wk_lst {K : PySem.W.Frag} {g0 : Gs} {a : Addr} {vs : List V} {ds : List D} (hK : C.K = K) (hz : g0.Z a = some (.lst vs)) (r : Reps C.K C.CA g0.Z g0.rho vs ds) : Wk C g0 (Itl K a) ds where
  go := fun i σ H g e R hi => by
    have h1 : H a = some (.lst vs) := R.leZ.lst (e.z _ _ hz)
    have hl := r.length
    exact ⟨vs, vs[i], SqL.of h1, List.getElem?_eq_getElem (by omega)⟩
  yl := fun i σ H g x H' e R hi y => by
    obtain ⟨rfl, y⟩ := y
    have h1 : H' a = some (.lst vs) := R.leZ.lst (e.z _ _ hz)
    obtain ⟨d, e1, r1⟩ := (r.ext e).getV (y vs (SqL.of h1))
    exact ⟨g, d, Ext.refl _, rfl, rfl, R, e1, r1⟩
  st := fun σ H g e R => by
    have h1 : H a = some (.lst vs) := R.leZ.lst (e.z _ _ hz)
    exact ⟨vs, SqL.of h1, Nat.le_of_eq r.length⟩
theorem wk_tup {K : PySem.W.Frag} {g0 : Gs} {a : Addr} {vs : List V} {ds : List D} (hz : g0.Z a = some (.tup vs)) (r : Reps C.K C.CA g0.Z g0.rho vs ds) : Wk C g0 (Itt K a) ds where
  go := fun i σ H g e R hi => by
    have h1 : H a = some (.tup vs) := R.leZ.tup (e.z _ _ hz)
    have hl := r.length
    exact ⟨vs, vs[i], SqT.of h1, List.getElem?_eq_getElem (by omega)⟩
  yl := fun i σ H g x H' e R hi y => by
    obtain ⟨rfl, y⟩ := y
    have h1 : H' a = some (.tup vs) := R.leZ.tup (e.z _ _ hz)
    obtain ⟨d, e1, r1⟩ := (r.ext e).getV (y vs (SqT.of h1))
    exact ⟨g, d, Ext.refl _, rfl, rfl, R, e1, r1⟩
  st := fun σ H g e R => by
    have h1 : H a = some (.tup vs) := R.leZ.tup (e.z _ _ hz)
    exact ⟨vs, SqT.of h1, Nat.le_of_eq r.length⟩
theorem wk_scr {g0 : Gs} {a : Addr} {ns : List Int} (hz : SqL C.K g0.Z a (ns.map V.int)) : Wk C g0 (Itl C.K a) (ns.map D.int) where
  go := fun i σ H g e R hi => by
    have h1 : SqL C.K H a (ns.map V.int) := R.leZ.sql (sql_mono e.z hz)
    rw [List.length_map] at hi
    exact ⟨_, .int ns[i], h1, by rw [List.getElem?_map, List.getElem?_eq_getElem hi]; rfl⟩
  yl := fun i σ H g x H' e R hi y => by
    obtain ⟨rfl, y⟩ := y
    have h1 : SqL C.K H' a (ns.map V.int) := R.leZ.sql (sql_mono e.z hz)
    obtain ⟨d, e1, r1⟩ := (reps_ints (K := C.K) (CA := C.CA) (Z := g.Z) (rho := g.rho) ns).getV (y _ h1)
    exact ⟨g, d, Ext.refl _, rfl, rfl, R, e1, r1⟩
  st := fun σ H g e R => by
    have h1 : SqL C.K H a (ns.map V.int) := R.leZ.sql (sql_mono e.z hz)
    exact ⟨_, h1, by rw [List.length_map, List.length_map]; exact Nat.le_refl _⟩
theorem wk_str {g0 : Gs} {z : Str} : Wk C g0 (Its z) (z.cps.toList.map fun c => .str ⟨#[c]⟩) where
  go := fun i σ H g e R hi => by
    rw [List.length_map, Array.length_toList] at hi
    exact hi
  yl := fun i σ H g x H' e R hi y => by
    obtain ⟨rfl, c, e1, rfl⟩ := y
    refine ⟨g, .str ⟨#[c]⟩, Ext.refl _, rfl, rfl, R, ?_, .str _⟩
    rw [List.getElem?_map, Array.getElem?_toList, e1]; rfl
  st := fun σ H g e R => by
    show z.cps.size ≤ (z.cps.toList.map fun c => D.str ⟨#[c]⟩).length
    rw [List.length_map, Array.length_toList]; exact Nat.le_refl _
theorem wk_rng {g0 : Gs} {lo : Int} {n : Nat} : Wk C g0 (L2.Itr lo n) ((List.range n).map fun k => .int (lo + (k : Nat))) where
  go := fun i σ H g e R hi => by
    rw [List.length_map, List.length_range] at hi
    exact hi
  yl := fun i σ H g x H' e R hi y => by
    obtain ⟨rfl, rfl⟩ := y
    rw [List.length_map, List.length_range] at hi
    exact ⟨g, .int (lo + (i : Nat)), Ext.refl _, rfl, rfl, R, by rw [List.getElem?_map, List.getElem?_range hi]; rfl, .int _⟩
  st := fun σ H g e R => by
    show n ≤ _
    rw [List.length_map, List.length_range]; exact Nat.le_refl _
theorem wk_enu {g0 : Gs} {a : Addr} {vs : List V} {ds : List D} (hz : g0.Z a = some (.lst vs)) (r : Reps C.K C.CA g0.Z g0.rho vs ds) : Wk C g0 (Ite C.K a) (((List.range ds.length).zip ds).map fun p => .tup [.int (p.1 : Nat), p.2]) where
  go := fun i σ H g e R hi => by
    have h1 : H a = some (.lst vs) := R.leZ.lst (e.z _ _ hz)
    have hl := r.length
    rw [List.length_map, List.length_zip, List.length_range, Nat.min_self] at hi
    exact ⟨vs, vs[i], SqL.of h1, List.getElem?_eq_getElem (by omega)⟩
  yl := fun i σ H g x H' e R hi y => by
    obtain ⟨T, x0, rfl, hT, rfl, y⟩ := y
    have h1 : H a = some (.lst vs) := R.leZ.lst (e.z _ _ hz)
    obtain ⟨d, e1, r1⟩ := (r.ext e).getV (y vs (SqL.of h1))
    rw [List.length_map, List.length_zip, List.length_range, Nat.min_self] at hi
    have ez := ext_z (g := g) (o := .tup [.int (i : Nat), x0]) (R.freshZ hT)
    refine ⟨{ g with Z := upd g.Z T (.tup [.int (i : Nat), x0]) }, .tup [.int (i : Nat), d], ez, rfl, rfl, R.lay hT _, ?_, .tup (show upd g.Z T _ T = _ from upd_same) (.cons (.int _) (.cons (r1.ext ez) .nil))⟩
    have ezip : ((List.range ds.length).zip ds)[i]? = some (i, d) := List.getElem?_zip_eq_some.mpr ⟨List.getElem?_range hi, e1⟩
    rw [List.getElem?_map, ezip]; rfl
  st := fun σ H g e R => by
    have h1 : H a = some (.lst vs) := R.leZ.lst (e.z _ _ hz)
    have hl := r.length
    exact ⟨vs, SqL.of h1, by rw [List.length_map, List.length_zip, List.length_range, Nat.min_self]; exact Nat.le_of_eq hl⟩
theorem fold_no {c : Itr} {e : Expr} {sc : Scope} {env : Env} (h : chkI ck sc c e = true) (x : Value) : foldedSetIterable e env x = pure x := by
  cases e <;> first | rfl | skip
  cases c with
  | exp a => cases a <;> simp [chkI, chkE] at h
  | _ => simp [chkI] at h
theorem i_exp {c : E} {tg e : Expr} (ok : XOk X C k ck G W) (he : SE X C G W e c) : PI X tg e (tR (RpI C) C W fun env M => iv G (.exp c) env M) := by
  refine PI.wk (PI.orM (pi_list he.1) (PI.orM (pi_tup he.1) (pi_str he.1))) fun σ H R q => ?_
  obtain ⟨g, r, R0, hg, p⟩ := q
  simp only [iv] at hg
  rw [ok.K]
  cases h0 : ev G c false g.env g.mem with
  | none => rw [h0] at hg; cases hg
  | some o =>
    rw [h0] at hg
    cases o with
    | ex M x =>
      have e : some (Out.ex M x) = some r := hg
      injection e with e
      subst e
      exact .inl ⟨g, .ex M x, R0, h0, p⟩
    | ok M x =>
      rw [obind_ok] at hg
      simp only [Option.map_eq_some_iff] at hg
      obtain ⟨ds, hd, hr⟩ := hg
      subst hr
      cases x <;> simp only [itD, Option.some.injEq] at hd <;> first | (cases hd; done) | skip
      case str z =>
        subst hd
        refine .inr (.inr ⟨g, _, R0, h0, fun v H' g' e1 e2 e3 R' rv => ?_⟩)
        cases rv
        exact ⟨z, rfl, p _ H' g' e1 e2 e3 R' wk_str⟩
      case tup ds' =>
        subst hd
        refine .inr (.inl ⟨g, _, R0, h0, fun v H' g' e1 e2 e3 R' rv => ?_⟩)
        cases rv with
        | tup hz r1 => exact ⟨_, rfl, ⟨_, SqT.of (R'.leZ.tup hz)⟩, p _ H' g' e1 e2 e3 R' (wk_tup hz r1)⟩
      case lst ds' =>
        subst hd
        refine .inl ⟨g, _, R0, h0, fun v H' g' e1 e2 e3 R' rv => ?_⟩
        cases rv with
        | lst hz r1 => exact ⟨_, rfl, ⟨_, SqL.of (R'.leZ.lst hz)⟩, p _ H' g' e1 e2 e3 R' (wk_lst rfl hz r1)⟩
      case scr ns =>
        subst hd
        refine .inl ⟨g, _, R0, h0, fun v H' g' e1 e2 e3 R' rv => ?_⟩
        cases rv with
        | scr hz => exact ⟨_, rfl, ⟨_, R'.leZ.sql hz⟩, p _ H' g' e1 e2 e3 R' (wk_scr hz)⟩
theorem i_rng1 {a : E} {tg a' : Expr} {x : Str} {q pos : Pos} (ok : XOk X C k ck G W) (hx : x = ("range" : Str)) (hb : x ∈ ck.bis) (hg : glB X.env.scope x = true) (hc : chkE ck X.env.scope a a' = true) (ha : SE X C G W a' a) :
    PI X tg (.Call (.Name x q) [a'] [] pos) (tR (RpI C) C W fun env M => iv G (.rng1 a) env M) := by
  obtain ⟨g1, g2, g3⟩ := glB_ok hg
  have hm := ok.bi x hb
  subst hx
  refine PI.wk (pi_range1 g1 hm (pa_cons ha.1 pa_nil (chk_star hc _ _)) (chk_star hc _ _)) fun σ H R q => ?_
  obtain ⟨g, r, R0, hg, p⟩ := q
  simp only [iv] at hg
  refine tR_bind R0 hg p fun v d H1 g1 e1 he1 R1 r1 hk p1 => ?_
  cases r1 <;> simp only at hk <;> first | (cases hk; done) | skip
  split at hk
  · rename_i j hl
    injection hk with hk
    subst hk
    refine ⟨j, rfl, hl.1, hl.2, p1 _ H1 g1 (Ext.refl _) rfl rfl R1 ?_⟩
    have w := wk_rng (C := C) (g0 := g1) (lo := 0) (n := j.toNat)
    simp only [Int.zero_add] at w
    exact w
  · cases hk
theorem i_rng2 {a b : E} {tg a' b' : Expr} {x : Str} {q pos : Pos} (ok : XOk X C k ck G W) (hx : x = ("range" : Str)) (hb : x ∈ ck.bis) (hg : glB X.env.scope x = true) (hc : chkE ck X.env.scope a a' = true) (hd : chkE ck X.env.scope b b' = true) (ha : SE X C G W a' a) (hb2 : SE X C G W b' b) :
    PI X tg (.Call (.Name x q) [a', b'] [] pos) (tR (RpI C) C W fun env M => iv G (.rng2 a b) env M) := by
  obtain ⟨g1, g2, g3⟩ := glB_ok hg
  have hm := ok.bi x hb
  subst hx
  refine PI.wk (pi_range2 g1 hm (pa_cons ha.1 (pa_cons hb2.1 pa_nil (chk_star hd _ _)) (chk_star hc _ _)) (by rw [chk_star hc, chk_star hd]; rfl) (chk_star hd _ _)) fun σ H R q => ?_
  obtain ⟨g, r, R0, hg, p⟩ := q
  simp only [iv] at hg
  refine two R0 hg p fun v u y z H2 g2 _ _ R2 rx ry h2 p2 => ?_
  cases rx <;> first | (simp at h2; done) | skip
  cases ry <;> first | (simp at h2; done) | skip
  rename_i i j
  dsimp only at h2
  split at h2
  · rename_i hl
    injection h2 with h2
    subst h2
    exact ⟨i, j, rfl, hl, p2 _ H2 g2 (Ext.refl _) rfl rfl R2 wk_rng⟩
  · cases h2
theorem i_enu {a : E} {elts : List Expr} {kk : Nat} {tpos : Pos} {a' : Expr} {x : Str} {q pos : Pos} (ok : XOk X C k ck G W) (hx : x = ("enumerate" : Str)) (hb : x ∈ ck.bis) (hg : glB X.env.scope x = true) (hc : chkE ck X.env.scope a a' = true) (ha : SE X C G W a' a) :
    PI X (.Tuple elts kk tpos) (.Call (.Name x q) [a'] [] pos) (tR (RpI C) C W fun env M => iv G (.enu a) env M) := by
  obtain ⟨g1, g2, g3⟩ := glB_ok hg
  have hm := ok.bi x hb
  subst hx
  refine PI.wk (pi_enum g1 hm (pa_cons ha.1 pa_nil (chk_star hc _ _)) (chk_star hc _ _)) fun σ H R q => ?_
  obtain ⟨g, r, R0, hg, p⟩ := q
  simp only [iv] at hg
  refine tR_bind R0 hg p fun v d H1 g1 e1 he1 R1 r1 hk p1 => ?_
  cases r1 <;> simp only at hk <;> first | (cases hk; done) | skip
  rename_i hz r1
  injection hk with hk
  subst hk
  exact ⟨_, _, rfl, SqL.of (R1.leZ.lst hz), by rw [ok.K]; exact p1 _ H1 g1 (Ext.refl _) rfl rfl R1 (wk_enu hz r1)⟩
theorem soundI {c : Itr} {tg e : Expr} (ok : XOk X C k ck G W) (hq : enuB c tg = true) (h : chkI ck X.env.scope c e = true) : PI X tg e (tR (RpI C) C W fun env M => iv G c env M) := by
  cases c with
  | exp a => exact i_exp ok (soundE a ok _ (by simpa [chkI] using h))
  | rng1 a =>
    simp only [chkI] at h
    split at h
    · simp only [Bool.and_eq_true, decide_eq_true_eq] at h
      exact i_rng1 ok h.1.1.1 h.1.1.2 h.1.2 h.2 (soundE a ok _ h.2)
    · cases h
  | rng2 a b =>
    simp only [chkI] at h
    split at h
    · simp only [Bool.and_eq_true, decide_eq_true_eq] at h
      exact i_rng2 ok h.1.1.1.1 h.1.1.1.2 h.1.1.2 h.1.2 h.2 (soundE a ok _ h.1.2) (soundE b ok _ h.2)
    · cases h
  | enu a =>
    simp only [chkI] at h
    split at h
    · simp only [Bool.and_eq_true, decide_eq_true_eq] at h
      cases tg with
      | Tuple es kk tp => exact i_enu ok h.1.1.1 h.1.1.2 h.1.2 h.2 (soundE a ok _ h.2)
      | _ => simp [enuB] at hq
    · cases h
  | _ => simp [chkI] at h
theorem x_aug {n : Nat} {i : Nat} {op : Operator} {c : E} {x : Str} {e : Expr} {pos pos' : Pos} (ok : SOk X C k ck G W) (h1 : ck.N[i]? = some x) (h2 : locB2 X.env.scope x = true) (h3 : op = .Add ∨ op = .Sub) (he : SE X C G W e c) :
    PS X (.AugAssign (.Name x pos') op e pos) (tX C W fun env M => ex G n (.aug i op c) env M) := by
  have key : ∀ f : Int → Int → Int, PIp X op (ipI f) → (∀ x y d, augR op x y = some d → ∃ i j, x = .int i ∧ y = .int j ∧ d = .int (f i j)) → PS X (.AugAssign (.Name x pos') op e pos) (tX C W fun env M => ex G n (.aug i op c) env M) := fun f hp hinv => by
    refine (ps_aug ok.x.nd (by rw [ok.x.N]; exact h1) (locB2_ok h2) he.1 hp (.inl (ok.all _))).wk fun D σ H q => ?_
    obtain ⟨g, r, R, hg, p⟩ := q
    simp only [ex] at hg
    split at hg
    · rename_i d hd
      obtain ⟨v, e1, rv⟩ := R.ev i d hd
      refine ⟨v, e1, tX_bind R hg p fun u y H1 g1 e2 he2 R1 r1 hk p1 => ?_⟩
      split at hk
      · rename_i z hz
        injection hk with hk
        subst hk
        obtain ⟨a, b, rfl, rfl, rfl⟩ := hinv _ _ _ hz
        cases rv
        cases r1
        exact ⟨a, b, rfl, rfl, p1 _ H1 { g1 with env := g1.env.set i (some (.int (f a b))) } ⟨rfl, fun _ _ z => z, fun _ _ z => z⟩ (by rw [he2]) rfl (R1.slot (.int _))⟩
      · cases hk
    · cases hg
  rcases h3 with rfl | rfl
  · exact key _ ip_add fun x y d h => by
      cases x <;> cases y <;> simp only [augR, Option.some.injEq] at h <;> first | (cases h; done) | exact ⟨_, _, rfl, rfl, h.symm⟩
  · exact key _ ip_sub fun x y d h => by
      cases x <;> cases y <;> simp only [augR, Option.some.injEq] at h <;> first | (cases h; done) | exact ⟨_, _, rfl, rfl, h.symm⟩
theorem x_frz {n : Nat} {i : Nat} {cs : Ss} {ss : List Stmt} (ok : SOk X C k ck G W) (t : PSs X ss (tX C W fun env M => exs G n cs env M)) : PSs X ss (tX C W fun env M => exs G n (.cons (.frz i) cs) env M) := by
  refine t.wk fun D σ H q => ?_
  obtain ⟨g, r, R, hg, p⟩ := q
  simp only [exs, ex] at hg
  split at hg
  · rename_i j hj
    split at hg
    · rename_i hnb
      split at hg
      · rename_i c hc
        split at hg
        · cases hg
        · rename_i hnd
          rw [obind_ok] at hg
          obtain ⟨v, e1, rv⟩ := R.ev i _ hj
          cases rv with
          | @ref _ a ha =>
            rcases R.cl j a c ha hc with ⟨z, _⟩ | ⟨hz, o, hh, co⟩
            · subst z; exact absurd rfl hnd
            · have R1 := R.still ha hc (Nat.le_trans ok.x.nb hnb) hh hz
              have ez := ext_z (g := g) (o := o) hz
              have rep : RpV C { g with Z := upd g.Z a o, mem := g.mem.set j .dead } (.ref a) c.d := by
                have hz' : upd g.Z a o a = some o := upd_same
                cases c with
                | dead => exact absurd rfl hnd
                | lst ds => cases o <;> first | exact co.elim | exact .lst hz' (Reps.mono ez.z ez.r (show Reps _ _ _ _ _ _ from co))
                | dic kds => cases o <;> first | exact co.elim | exact .dic (.inl hz') co.1 (Reps.mono ez.z ez.r co.2)
                | dct kds => cases o <;> first | exact co.elim | exact .dct (.inl hz') co.1 (Reps.mono ez.z ez.r co.2)
                | ins c fs => cases o <;> first | exact co.elim | (obtain ⟨r1, r2, r3⟩ := co; subst r1; exact .ins hz' r2 (Reps.mono ez.z ez.r r3))
              have R2 := R1.slot (i := i) rep
              have es : σ.set i (some (.ref a)) = σ := by
                obtain ⟨hl, e2⟩ := List.getElem?_eq_some_iff.mp e1
                rw [← e2]; exact List.set_getElem_self hl
              rw [es] at R2
              exact ⟨_, r, R2, hg, p.ext ⟨rfl, ez.z, fun _ _ z => z⟩⟩
      · cases hg
    · cases hg
  · cases hg
mutual
theorem soundS {n : Nat} : ∀ (c : S) (ok : SOk X C k ck G W) (s : Stmt), chkS ck X.env.scope c s = true → PS X s (tX C W fun env M => ex G n c env M)
  | .asg t c, ok, s, h => by
    simp only [chkS] at h
    split at h
    · simp only [Bool.and_eq_true] at h
      exact x_asg ok h.1.1.1 h.1.1.2 h.1.2 (soundE c ok.x _ h.2)
    · cases h
  | .par t cs, ok, s, h => by
    have h0 := h
    simp only [chkS] at h
    split at h
    · simp only [Bool.and_eq_true] at h
      exact x_par ok h0 (soundEs cs ok.x _ h.2)
    · cases h
  | .aug i op c, ok, s, h => by
    simp only [chkS] at h
    split at h
    · simp only [Bool.and_eq_true, Bool.or_eq_true, decide_eq_true_eq] at h
      obtain ⟨⟨⟨⟨h1, h2⟩, h3⟩, h4⟩, h5⟩ := h
      subst h3
      exact x_aug ok h1 h2 h4 (soundE c ok.x _ h5)
    · cases h
  | .put _ _ _, ok, s, h => by simp [chkS] at h
  | .fld _ _ _, ok, s, h => by simp [chkS] at h
  | .exp c, ok, s, h => by
    simp only [chkS] at h
    split at h
    · simp only [Bool.and_eq_true] at h
      exact x_exp h.1 (soundE c ok.x _ h.2)
    · cases h
  | .mut _ _ _, ok, s, h => by simp [chkS] at h
  | .ife c a b, ok, s, h => by
    simp only [chkS] at h
    split at h
    · simp only [Bool.and_eq_true] at h
      exact x_ife (soundE c ok.x _ h.1.1) (soundSs a ok _ h.1.2) (soundSs b ok _ h.2)
    · cases h
  | .whl c b, ok, s, h => by
    simp only [chkS] at h
    split at h
    · simp only [Bool.and_eq_true] at h
      exact x_whl ok (soundE c ok.x _ h.1) (soundSs b ok _ h.2)
    · cases h
  | .frl t it b, ok, s, h => by
    simp only [chkS] at h
    split at h
    · simp only [Bool.and_eq_true] at h
      exact x_frl ok (fold_no h.1.2) h.1.1.2 (soundI ok.x h.1.1.1 h.1.2) (soundSs b ok _ h.2)
    · cases h
  | .ret c, ok, s, h => by
    simp only [chkS] at h
    split at h
    · exact x_ret (soundE c ok.x _ h)
    · cases h
  | .retN, ok, s, h => by
    simp only [chkS] at h
    split at h
    · exact x_retN
    · cases h
  | .brk, ok, s, h => by
    simp only [chkS] at h
    split at h
    · exact x_brk
    · cases h
  | .cnt, ok, s, h => by
    simp only [chkS] at h
    split at h
    · exact x_cnt
    · cases h
  | .pas, ok, s, h => by
    simp only [chkS] at h
    split at h
    · exact x_pas
    · cases h
  | .rse _, ok, s, h => by simp [chkS] at h
  | .frz _, ok, s, h => by simp [chkS] at h
theorem soundSs {n : Nat} : ∀ (cs : Ss) (ok : SOk X C k ck G W) (ss : List Stmt), chkSs ck X.env.scope cs ss = true → PSs X ss (tX C W fun env M => exs G n cs env M)
  | .nil, ok, [], h => by
    refine pss_nil.wk fun D σ H q => ?_
    obtain ⟨g, r, R, hg, p⟩ := q
    simp only [exs, Option.some.injEq] at hg
    subst hg
    exact p σ H g (Ext.refl _) rfl rfl R
  | .nil, ok, _ :: _, h => by simp [chkSs] at h
  | .cons c cs, ok, ss, h => by
    by_cases hf : ∃ i, c = .frz i
    · obtain ⟨i, rfl⟩ := hf
      have h' : chkSs ck X.env.scope cs ss = true := by simpa [chkSs] using h
      exact x_frz ok (soundSs cs ok ss h')
    · cases ss with
      | nil =>
        cases c <;> first | (simp [chkSs] at h; done) | exact absurd ⟨_, rfl⟩ hf
      | cons s ss =>
        have h' : (chkS ck X.env.scope c s && chkSs ck X.env.scope cs ss) = true := by
          cases c <;> first | exact absurd ⟨_, rfl⟩ hf | simpa [chkSs] using h
        rw [Bool.and_eq_true] at h'
        exact x_cons (soundS c ok s h'.1) (soundSs cs ok ss h'.2)
end
end
/-! ### a def -/
/-- what a body's run comes to -/
def resF : Option (Out Fl) → Option Res
  | some (.ok M (.ret d)) => (rd M 8 d).map .ret
  | some (.ok _ (.nx _)) => some (.ret .non)
  | some (.ex _ ⟨c, []⟩) => some (.exc ⟨c, []⟩)
  | _ => none
/-- the names at the entry -/
def env0 (m : Nat) (ds : List D) : En := ds.map some ++ List.replicate (m - ds.length) none
/-- what is known of the module's text -/
structure Tx (P : Program) (w : World) (K : PySem.W.Frag) (mg : Str → Option Value) (base : Heap) (CA : Nat → Addr) (k : Nat) (ck : Ck) (G : Sig) : Prop where
  fn : ∀ (i : Nat) x, ck.fns[i]? = some x → Fnd P w K mg base CA k x (G.f i)
  bi : ∀ x ∈ ck.bis, mg x = none
  gl : ∀ x d, ck.gls.lookup x = some d → ∃ u, mg x = some u ∧ RelV d.flatV u
theorem reps_env {K : PySem.W.Frag} {CA : Nat → Addr} {Z : Hp} {m : Nat} {vs : List V} {ds : List D} (r : Reps K CA Z [] vs ds) : ∀ (i : Nat) d, (env0 m ds)[i]? = some (some d) → ∃ v, (vs.map some ++ List.replicate (m - vs.length) none)[i]? = some (some v) ∧ Rep K CA Z [] v d := fun i d e => by
  unfold env0 at e
  by_cases hi : i < ds.length
  · rw [List.getElem?_append_left (by rw [List.length_map]; exact hi), List.getElem?_map] at e
    cases hd : ds[i]? with
    | none => rw [hd] at e; cases e
    | some d' =>
      rw [hd] at e
      have e2 : d' = d := Option.some.inj (Option.some.inj e)
      subst e2
      obtain ⟨v, h1, h2⟩ := r.get hd
      refine ⟨v, ?_, h2⟩
      rw [List.getElem?_append_left (by rw [List.length_map, r.length]; exact hi), List.getElem?_map, h1]
      rfl
  · rw [List.getElem?_append_right (by rw [List.length_map]; omega)] at e
    have := List.mem_of_getElem? e
    rw [List.mem_replicate] at this
    cases this.2
theorem def_ok {P : Program} {w : World} {K : PySem.W.Frag} {mg : Str → Option Value} {base : Heap} {CA : Nat → Addr} {k : Nat} {ck : Ck} {G : Sig} {x qual : Str} {params : Arguments} {body : List Stmt} {scope : Scope} {f : Addr} {fd : FuncData} {ps : List Str} {cs : Ss} {γ : List D → Option Res}
    (T : Tx P w K mg base CA k ck G) (F : FunD K x qual params body scope [] [] f fd) (S : FnScope ck.N ps scope) (hc : chkSs ck scope cs body = true) (hnb : G.nb = 0)
    (h : ∀ ds r, γ ds = some r → ds.length = ps.length ∧ ∃ n, resF (exs G n cs (env0 ck.N.length ds) []) = some r) : FnOk P w K mg base (L2.CX P w) (k + 1) f fd ps (spF K CA γ) := by
  refine F.ok S (fun vs H Q E hs => ?_) (fun cdv A outer s H vs Q E hr hs => ?_)
  · obtain ⟨Z, ds, r, _, ra, hg, _⟩ := hs
    rw [ra.length]
    exact (h ds r hg).1
  · obtain ⟨Z, ds, r, hz, ra, hg, hpost⟩ := hs
    obtain ⟨hl, n, hrun⟩ := h ds r hg
    let C : Cc := ⟨K, CA, H, Z, []⟩
    have tk : Takes (cxOf (L2.CX P w) P w K mg base ck.N qual scope f cdv A outer s H E) (fun cls d _ H' => E cls d H') := takes_of rfl rfl rfl rfl
    have ok : SOk (cxOf (L2.CX P w) P w K mg base ck.N qual scope f cdv A outer s H E) C k ck G (fun cls d _ H' => E cls d H') :=
      ⟨⟨rfl, Nat.zero_le _, rfl, rfl, S.nd, hr, tk, T.fn, T.bi, T.gl⟩, passes_of rfl, fun _ => rfl⟩
    refine ⟨_, soundSs (n := n) cs ok body hc, ?_⟩
    let g0 : Gs := ⟨[], Z, [], env0 ck.N.length ds, []⟩
    have R0 : Rel C (start ck.N vs) H g0 := by
      refine ⟨fun a o e => .inl (hz a o e), fun a o e _ => .inl e, (fun a h => nomatch h), fun a o e => e, fun a o e => .inl e, rfl, List.nodup_nil, (fun i a e => nomatch (show (none : Option Addr) = some a from e)), (fun i a c e => nomatch (show (none : Option Addr) = some a from e)), fun i d e => ?_, ?_⟩
      · exact reps_env ra i d e
      · show (env0 ck.N.length ds).length = (vs.map some ++ List.replicate (ck.N.length - vs.length) none).length
        unfold env0
        simp only [List.length_append, List.length_map, List.length_replicate, ra.length]
    have exact_ : ∀ {σ' : Sl} {H' : Hp} {g' : Gs}, Ext g0 g' → Rel C σ' H' g' → (∀ a o, H a = some o → H' a = some o) ∧ (∀ a o, Z a = some o → live g' H' a = some o) ∧ (∀ a o, live g' H' a = some o → H' a = some o) ∧ (∀ a o, live g' H' a = some o → Z a = some o ∨ H a = none) := fun {σ' H' g'} e R' => by
      have nolk : ∀ {a o}, Here g'.Lk H' a o → H' a = some o := fun {a o} q => by
        rcases q with q | ⟨_, q, _⟩
        · exact q
        · rw [e.lk] at q; cases q
      refine ⟨fun a o q => nolk (R'.le0 a o q (fun z => nomatch z)), fun a o q => ?_, fun a o q => ?_, fun a o q => ?_⟩
      · have q2 : g'.Z a = some o := e.z a o q
        unfold live
        rw [if_pos (.inl (by rw [q2]; rfl))]
        exact nolk (R'.leZ a o q2)
      · unfold live at q
        split at q
        · exact q
        · cases q
      · unfold live at q
        split at q
        · rename_i hc'
          cases hz' : g'.Z a with
          | some u =>
            have q2 := nolk (R'.leZ a u hz')
            rw [q] at q2
            have e2 : o = u := Option.some.inj q2
            subst e2
            exact R'.zn a o hz'
          | none =>
            rcases hc' with hc' | hc'
            · rw [hz'] at hc'; cases hc'
            · obtain ⟨i, hi, e2⟩ := List.getElem_of_mem hc'
              rcases (R'.cz i a (by rw [List.getElem?_eq_getElem hi, e2])).2 with z | z
              · exact .inr z
              · exact nomatch z.1
        · cases q
    cases hex : exs G n cs (env0 ck.N.length ds) [] with
    | none => rw [hex] at hrun; cases hrun
    | some out =>
      rw [hex] at hrun
      refine ⟨g0, out, R0, hex, ?_⟩
      cases out with
      | ok M fl =>
        cases fl with
        | nx en =>
          simp only [resF, Option.some.injEq] at hrun
          subst hrun
          intro σ' H' g' e _ _ R'
          obtain ⟨h1, h2, h3, h4⟩ := exact_ e R'
          exact hpost .non H' (live g' H') h1 h2 h3 h4 .non
        | brk en => cases hrun
        | cnt en => cases hrun
        | ret d =>
          simp only [resF, Option.map_eq_some_iff] at hrun
          obtain ⟨d', hd, hr'⟩ := hrun
          subst hr'
          intro v σ' H' g' e hm R' rv
          subst hm
          obtain ⟨h1, h2, h3, h4⟩ := exact_ e R'
          exact hpost v H' (live g' H') h1 h2 h3 h4 (rd_rep R' 8 v d d' rv hd)
      | ex M xx =>
        obtain ⟨c, fs⟩ := xx
        cases fs with
        | cons => cases hrun
        | nil =>
          simp only [resF, Option.some.injEq] at hrun
          subst hrun
          intro cls d σ' H' g' e hm R' hx
          obtain ⟨h1, h2, h3, h4⟩ := exact_ e R'
          exact hpost cls d H' (live g' H') h1 h2 h3 h4 hx.1 hx.2.1 (fun ne => absurd rfl ne)
end Mn

set_option Elab.async false
set_option linter.all false
set_option maxRecDepth 100000
set_option maxHeartbeats 2000000
/-! Mn10: the head's facts, defs by data, the law's end. -/
namespace Mn
open PySem PySem.Spec PyProof.Rows L2

theorem Fnd.mono {P : Program} {w : World} {K : PySem.W.Frag} {mg : Str → Option Value} {base : Heap} {CA : Nat → Addr} {j k : Nat} {x : Str} {γ : List D → Option Res} (F : Fnd P w K mg base CA j x γ) (h : j ≤ k) : Fnd P w K mg base CA k x γ := by
  obtain ⟨f, fd, ps, F1, F2, F3, F4⟩ := F.ex
  exact ⟨f, fd, ps, F1.mono h, F2, F3, F4⟩
def sigOf (l : List (List D → Option Res)) : Sig := ⟨fun i ds => match l[i]? with
  | some f => f ds
  | none => none, 0⟩
def FndL (P : Program) (w : World) (K : PySem.W.Frag) (mg : Str → Option Value) (base : Heap) (CA : Nat → Addr) (k : Nat) : List Str → List (List D → Option Res) → Prop
  | [], [] => True
  | x :: xs, f :: fs => Fnd P w K mg base CA k x f ∧ FndL P w K mg base CA k xs fs
  | _, _ => False
theorem FndL.get {P : Program} {w : World} {K : PySem.W.Frag} {mg : Str → Option Value} {base : Heap} {CA : Nat → Addr} {k : Nat} : ∀ {xs : List Str} {fs : List (List D → Option Res)}, FndL P w K mg base CA k xs fs → ∀ (i : Nat) x, xs[i]? = some x → ∃ f, fs[i]? = some f ∧ Fnd P w K mg base CA k x f
  | [], [], _, i, x, e => by simp at e
  | _ :: _, [], h, _, _, _ => h.elim
  | [], _ :: _, h, _, _, _ => h.elim
  | y :: xs, f :: fs, h, 0, x, e => by
    have e' : y = x := by simpa using e
    subst e'
    exact ⟨f, rfl, h.1⟩
  | y :: xs, f :: fs, h, i + 1, x, e => by
    obtain ⟨g, h1, h2⟩ := FndL.get h.2 i x (by simpa using e)
    exact ⟨g, by simpa using h1, h2⟩
/-- what the head told -/
structure Kn (K : PySem.W.Frag) (mg : Str → Option Value) (fa : List He.Fa) (fn : List He.DefD) : Prop where
  says : He.SaysD fa fn K
  ns : ∃ h : Heap, K.In h ∧ h.Ns mainGlobals mg
section
variable {K : PySem.W.Frag} {mg : Str → Option Value} {fa : List He.Fa} {fn : List He.DefD}
theorem Kn.glo (Y : Kn K mg fa fn) {x : Str} (h : He.Fa.glo x ∈ fa) : mg x = some (.ref (He.ga K x)) := by
  obtain ⟨hp, X, G⟩ := Y.ns
  exact He.glo_ok X G (Y.says.facts h)
theorem Kn.free (Y : Kn K mg fa fn) {x : Str} (h : He.Fa.free x ∈ fa) : mg x = none := by
  obtain ⟨hp, X, G⟩ := Y.ns
  exact He.free_ok X G (Y.says.facts h)
def glFa : Str × D → List He.Fa
  | (x, .int i) => [.int x i]
  | (x, .str z) => [.str x z]
  | _ => []
def glsOk : List (Str × D) → Bool
  | [] => true
  | (_, .int _) :: r => glsOk r
  | (_, .str _) :: r => glsOk r
  | _ => false
theorem gls_of (Y : Kn K mg fa fn) : ∀ (gls : List (Str × D)), glsOk gls = true → (∀ f ∈ gls.flatMap glFa, f ∈ fa) → ∀ x d, gls.lookup x = some d → ∃ u, mg x = some u ∧ RelV d.flatV u
  | [], _, _, x, d, e => by cases e
  | (y, d') :: r, ho, h, x, d, e => by
    obtain ⟨hp, X, G⟩ := Y.ns
    rw [List.lookup_cons] at e
    rw [List.flatMap_cons] at h
    cases hb : (x == y) with
    | true =>
      rw [hb] at e
      have e1 : d' = d := Option.some.inj e
      subst e1
      have e2 := eq_of_beq hb
      subst e2
      cases d' <;> simp only [glsOk] at ho <;> first | (cases ho; done) | skip
      · obtain ⟨t, ht⟩ := He.int_ok X G (Y.says.facts (h _ (List.mem_append_left _ (List.mem_singleton.mpr rfl))))
        exact ⟨_, ht, t, rfl⟩
      · obtain ⟨t, ht⟩ := He.str_ok X G (Y.says.facts (h _ (List.mem_append_left _ (List.mem_singleton.mpr rfl))))
        exact ⟨_, ht, t, rfl⟩
    | false =>
      rw [hb] at e
      exact gls_of Y r (by cases d' <;> simp only [glsOk] at ho <;> first | (cases ho; done) | exact ho) (fun f hf => h f (List.mem_append_right _ hf)) x d e
/-- the facts that a text's tables lean on -/
def faOf (fns bis : List Str) (gls : List (Str × D)) : List He.Fa := fns.map He.Fa.glo ++ (bis.map He.Fa.free ++ gls.flatMap glFa)
theorem Kn.tx {P : Program} {w : World} {base : Heap} {CA : Nat → Addr} {k : Nat} {ck : Ck} {fs : List (List D → Option Res)} {fns bis : List Str} {gls : List (Str × D)} {fa' : List He.Fa} (Y : Kn K mg (faOf fns bis gls ++ fa') fn) (hg : glsOk gls = true) (h1 : ck.bis = bis) (h2 : ck.gls = gls) (F : FndL P w K mg base CA k ck.fns fs) : Tx P w K mg base CA k ck (sigOf fs) := by
  refine ⟨fun i x e => ?_, fun x hx => Y.free ?_, fun x d e => gls_of Y gls hg (fun f hf => List.mem_append_left _ (List.mem_append_right _ (List.mem_append_right _ hf))) x d (h2 ▸ e)⟩
  · obtain ⟨f, e1, e2⟩ := F.get i x e
    have : (sigOf fs).f i = f := by
      funext ds
      show (match fs[i]? with | some f => f ds | none => none) = f ds
      rw [e1]
    rw [this]; exact e2
  · exact List.mem_append_left _ (List.mem_append_right _ (List.mem_append_left _ (List.mem_map_of_mem (h1 ▸ hx))))
/-- how a def takes its things: by their places -/
def BindOf (d : He.DefD) (ps : List Str) : Prop := ∀ (kV doc pm : Value) (an : Option Addr) (cdv ct : Value) (us : List Value), us.length = ps.length → bindArgs (PySem.W.fnOf d.name d.qual d.params d.body d.scope .none kV doc pm an cdv ct) ⟨us, []⟩ = pure (ps.zip us)
theorem Kn.fnd {P : Program} {w : World} {base : Heap} {CA : Nat → Addr} {k : Nat} {ck : Ck} {G : Sig} {ps : List Str} {cs : Ss} {γ : List D → Option Res} {x : Str} (Y : Kn K mg fa fn) (d : He.DefD) (hd : d ∈ fn) (hat : He.fAd K d.at_ = He.ga K x) (hg : He.Fa.glo x ∈ fa) (e1 : d.dfl = []) (e2 : d.kwd = [])
    (T : Tx P w K mg base CA k ck G) (S : FnScope ck.N ps d.scope) (hc : chkSs ck d.scope cs d.body = true) (hnb : G.nb = 0) (hb : BindOf d ps)
    (h : ∀ ds r, γ ds = some r → ds.length = ps.length ∧ ∃ n, resF (exs G n cs (env0 ck.N.length ds) []) = some r) : Fnd P w K mg base CA (k + 1) x γ := by
  obtain ⟨fd, F⟩ := Y.says.defs hd
  have a1 : d.dvs K = [] := by unfold He.DefD.dvs; rw [e1]; rfl
  have a2 : d.kws K = [] := by unfold He.DefD.kws; rw [e2]; rfl
  rw [a1, a2] at F
  refine ⟨_, fd, ps, def_ok T F S hc hnb h, F.bindsN hb, ?_, F.kp⟩
  rw [hat]
  exact Y.glo hg
end
theorem mem_at {α : Type} {l : List α} {x : α} (i : Nat) (h : l[i]? = some x) : x ∈ l := List.mem_of_getElem? h
/-- a def without while: its run -/
def runOf (G : Sig) (cs : Ss) (p m : Nat) : List D → Option Res := fun ds => if ds.length = p then resF (exs G 0 cs (env0 m ds) []) else none
theorem run_ok {G : Sig} {cs : Ss} {p m : Nat} : ∀ ds r, runOf G cs p m ds = some r → ds.length = p ∧ ∃ n, resF (exs G n cs (env0 m ds) []) = some r := fun ds r h => by
  unfold runOf at h
  split at h
  · rename_i hl
    exact ⟨hl, 0, h⟩
  · cases h
/-- THE END: a law over the layer -/
theorem law_walk {l : PySem.W.OpenLaw} {n k m : Nat} {q : Program} {loose : List Str} {XP : (Str → Option Value) → Heap → Prop} {dr : DefRec} {fa : List He.Fa} {fn : List He.DefD} {ck : Ck} {G : Sig} {CN : Nat → Str} {x : Str} {cs : Ss} {γ : List D → Option Res} (d : He.DefD)
    (hn : l.most = some n) (hn2 : n ≤ sizeLine) (hdf : dr.params.defaults = []) (hr : Room (k + 1) callerA) (hd : d ∈ fn) (hnm : dr.name = ("law" : Str)) (hat : d.at_ = (("law" : Str), none)) (hg : He.Fa.glo ("law" : Str) ∈ fa) (e1 : d.dfl = []) (e2 : d.kwd = [])
    (S : FnScope ck.N [x] d.scope) (hc : chkSs ck d.scope cs d.body = true) (hnb : G.nb = 0) (hb : BindOf d [x])
    (T : ∀ (w : World) (K : PySem.W.Frag) (mg : Str → Option Value) (base : Heap), Kn K mg fa fn → Tx l.prog w K mg base (fun c => He.ga K (CN c)) k ck G)
    (h : ∀ ds r, γ ds = some r → ds.length = 1 ∧ ∃ n, resF (exs G n cs (env0 ck.N.length ds) []) = some r)
    (hγ : ∀ ns : List Int, ns.length ≤ n → (∀ z ∈ ns, Builtin.Int.intBits z ≤ 1048576) → γ [.scr ns] = some (.ret (.bl true))) :
    PySem.W.WalkO q loose XP (He.hookD m fa fn).says l.row.toRowW dr [] (fun f vs => PySem.call f vs) := by
  refine LamX.walk_ofTsE (CX := L2.CX l.prog) (n := n) (k := k + 1) (x := x) hn hn2 hdf hr ?_ ?_
  · intro w mg f hp Y0 Gn hmg
    obtain ⟨K, KX, c⟩ := Y0
    have Y : Kn K mg fa fn := ⟨c, hp, KX, Gn⟩
    obtain ⟨fd, F⟩ := c.defs hd
    have a1 : d.dvs K = [] := by unfold He.DefD.dvs; rw [e1]; rfl
    have a2 : d.kws K = [] := by unfold He.DefD.kws; rw [e2]; rfl
    rw [a1, a2] at F
    have b := FunD.bindsA (ps := [x]) F hb
    rw [hnm] at hmg
    have ea : He.fAd K d.at_ = He.ga K ("law" : Str) := by rw [hat]; rfl
    rw [ea] at F
    have e := hmg.symm.trans (Y.glo hg)
    cases e
    refine ⟨K, KX, fd, [], spF K (fun c => He.ga K (CN c)) γ, (fun p hp => nomatch hp), (fun p hp => nomatch hp), (fun p hp => nomatch hp), fun s u => b s [u] rfl, fun H a ns hl hbits _ hS => ?_, fun base _ _ _ => def_ok (T w K mg base Y) F S hc hnb h⟩
    refine ⟨H, [.scr ns], .ret (.bl true), fun _ _ z => z, .cons (.scr hS) .nil, hγ ns hl hbits, fun v H' Z' _ _ _ _ r => ?_⟩
    cases r
    rfl
  · rintro w H s e s' ⟨a, B, H', cls, d', _, _, _, _, _, _, _, hE⟩
    exact hE
end Mn

set_option Elab.async false
set_option linter.all false
set_option maxRecDepth 100000
set_option maxHeartbeats 2000000
/-! Mn11: reckoning, row by row. -/
namespace Mn
open PySem PySem.Spec PyProof.Rows L2
section
variable {M : Mem} {al : Bool} {i j : Int} {x y : Str} {ds es : List D} {d : D} {env : En}
theorem tst_f {o : Option (Out D)} : tst false o = o := rfl
theorem tst_bl {b : Bool} : tst true (some (.ok M (.bl b))) = some (.ok M (.bl b)) := rfl
theorem see_non : see M .non = .non := rfl
theorem see_bl {b : Bool} : see M (.bl b) = .bl b := rfl
theorem see_int : see M (.int i) = .int i := rfl
theorem see_str : see M (.str x) = .str x := rfl
theorem see_tup : see M (.tup ds) = .tup ds := rfl
theorem see_lst : see M (.lst ds) = .lst ds := rfl
theorem see_dic {kvs : List (Key × D)} : see M (.dic kvs) = .dic kvs := rfl
theorem see_dct {kvs : List (List Key × D)} : see M (.dct kvs) = .dct kvs := rfl
theorem see_ins {c : Nat} {fs : List (Str × D)} : see M (.ins c fs) = .ins c fs := rfl
theorem see_scr {ns : List Int} : see M (.scr ns) = .scr ns := rfl
theorem fin_v : (Rs.val d).fin al M = .ok M d := rfl
theorem fin_t : (Rs.tup ds).fin al M = .ok M (.tup ds) := rfl
theorem fin_nl : (Rs.new (.lst ds)).fin false M = .ok M (.lst ds) := rfl
theorem fin_nc {c : Cell} : (Rs.new c).fin true M = .ok (M ++ [c]) (.ref M.length) := rfl
theorem bin_add : binR .Add (.int i) (.int j) = some (.val (.int (i + j))) := rfl
theorem bin_sub : binR .Sub (.int i) (.int j) = some (.val (.int (i - j))) := rfl
theorem bin_mul (h : mulB i j = true) : binR .Mult (.int i) (.int j) = some (.val (.int (i * j))) := if_pos h
theorem bin_div (h : 0 < j) (h2 : j.natAbs.log2 < 9000) : binR .FloorDiv (.int i) (.int j) = some (.val (.int (i / j))) := if_pos ⟨h, h2⟩
theorem bin_mod (h : 0 < j) : binR .Mod (.int i) (.int j) = some (.val (.int (i % j))) := if_pos h
theorem bin_pow (h : 0 ≤ j) (h1 : j ≤ 1000000) (h2 : i.natAbs < 2 ^ 64) : binR .Pow (.int i) (.int j) = some (.val (.int (i ^ j.toNat))) := if_pos ⟨h, h1, h2⟩
theorem bin_adds (h : x.length + y.length ≤ sizeLine) : binR .Add (.str x) (.str y) = some (.val (.str (x ++ y))) := if_pos h
theorem bin_addl (h : ds.length + es.length ≤ sizeLine) : binR .Add (.lst ds) (.lst es) = some (.new (.lst (ds ++ es))) := if_pos h
theorem cmp_lt : cmpR .Lt (.int i) (.int j) = some (decide (i < j)) := rfl
theorem cmp_le : cmpR .LtE (.int i) (.int j) = some (decide (i ≤ j)) := rfl
theorem cmp_gt : cmpR .Gt (.int i) (.int j) = some (decide (j < i)) := rfl
theorem cmp_ge : cmpR .GtE (.int i) (.int j) = some (decide (j ≤ i)) := rfl
theorem eqD_int : eqD (.int i) (.int j) = some (decide (i = j)) := by
  unfold eqD
  rw [if_pos ⟨rfl, rfl, rfl⟩]
  congr 1
  show decide (V.int i = V.int j) = _
  rw [decide_eq_decide]
  exact ⟨fun h => V.int.inj h, fun h => by rw [h]⟩
theorem eqD_bl {a b : Bool} : eqD (.bl a) (.bl b) = some (decide (a = b)) := by
  unfold eqD
  rw [if_pos ⟨rfl, rfl, rfl⟩]
  congr 1
  show decide (V.bl a = V.bl b) = _
  rw [decide_eq_decide]
  exact ⟨fun h => V.bl.inj h, fun h => by rw [h]⟩
theorem eqD_str : eqD (.str x) (.str y) = some (decide (x = y)) := by
  unfold eqD
  rw [if_pos ⟨rfl, rfl, rfl⟩]
  congr 1
  show decide (V.str x = V.str y) = _
  rw [decide_eq_decide]
  exact ⟨fun h => V.str.inj h, fun h => by rw [h]⟩
theorem cmp_eq {a b : D} : cmpR .Eq a b = eqD a b := rfl
theorem cmp_ne {a b : D} : cmpR .NotEq a b = (eqD a b).map (!·) := rfl
theorem ixd_tup : ixD (.tup ds) (.int i) = atI ds i := rfl
theorem ixd_lst : ixD (.lst ds) (.int i) = atI ds i := rfl
theorem ixd_scr {ns : List Int} : ixD (.scr ns) (.int i) = (atI ns i).map .int := rfl
theorem atI_n {α : Type} {xs : List α} {n : Nat} : atI xs (n : Int) = xs[n]? := by
  unfold atI ixN
  rw [if_pos (by omega)]
  split
  · rfl
  · rename_i h
    rw [List.getElem?_eq_none (by omega)]
    rfl
theorem at1_0 {α : Type} {a0 : α} : atI [a0] 0 = some a0 := rfl
theorem at1_m {α : Type} {a0 : α} : atI [a0] (-1) = some a0 := rfl
theorem at2_0 {α : Type} {a0 a1 : α} : atI [a0, a1] 0 = some a0 := rfl
theorem at2_1 {α : Type} {a0 a1 : α} : atI [a0, a1] 1 = some a1 := rfl
theorem at2_m {α : Type} {a0 a1 : α} : atI [a0, a1] (-1) = some a1 := rfl
theorem at3_0 {α : Type} {a0 a1 a2 : α} : atI [a0, a1, a2] 0 = some a0 := rfl
theorem at3_1 {α : Type} {a0 a1 a2 : α} : atI [a0, a1, a2] 1 = some a1 := rfl
theorem at3_2 {α : Type} {a0 a1 a2 : α} : atI [a0, a1, a2] 2 = some a2 := rfl
theorem at3_m {α : Type} {a0 a1 a2 : α} : atI [a0, a1, a2] (-1) = some a2 := rfl
theorem at4_0 {α : Type} {a0 a1 a2 a3 : α} : atI [a0, a1, a2, a3] 0 = some a0 := rfl
theorem at4_1 {α : Type} {a0 a1 a2 a3 : α} : atI [a0, a1, a2, a3] 1 = some a1 := rfl
theorem at4_2 {α : Type} {a0 a1 a2 a3 : α} : atI [a0, a1, a2, a3] 2 = some a2 := rfl
theorem at4_3 {α : Type} {a0 a1 a2 a3 : α} : atI [a0, a1, a2, a3] 3 = some a3 := rfl
theorem at4_m {α : Type} {a0 a1 a2 a3 : α} : atI [a0, a1, a2, a3] (-1) = some a3 := rfl
theorem at5_0 {α : Type} {a0 a1 a2 a3 a4 : α} : atI [a0, a1, a2, a3, a4] 0 = some a0 := rfl
theorem at5_1 {α : Type} {a0 a1 a2 a3 a4 : α} : atI [a0, a1, a2, a3, a4] 1 = some a1 := rfl
theorem at5_2 {α : Type} {a0 a1 a2 a3 a4 : α} : atI [a0, a1, a2, a3, a4] 2 = some a2 := rfl
theorem at5_3 {α : Type} {a0 a1 a2 a3 a4 : α} : atI [a0, a1, a2, a3, a4] 3 = some a3 := rfl
theorem at5_4 {α : Type} {a0 a1 a2 a3 a4 : α} : atI [a0, a1, a2, a3, a4] 4 = some a4 := rfl
theorem at5_m {α : Type} {a0 a1 a2 a3 a4 : α} : atI [a0, a1, a2, a3, a4] (-1) = some a4 := rfl
theorem at6_0 {α : Type} {a0 a1 a2 a3 a4 a5 : α} : atI [a0, a1, a2, a3, a4, a5] 0 = some a0 := rfl
theorem at6_1 {α : Type} {a0 a1 a2 a3 a4 a5 : α} : atI [a0, a1, a2, a3, a4, a5] 1 = some a1 := rfl
theorem at6_2 {α : Type} {a0 a1 a2 a3 a4 a5 : α} : atI [a0, a1, a2, a3, a4, a5] 2 = some a2 := rfl
theorem at6_3 {α : Type} {a0 a1 a2 a3 a4 a5 : α} : atI [a0, a1, a2, a3, a4, a5] 3 = some a3 := rfl
theorem at6_4 {α : Type} {a0 a1 a2 a3 a4 a5 : α} : atI [a0, a1, a2, a3, a4, a5] 4 = some a4 := rfl
theorem at6_5 {α : Type} {a0 a1 a2 a3 a4 a5 : α} : atI [a0, a1, a2, a3, a4, a5] 5 = some a5 := rfl
theorem at6_m {α : Type} {a0 a1 a2 a3 a4 a5 : α} : atI [a0, a1, a2, a3, a4, a5] (-1) = some a5 := rfl
theorem bind1 {k : Nat} : bindT M [k] d env = some (env.set k (some d)) := rfl
theorem bind2 {k l : Nat} {a b : D} : bindT M [k, l] (.tup [a, b]) env = some ((env.set k (some a)).set l (some b)) := rfl
theorem bind3 {k l m : Nat} {a b c : D} : bindT M [k, l, m] (.tup [a, b, c]) env = some (((env.set k (some a)).set l (some b)).set m (some c)) := rfl
theorem len_tup : biR .len [.tup ds] = some (.val (.int ds.length)) := rfl
theorem len_lst : biR .len [.lst ds] = some (.val (.int ds.length)) := rfl
theorem len_scr {ns : List Int} : biR .len [.scr ns] = some (.val (.int ns.length)) := rfl
theorem len_str (h : x.length ≤ sizeLine) : biR .len [.str x] = some (.val (.int x.length)) := if_pos h
theorem bi_abs : biR .abs [.int i] = some (.val (.int (if i < 0 then -i else i))) := rfl
theorem bi_max : biR .max [.int i, .int j] = some (.val (.int (if j > i then j else i))) := rfl
theorem bi_min : biR .min [.int i, .int j] = some (.val (.int (if j < i then j else i))) := rfl
theorem isi_int {t : Ty} : isiR (.int i) t = kitB "int" t.name := rfl
theorem isi_bl {b : Bool} {t : Ty} : isiR (.bl b) t = kitB "bool" t.name := rfl
theorem isi_tup {t : Ty} : isiR (.tup ds) t = kitB "tuple" t.name := rfl
theorem isi_lst {t : Ty} : isiR (.lst ds) t = kitB "list" t.name := rfl
theorem isi_str {t : Ty} : isiR (.str x) t = kitB "str" t.name := rfl
theorem isi_non {t : Ty} : isiR .non t = kitB "NoneType" t.name := rfl
theorem call_imm {g : List D → Option Res} {r : Res} (hr : ds.mapM (rd M 8) = some es) (hg : g es = some r) (hi : r.imm = true) : callR g M ds = some (resO M r) := by
  unfold callR
  rw [hr]
  simp only [hg]
  exact if_pos (.inr hi)
theorem call_cl {g : List D → Option Res} {r : Res} (hc : closedL ds = true) (hr : ds.mapM (rd M 8) = some es) (hg : g es = some r) : callR g M ds = some (resO M r) := by
  unfold callR
  rw [hr]
  simp only [hg]
  exact if_pos (.inl hc)
theorem rd_cl {n : Nat} (h : d.closed = true) : rd M n d = some d := by
  cases n <;> exact if_pos h
theorem rd_all : ∀ {ds : List D}, closedL ds = true → ds.mapM (rd M 8) = some ds
  | [], _ => rfl
  | d :: ds, h => by
    have h' : (_ && _) = true := h
    rw [Bool.and_eq_true] at h'
    rw [List.mapM_cons, rd_cl h'.1, rd_all h'.2]
    rfl
/-- a call with things that hold no cell -/
theorem call_c {g : List D → Option Res} {r : Res} (hc : closedL ds = true) (hg : g ds = some r) : callR g M ds = some (resO M r) := call_cl hc (rd_all hc) hg
theorem floop_inv {t : List Nat} {b : En → Mem → Option (Out Fl)} (P : En → Mem → Prop) : ∀ {ds : List D} (h : ∀ d ∈ ds, ∀ env M, P env M → ∃ env' env'' M', bindT M t d env = some env' ∧ b env' M = some (.ok M' (.nx env'')) ∧ P env'' M') {env : En} {M : Mem}, P env M → ∃ env' M', floop t b ds env M = some (.ok M' (.nx env')) ∧ P env' M'
  | [], _, env, M, p => ⟨env, M, rfl, p⟩
  | d :: ds, h, env, M, p => by
    obtain ⟨e1, e2, M2, h1, h2, h3⟩ := h d (List.mem_cons_self ..) env M p
    obtain ⟨e3, M3, h4, h5⟩ := floop_inv P (fun d hd => h d (List.mem_cons_of_mem _ hd)) h3
    refine ⟨e3, M3, ?_, h5⟩
    unfold floop
    simp only [h1, h2, obind_ok]
    exact h4
/-- by places -/
theorem floop_at {t : List Nat} {b : En → Mem → Option (Out Fl)} (P : Nat → En → Mem → Prop) : ∀ {ds : List D} {k : Nat} (h : ∀ (j : Nat) d, ds[j]? = some d → ∀ env M, P (k + j) env M → ∃ env' env'' M', bindT M t d env = some env' ∧ b env' M = some (.ok M' (.nx env'')) ∧ P (k + j + 1) env'' M') {env : En} {M : Mem}, P k env M → ∃ env' M', floop t b ds env M = some (.ok M' (.nx env')) ∧ P (k + ds.length) env' M'
  | [], _, _, env, M, p => ⟨env, M, rfl, p⟩
  | d :: ds, k, h, env, M, p => by
    obtain ⟨e1, e2, M2, h1, h2, h3⟩ := h 0 d rfl env M p
    obtain ⟨e3, M3, h4, h5⟩ := floop_at (k := k + 1) P (ds := ds) (fun j d' hd env M p => by
      have := h (j + 1) d' (by simpa using hd) env M (by rw [show k + (j + 1) = k + 1 + j from by omega]; exact p)
      rw [show k + (j + 1) + 1 = k + 1 + j + 1 from by omega] at this
      exact this) h3
    refine ⟨e3, M3, ?_, by rw [List.length_cons, show k + (ds.length + 1) = k + 1 + ds.length from by omega]; exact h5⟩
    unfold floop
    simp only [h1, h2, obind_ok]
    exact h4
theorem at3_i {α : Type} {a b c : α} {i : Int} (P : α → Prop) (h0 : 0 ≤ i) (h1 : i < 3) (ha : P a) (hb : P b) (hc : P c) : ∃ x, atI [a, b, c] i = some x ∧ P x := by
  have : i = 0 ∨ i = 1 ∨ i = 2 := by omega
  rcases this with rfl | rfl | rfl
  · exact ⟨a, rfl, ha⟩
  · exact ⟨b, rfl, hb⟩
  · exact ⟨c, rfl, hc⟩
theorem at4_i {α : Type} {a b c d : α} {i : Int} (P : α → Prop) (h0 : 0 ≤ i) (h1 : i < 4) (ha : P a) (hb : P b) (hc : P c) (hd : P d) : ∃ x, atI [a, b, c, d] i = some x ∧ P x := by
  have : i = 0 ∨ i = 1 ∨ i = 2 ∨ i = 3 := by omega
  rcases this with rfl | rfl | rfl | rfl
  · exact ⟨a, rfl, ha⟩
  · exact ⟨b, rfl, hb⟩
  · exact ⟨c, rfl, hc⟩
  · exact ⟨d, rfl, hd⟩
theorem at2_i {α : Type} {a b : α} {i : Int} (P : α → Prop) (h0 : 0 ≤ i) (h1 : i < 2) (ha : P a) (hb : P b) : ∃ x, atI [a, b] i = some x ∧ P x := by
  have : i = 0 ∨ i = 1 := by omega
  rcases this with rfl | rfl
  · exact ⟨a, rfl, ha⟩
  · exact ⟨b, rfl, hb⟩
end
end Mn

set_option Elab.async false
set_option linter.all false
set_option maxRecDepth 100000
set_option maxHeartbeats 0
namespace Mn
open PySem PySem.Spec PyProof.Rows L2
def gcdG : List D → Option Res
  | [.int a, .int b] => if 0 ≤ a ∧ 0 ≤ b then some (.ret (.int (Int.gcd a b : Nat))) else none
  | _ => none
def c_gcd : Ss := (.cons (.whl (.cmp .Gt (.var 1) (.cst (.int 0))) (.cons (.par [0, 1] (.cons (.var 1) (.cons (.bin .Mod false (.var 0) (.var 1)) .nil))) .nil)) (.cons (.ret (.var 0)) .nil))
theorem gcd_loop (G : Sig) (N : Nat) : ∀ (n : Nat) (a b : Int), 0 ≤ a → 0 ≤ b → b.toNat < n →
    wloop (fun e M => ev G (.cmp .Gt (.var 1) (.cst (.int 0))) true e M) (fun e M => exs G N (.cons (.par [0, 1] (.cons (.var 1) (.cons (.bin .Mod false (.var 0) (.var 1)) .nil))) .nil) e M) n [some (.int a), some (.int b)] [] = some (.ok [] (.nx [some (.int (Int.gcd a b : Nat)), some (.int 0)]))
  | 0, a, b, _, _, h => absurd h (Nat.not_lt_zero _)
  | n + 1, a, b, ha, hb, h => by
    have c0 : ev G (.cmp .Gt (.var 1) (.cst (.int 0))) true [some (.int a), some (.int b)] [] = some (.ok [] (.bl (decide (0 < b)))) := rfl
    unfold wloop
    rw [c0, obind_ok]
    by_cases hz : 0 < b
    · rw [decide_eq_true hz]
      have b0 : exs G N (.cons (.par [0, 1] (.cons (.var 1) (.cons (.bin .Mod false (.var 0) (.var 1)) .nil))) .nil) [some (.int a), some (.int b)] [] = some (.ok [] (.nx [some (.int b), some (.int (a % b))])) := by
        simp [exs, ex, evs, ev, tst, varR, obind, see, binR, hz, Rs.fin]
      simp only []
      rw [b0, obind_ok]
      simp only []
      have h1 : 0 ≤ a % b := Int.emod_nonneg _ (by omega)
      have h2 : a % b < b := Int.emod_lt_of_pos _ hz
      rw [gcd_loop G N n b (a % b) hb h1 (by omega)]
      have e : Int.gcd b (a % b) = Int.gcd a b := by
        obtain ⟨m, rfl⟩ := Int.eq_ofNat_of_zero_le ha
        obtain ⟨l, rfl⟩ := Int.eq_ofNat_of_zero_le hb
        rw [← Int.natCast_emod, Int.gcd_natCast_natCast, Int.gcd_natCast_natCast, Nat.gcd_comm m l, Nat.gcd_rec l m, Nat.gcd_comm]
      rw [e]
    · have e : b = 0 := by omega
      subst e
      rw [decide_eq_false hz]
      simp only []
      congr 6
      simp [Int.gcd]
      omega
theorem gcd_run (G : Sig) : ∀ ds r, gcdG ds = some r → ds.length = 2 ∧ ∃ n, resF (exs G n c_gcd (env0 2 ds) []) = some r := fun ds r h => by
  unfold gcdG at h
  split at h
  · rename_i a b
    split at h
    · rename_i hp
      injection h with h
      subst h
      refine ⟨rfl, b.toNat + 1, ?_⟩
      show resF (exs G (b.toNat + 1) c_gcd [some (.int a), some (.int b)] []) = _
      have e : exs G (b.toNat + 1) c_gcd [some (.int a), some (.int b)] [] = obind (wloop (fun e M => ev G (.cmp .Gt (.var 1) (.cst (.int 0))) true e M) (fun e M => exs G (b.toNat + 1) (.cons (.par [0, 1] (.cons (.var 1) (.cons (.bin .Mod false (.var 0) (.var 1)) .nil))) .nil) e M) (b.toNat + 1) [some (.int a), some (.int b)] []) (fun M1 f => match f with
        | .nx env' => exs G (b.toNat + 1) (.cons (.ret (.var 0)) .nil) env' M1
        | f => some (.ok M1 f)) := rfl
      rw [e, gcd_loop G _ (b.toNat + 1) a b hp.1 hp.2 (by omega), obind_ok]
      rfl
    · cases h
  · cases h
end Mn

set_option Elab.async false
set_option linter.all false
set_option maxRecDepth 100000
set_option maxHeartbeats 0

namespace K71
open PySem PySem.Spec PyProof.Rows L2 Mn
abbrev P0 : Program := PySem.Challenge.pw_dykemoot_k71_fractions
def top (i : Nat) : Stmt := P0.main.body.getD i (.Pass ⟨0, 0, 0, 0⟩)
abbrev bis : List Str := ["abs", "len", "isinstance", "bool", "int", "tuple", "range", "max", "min"]
abbrev gls : List (Str × D) := []
/-! l_pair -/
def c_l_pair : Ss := (.cons (.asg [2] (.sub (.lst false (.cons (.cst (.int 0)) (.cons (.cst (.int 1)) (.cons (.bin .Sub false (.bin .Mod false (.var 1) (.cst (.int 9))) (.cst (.int 4))) (.cons (.bin .Sub false (.bin .Mod false (.var 1) (.bin .Add false (.bin .Mult false (.cst (.int 2)) (.bin .Pow false (.cst (.int 10)) (.cst (.int 20)))) (.cst (.int 1)))) (.bin .Pow false (.cst (.int 10)) (.cst (.int 20)))) .nil))))) (.bin .Mod false (.var 0) (.cst (.int 4))))) (.cons (.asg [3] (.sub (.lst false (.cons (.cst (.int 1)) (.cons (.bin .Add false (.cst (.int 1)) (.bin .Mod false (.bin .FloorDiv false (.var 0) (.cst (.int 16))) (.cst (.int 9)))) (.cons (.bin .Add false (.cst (.int 1)) (.bin .Mod false (.bin .FloorDiv false (.var 0) (.cst (.int 16))) (.bin .Pow false (.cst (.int 10)) (.cst (.int 20))))) .nil)))) (.bin .Mod false (.bin .FloorDiv false (.var 0) (.cst (.int 4))) (.cst (.int 3))))) (.cons (.asg [4] (.sub (.lst false (.cons (.cst (.int 1)) (.cons (.bin .Add false (.cst (.int 2)) (.bin .Mod false (.bin .FloorDiv false (.var 0) (.bin .Pow false (.cst (.int 10)) (.cst (.int 20)))) (.cst (.int 50)))) .nil))) (.bin .Mod false (.bin .FloorDiv false (.var 0) (.cst (.int 12))) (.cst (.int 2))))) (.cons (.ret (.tup (.cons (.bin .Mult false (.var 2) (.var 4)) (.cons (.bin .Mult false (.var 3) (.var 4)) .nil)))) .nil))))
def k_l_pair : Ck := ⟨["_law_cell", "_law_other", "_law_top", "_law_bottom", "_law_by"], [], bis, gls⟩
theorem h_l_pair : chkSs k_l_pair (defScope (top 12)) c_l_pair (defBody (top 12)) = true := by kernel_rfl
theorem s_l_pair : FnScope k_l_pair.N ["_law_cell", "_law_other"] (defScope (top 12)) := ⟨rfl, rfl, rfl, by decide +kernel, rfl, by decide +kernel, by decide +kernel⟩
def d_l_pair : He.DefD := ⟨("_law_pair", none), "_law_pair", "_law_pair", defArgs (top 12), defBody (top 12), defScope (top 12), [], []⟩
theorem b_l_pair : BindOf d_l_pair ["_law_cell", "_law_other"] := fun _ _ _ _ _ _ us hl => match us, hl with | [_, _], _ => rfl
/-! divisor -/
def c_divisor_0 : Ss := (.cons (.par [0, 1] (.cons (.var 1) (.cons (.bin .Mod false (.var 0) (.var 1)) .nil))) .nil)
def c_divisor : Ss := (.cons (.whl (.cmp .Gt (.var 1) (.cst (.int 0))) c_divisor_0) (.cons (.ret (.var 0)) .nil))
def k_divisor : Ck := ⟨["one", "other"], [], bis, gls⟩
theorem h_divisor : chkSs k_divisor (defScope (top 1)) c_divisor (defBody (top 1)) = true := by kernel_rfl
theorem s_divisor : FnScope k_divisor.N ["one", "other"] (defScope (top 1)) := ⟨rfl, rfl, rfl, by decide +kernel, rfl, by decide +kernel, by decide +kernel⟩
def d_divisor : He.DefD := ⟨("divisor", none), "divisor", "divisor", defArgs (top 1), defBody (top 1), defScope (top 1), [], []⟩
theorem b_divisor : BindOf d_divisor ["one", "other"] := fun _ _ _ _ _ _ us hl => match us, hl with | [_, _], _ => rfl
/-! fraction -/
def c_fraction : Ss := (.cons (.asg [2] (.cal 0 (.cons (.blt .abs false (.cons (.var 0) .nil)) (.cons (.var 1) .nil)))) (.cons (.ret (.tup (.cons (.bin .FloorDiv false (.var 0) (.var 2)) (.cons (.bin .FloorDiv false (.var 1) (.var 2)) .nil)))) .nil))
def k_fraction : Ck := ⟨["top", "bottom", "by"], ["divisor"], bis, gls⟩
theorem h_fraction : chkSs k_fraction (defScope (top 2)) c_fraction (defBody (top 2)) = true := by kernel_rfl
theorem s_fraction : FnScope k_fraction.N ["top", "bottom"] (defScope (top 2)) := ⟨rfl, rfl, rfl, by decide +kernel, rfl, by decide +kernel, by decide +kernel⟩
def d_fraction : He.DefD := ⟨("fraction", none), "fraction", "fraction", defArgs (top 2), defBody (top 2), defScope (top 2), [], []⟩
theorem b_fraction : BindOf d_fraction ["top", "bottom"] := fun _ _ _ _ _ _ us hl => match us, hl with | [_, _], _ => rfl
/-! l_divisor -/
def c_l_divisor_0 : Ss := (.cons (.par [0, 1] (.cons (.var 1) (.cons (.bin .Mod false (.var 0) (.var 1)) .nil))) .nil)
def c_l_divisor : Ss := (.cons (.whl (.cmp .Gt (.var 1) (.cst (.int 0))) c_l_divisor_0) (.cons (.ret (.var 0)) .nil))
def k_l_divisor : Ck := ⟨["_law_one", "_law_other"], [], bis, gls⟩
theorem h_l_divisor : chkSs k_l_divisor (defScope (top 8)) c_l_divisor (defBody (top 8)) = true := by kernel_rfl
theorem s_l_divisor : FnScope k_l_divisor.N ["_law_one", "_law_other"] (defScope (top 8)) := ⟨rfl, rfl, rfl, by decide +kernel, rfl, by decide +kernel, by decide +kernel⟩
def d_l_divisor : He.DefD := ⟨("_law_divisor", none), "_law_divisor", "_law_divisor", defArgs (top 8), defBody (top 8), defScope (top 8), [], []⟩
theorem b_l_divisor : BindOf d_l_divisor ["_law_one", "_law_other"] := fun _ _ _ _ _ _ us hl => match us, hl with | [_, _], _ => rfl
/-! l_lowest -/
def c_l_lowest : Ss := (.cons (.asg [2] (.cal 0 (.cons (.blt .abs false (.cons (.var 0) .nil)) (.cons (.var 1) .nil)))) (.cons (.ret (.tup (.cons (.bin .FloorDiv false (.var 0) (.var 2)) (.cons (.bin .FloorDiv false (.var 1) (.var 2)) .nil)))) .nil))
def k_l_lowest : Ck := ⟨["_law_top", "_law_bottom", "_law_by"], ["_law_divisor"], bis, gls⟩
theorem h_l_lowest : chkSs k_l_lowest (defScope (top 9)) c_l_lowest (defBody (top 9)) = true := by kernel_rfl
theorem s_l_lowest : FnScope k_l_lowest.N ["_law_top", "_law_bottom"] (defScope (top 9)) := ⟨rfl, rfl, rfl, by decide +kernel, rfl, by decide +kernel, by decide +kernel⟩
def d_l_lowest : He.DefD := ⟨("_law_lowest", none), "_law_lowest", "_law_lowest", defArgs (top 9), defBody (top 9), defScope (top 9), [], []⟩
theorem b_l_lowest : BindOf d_l_lowest ["_law_top", "_law_bottom"] := fun _ _ _ _ _ _ us hl => match us, hl with | [_, _], _ => rfl
/-! less -/
def c_less : Ss := (.cons (.ret (.cmp .Lt (.bin .Mult false (.sub (.var 0) (.cst (.int 0))) (.sub (.var 1) (.cst (.int 1)))) (.bin .Mult false (.sub (.var 1) (.cst (.int 0))) (.sub (.var 0) (.cst (.int 1)))))) .nil)
def k_less : Ck := ⟨["one", "other"], [], bis, gls⟩
theorem h_less : chkSs k_less (defScope (top 5)) c_less (defBody (top 5)) = true := by kernel_rfl
theorem s_less : FnScope k_less.N ["one", "other"] (defScope (top 5)) := ⟨rfl, rfl, rfl, by decide +kernel, rfl, by decide +kernel, by decide +kernel⟩
def d_less : He.DefD := ⟨("less", none), "less", "less", defArgs (top 5), defBody (top 5), defScope (top 5), [], []⟩
theorem b_less : BindOf d_less ["one", "other"] := fun _ _ _ _ _ _ us hl => match us, hl with | [_, _], _ => rfl
/-! l_mixed -/
def c_l_mixed : Ss := (.cons (.asg [2] (.cst (.int 0))) (.cons (.ife (.cmp .Lt (.var 1) (.blt .len false (.cons (.var 0) .nil))) (.cons (.asg [2] (.sub (.var 0) (.var 1))) .nil) .nil) (.cons (.ret (.bin .Mod false (.bin .Mult false (.var 2) (.cst (.int 618033988749894847))) (.bin .Pow false (.cst (.int 10)) (.cst (.int 24))))) .nil)))
def k_l_mixed : Ck := ⟨["_law_script", "_law_k", "_law_number"], [], bis, gls⟩
theorem h_l_mixed : chkSs k_l_mixed (defScope (top 7)) c_l_mixed (defBody (top 7)) = true := by kernel_rfl
theorem s_l_mixed : FnScope k_l_mixed.N ["_law_script", "_law_k"] (defScope (top 7)) := ⟨rfl, rfl, rfl, by decide +kernel, rfl, by decide +kernel, by decide +kernel⟩
def d_l_mixed : He.DefD := ⟨("_law_mixed", none), "_law_mixed", "_law_mixed", defArgs (top 7), defBody (top 7), defScope (top 7), [], []⟩
theorem b_l_mixed : BindOf d_l_mixed ["_law_script", "_law_k"] := fun _ _ _ _ _ _ us hl => match us, hl with | [_, _], _ => rfl
/-! l_whole -/
def c_l_whole : Ss := (.cons (.ret (.and (.cons (.isi (.var 0) .int) (.cons (.not (.isi (.var 0) .bool)) .nil)))) .nil)
def k_l_whole : Ck := ⟨["_law_found"], [], bis, gls⟩
theorem h_l_whole : chkSs k_l_whole (defScope (top 10)) c_l_whole (defBody (top 10)) = true := by kernel_rfl
theorem s_l_whole : FnScope k_l_whole.N ["_law_found"] (defScope (top 10)) := ⟨rfl, rfl, rfl, by decide +kernel, rfl, by decide +kernel, by decide +kernel⟩
def d_l_whole : He.DefD := ⟨("_law_whole", none), "_law_whole", "_law_whole", defArgs (top 10), defBody (top 10), defScope (top 10), [], []⟩
theorem b_l_whole : BindOf d_l_whole ["_law_found"] := fun _ _ _ _ _ _ us hl => match us, hl with | [_], _ => rfl
/-! l_is_share -/
def c_l_is_share : Ss := (.cons (.ife (.or (.cons (.not (.isi (.var 0) .tuple)) (.cons (.cmp .NotEq (.blt .len false (.cons (.var 0) .nil)) (.cst (.int 2))) (.cons (.not (.cal 0 (.cons (.sub (.var 0) (.cst (.int 0))) .nil))) (.cons (.not (.cal 0 (.cons (.sub (.var 0) (.cst (.int 1))) .nil))) .nil))))) (.cons (.ret (.cst (.bl false))) .nil) .nil) (.cons (.ret (.cmp .Eq (.var 0) (.var 1))) .nil))
def k_l_is_share : Ck := ⟨["_law_found", "_law_due"], ["_law_whole"], bis, gls⟩
theorem h_l_is_share : chkSs k_l_is_share (defScope (top 11)) c_l_is_share (defBody (top 11)) = true := by kernel_rfl
theorem s_l_is_share : FnScope k_l_is_share.N ["_law_found", "_law_due"] (defScope (top 11)) := ⟨rfl, rfl, rfl, by decide +kernel, rfl, by decide +kernel, by decide +kernel⟩
def d_l_is_share : He.DefD := ⟨("_law_is_share", none), "_law_is_share", "_law_is_share", defArgs (top 11), defBody (top 11), defScope (top 11), [], []⟩
theorem b_l_is_share : BindOf d_l_is_share ["_law_found", "_law_due"] := fun _ _ _ _ _ _ us hl => match us, hl with | [_, _], _ => rfl
/-! plus -/
def c_plus : Ss := (.cons (.ret (.cal 0 (.cons (.bin .Add false (.bin .Mult false (.sub (.var 0) (.cst (.int 0))) (.sub (.var 1) (.cst (.int 1)))) (.bin .Mult false (.sub (.var 1) (.cst (.int 0))) (.sub (.var 0) (.cst (.int 1))))) (.cons (.bin .Mult false (.sub (.var 0) (.cst (.int 1))) (.sub (.var 1) (.cst (.int 1)))) .nil)))) .nil)
def k_plus : Ck := ⟨["one", "other"], ["fraction"], bis, gls⟩
theorem h_plus : chkSs k_plus (defScope (top 3)) c_plus (defBody (top 3)) = true := by kernel_rfl
theorem s_plus : FnScope k_plus.N ["one", "other"] (defScope (top 3)) := ⟨rfl, rfl, rfl, by decide +kernel, rfl, by decide +kernel, by decide +kernel⟩
def d_plus : He.DefD := ⟨("plus", none), "plus", "plus", defArgs (top 3), defBody (top 3), defScope (top 3), [], []⟩
theorem b_plus : BindOf d_plus ["one", "other"] := fun _ _ _ _ _ _ us hl => match us, hl with | [_, _], _ => rfl
/-! minus -/
def c_minus : Ss := (.cons (.ret (.cal 0 (.cons (.bin .Sub false (.bin .Mult false (.sub (.var 0) (.cst (.int 0))) (.sub (.var 1) (.cst (.int 1)))) (.bin .Mult false (.sub (.var 1) (.cst (.int 0))) (.sub (.var 0) (.cst (.int 1))))) (.cons (.bin .Mult false (.sub (.var 0) (.cst (.int 1))) (.sub (.var 1) (.cst (.int 1)))) .nil)))) .nil)
def k_minus : Ck := ⟨["one", "other"], ["fraction"], bis, gls⟩
theorem h_minus : chkSs k_minus (defScope (top 4)) c_minus (defBody (top 4)) = true := by kernel_rfl
theorem s_minus : FnScope k_minus.N ["one", "other"] (defScope (top 4)) := ⟨rfl, rfl, rfl, by decide +kernel, rfl, by decide +kernel, by decide +kernel⟩
def d_minus : He.DefD := ⟨("minus", none), "minus", "minus", defArgs (top 4), defBody (top 4), defScope (top 4), [], []⟩
theorem b_minus : BindOf d_minus ["one", "other"] := fun _ _ _ _ _ _ us hl => match us, hl with | [_, _], _ => rfl
/-! law -/
def c_law_0 : Ss := (.cons (.asg [3, 4] (.cal 6 (.cons (.cal 7 (.cons (.var 0) (.cons (.bin .Mult false (.cst (.int 2)) (.var 2)) .nil))) (.cons (.cal 7 (.cons (.var 0) (.cons (.bin .Add false (.bin .Mult false (.cst (.int 2)) (.var 2)) (.cst (.int 1))) .nil))) .nil)))) (.cons (.asg [5] (.cal 5 (.cons (.var 3) (.cons (.var 4) .nil)))) (.cons (.ife (.not (.cal 1 (.cons (.var 5) (.cons (.cal 4 (.cons (.var 3) (.cons (.var 4) .nil))) .nil)))) (.cons (.ret (.cst (.bl false))) .nil) .nil) (.cons (.asg [6] (.cal 4 (.cons (.bin .Add false (.bin .Mult false (.sub (.var 1) (.cst (.int 0))) (.var 4)) (.bin .Mult false (.var 3) (.sub (.var 1) (.cst (.int 1))))) (.cons (.bin .Mult false (.sub (.var 1) (.cst (.int 1))) (.var 4)) .nil)))) (.cons (.asg [7] (.cal 4 (.cons (.bin .Sub false (.bin .Mult false (.sub (.var 1) (.cst (.int 0))) (.var 4)) (.bin .Mult false (.var 3) (.sub (.var 1) (.cst (.int 1))))) (.cons (.bin .Mult false (.sub (.var 1) (.cst (.int 1))) (.var 4)) .nil)))) (.cons (.ife (.or (.cons (.not (.cal 1 (.cons (.cal 3 (.cons (.var 1) (.cons (.var 5) .nil))) (.cons (.var 6) .nil)))) (.cons (.not (.cal 1 (.cons (.cal 2 (.cons (.var 1) (.cons (.var 5) .nil))) (.cons (.var 7) .nil)))) .nil))) (.cons (.ret (.cst (.bl false))) .nil) .nil) (.cons (.asg [8] (.cal 0 (.cons (.var 1) (.cons (.var 5) .nil)))) (.cons (.ife (.or (.cons (.not (.isi (.var 8) .bool)) (.cons (.cmp .NotEq (.var 8) (.cmp .Lt (.bin .Mult false (.sub (.var 1) (.cst (.int 0))) (.var 4)) (.bin .Mult false (.var 3) (.sub (.var 1) (.cst (.int 1)))))) .nil))) (.cons (.ret (.cst (.bl false))) .nil) .nil) (.cons (.asg [1] (.var 5)) .nil)))))))))
def c_law : Ss := (.cons (.asg [1] (.tup (.cons (.cst (.int 0)) (.cons (.cst (.int 1)) .nil)))) (.cons (.frl [2] (.rng1 (.blt .max false (.cons (.cst (.int 1)) (.cons (.blt .min false (.cons (.cst (.int 30)) (.cons (.bin .FloorDiv false (.blt .len false (.cons (.var 0) .nil)) (.cst (.int 2))) .nil))) .nil)))) c_law_0) (.cons (.ret (.cst (.bl true))) .nil)))
def k_law : Ck := ⟨["_law_script", "_law_last", "_law_k", "_law_top", "_law_bottom", "_law_one", "_law_total", "_law_left", "_law_told"], ["less", "_law_is_share", "minus", "plus", "_law_lowest", "fraction", "_law_pair", "_law_mixed"], bis, gls⟩
theorem h_law : chkSs k_law (defScope (top 13)) c_law (defBody (top 13)) = true := by kernel_rfl
theorem s_law : FnScope k_law.N ["_law_script"] (defScope (top 13)) := ⟨rfl, rfl, rfl, by decide +kernel, rfl, by decide +kernel, by decide +kernel⟩
def d_law : He.DefD := ⟨("law", none), "law", "law", defArgs (top 13), defBody (top 13), defScope (top 13), [], []⟩
theorem b_law : BindOf d_law ["_law_script"] := fun _ _ _ _ _ _ us hl => match us, hl with | [_], _ => rfl
def G_l_pair : Sig := sigOf []
def g_l_pair : List D → Option Res := runOf G_l_pair c_l_pair 2 5
theorem r_l_pair : ∀ ds r, g_l_pair ds = some r → ds.length = 2 ∧ ∃ n, resF (exs G_l_pair n c_l_pair (env0 5 ds) []) = some r := run_ok
def G_divisor : Sig := sigOf []
def g_divisor : List D → Option Res := gcdG
theorem r_divisor : ∀ ds r, g_divisor ds = some r → ds.length = 2 ∧ ∃ n, resF (exs G_divisor n c_divisor (env0 2 ds) []) = some r := gcd_run _
def G_fraction : Sig := sigOf [g_divisor]
def g_fraction : List D → Option Res := runOf G_fraction c_fraction 2 3
theorem r_fraction : ∀ ds r, g_fraction ds = some r → ds.length = 2 ∧ ∃ n, resF (exs G_fraction n c_fraction (env0 3 ds) []) = some r := run_ok
def G_l_divisor : Sig := sigOf []
def g_l_divisor : List D → Option Res := gcdG
theorem r_l_divisor : ∀ ds r, g_l_divisor ds = some r → ds.length = 2 ∧ ∃ n, resF (exs G_l_divisor n c_l_divisor (env0 2 ds) []) = some r := gcd_run _
def G_l_lowest : Sig := sigOf [g_l_divisor]
def g_l_lowest : List D → Option Res := runOf G_l_lowest c_l_lowest 2 3
theorem r_l_lowest : ∀ ds r, g_l_lowest ds = some r → ds.length = 2 ∧ ∃ n, resF (exs G_l_lowest n c_l_lowest (env0 3 ds) []) = some r := run_ok
def G_less : Sig := sigOf []
def g_less : List D → Option Res := runOf G_less c_less 2 2
theorem r_less : ∀ ds r, g_less ds = some r → ds.length = 2 ∧ ∃ n, resF (exs G_less n c_less (env0 2 ds) []) = some r := run_ok
def G_l_mixed : Sig := sigOf []
def g_l_mixed : List D → Option Res := runOf G_l_mixed c_l_mixed 2 3
theorem r_l_mixed : ∀ ds r, g_l_mixed ds = some r → ds.length = 2 ∧ ∃ n, resF (exs G_l_mixed n c_l_mixed (env0 3 ds) []) = some r := run_ok
def G_l_whole : Sig := sigOf []
def g_l_whole : List D → Option Res := runOf G_l_whole c_l_whole 1 1
theorem r_l_whole : ∀ ds r, g_l_whole ds = some r → ds.length = 1 ∧ ∃ n, resF (exs G_l_whole n c_l_whole (env0 1 ds) []) = some r := run_ok
def G_l_is_share : Sig := sigOf [g_l_whole]
def g_l_is_share : List D → Option Res := runOf G_l_is_share c_l_is_share 2 2
theorem r_l_is_share : ∀ ds r, g_l_is_share ds = some r → ds.length = 2 ∧ ∃ n, resF (exs G_l_is_share n c_l_is_share (env0 2 ds) []) = some r := run_ok
def G_plus : Sig := sigOf [g_fraction]
def g_plus : List D → Option Res := runOf G_plus c_plus 2 2
theorem r_plus : ∀ ds r, g_plus ds = some r → ds.length = 2 ∧ ∃ n, resF (exs G_plus n c_plus (env0 2 ds) []) = some r := run_ok
def G_minus : Sig := sigOf [g_fraction]
def g_minus : List D → Option Res := runOf G_minus c_minus 2 2
theorem r_minus : ∀ ds r, g_minus ds = some r → ds.length = 2 ∧ ∃ n, resF (exs G_minus n c_minus (env0 2 ds) []) = some r := run_ok
def G_law : Sig := sigOf [g_less, g_l_is_share, g_minus, g_plus, g_l_lowest, g_fraction, g_l_pair, g_l_mixed]
def g_law : List D → Option Res := runOf G_law c_law 1 9
theorem r_law : ∀ ds r, g_law ds = some r → ds.length = 1 ∧ ∃ n, resF (exs G_law n c_law (env0 9 ds) []) = some r := run_ok
abbrev fns : List Str := ["_law_pair", "divisor", "fraction", "_law_divisor", "_law_lowest", "less", "_law_mixed", "_law_whole", "_law_is_share", "plus", "minus", "law"]
abbrev fa : List He.Fa := faOf fns bis gls ++ []
abbrev fn : List He.DefD := [d_l_pair, d_divisor, d_fraction, d_l_divisor, d_l_lowest, d_less, d_l_mixed, d_l_whole, d_l_is_share, d_plus, d_minus, d_law]
abbrev CN : Nat → Str := fun _ => ""
section
variable {w : World} {K : PySem.W.Frag} {mg : Str → Option Value} {base : Heap}
theorem t_l_pair (Y : Kn K mg fa fn) : Tx P0 w K mg base (fun c => He.ga K (CN c)) 0 k_l_pair G_l_pair := Y.tx (by decide) rfl rfl trivial
theorem f_l_pair (Y : Kn K mg fa fn) : Fnd P0 w K mg base (fun c => He.ga K (CN c)) 1 "_law_pair" g_l_pair := Y.fnd (k := 0) d_l_pair (mem_at 0 rfl) rfl (mem_at 0 rfl) rfl rfl (t_l_pair Y) s_l_pair h_l_pair rfl b_l_pair r_l_pair
theorem t_divisor (Y : Kn K mg fa fn) : Tx P0 w K mg base (fun c => He.ga K (CN c)) 0 k_divisor G_divisor := Y.tx (by decide) rfl rfl trivial
theorem f_divisor (Y : Kn K mg fa fn) : Fnd P0 w K mg base (fun c => He.ga K (CN c)) 1 "divisor" g_divisor := Y.fnd (k := 0) d_divisor (mem_at 1 rfl) rfl (mem_at 1 rfl) rfl rfl (t_divisor Y) s_divisor h_divisor rfl b_divisor r_divisor
theorem t_fraction (Y : Kn K mg fa fn) : Tx P0 w K mg base (fun c => He.ga K (CN c)) 1 k_fraction G_fraction := Y.tx (by decide) rfl rfl ⟨(f_divisor Y).mono (by decide), trivial⟩
theorem f_fraction (Y : Kn K mg fa fn) : Fnd P0 w K mg base (fun c => He.ga K (CN c)) 2 "fraction" g_fraction := Y.fnd (k := 1) d_fraction (mem_at 2 rfl) rfl (mem_at 2 rfl) rfl rfl (t_fraction Y) s_fraction h_fraction rfl b_fraction r_fraction
theorem t_l_divisor (Y : Kn K mg fa fn) : Tx P0 w K mg base (fun c => He.ga K (CN c)) 0 k_l_divisor G_l_divisor := Y.tx (by decide) rfl rfl trivial
theorem f_l_divisor (Y : Kn K mg fa fn) : Fnd P0 w K mg base (fun c => He.ga K (CN c)) 1 "_law_divisor" g_l_divisor := Y.fnd (k := 0) d_l_divisor (mem_at 3 rfl) rfl (mem_at 3 rfl) rfl rfl (t_l_divisor Y) s_l_divisor h_l_divisor rfl b_l_divisor r_l_divisor
theorem t_l_lowest (Y : Kn K mg fa fn) : Tx P0 w K mg base (fun c => He.ga K (CN c)) 1 k_l_lowest G_l_lowest := Y.tx (by decide) rfl rfl ⟨(f_l_divisor Y).mono (by decide), trivial⟩
theorem f_l_lowest (Y : Kn K mg fa fn) : Fnd P0 w K mg base (fun c => He.ga K (CN c)) 2 "_law_lowest" g_l_lowest := Y.fnd (k := 1) d_l_lowest (mem_at 4 rfl) rfl (mem_at 4 rfl) rfl rfl (t_l_lowest Y) s_l_lowest h_l_lowest rfl b_l_lowest r_l_lowest
theorem t_less (Y : Kn K mg fa fn) : Tx P0 w K mg base (fun c => He.ga K (CN c)) 0 k_less G_less := Y.tx (by decide) rfl rfl trivial
theorem f_less (Y : Kn K mg fa fn) : Fnd P0 w K mg base (fun c => He.ga K (CN c)) 1 "less" g_less := Y.fnd (k := 0) d_less (mem_at 5 rfl) rfl (mem_at 5 rfl) rfl rfl (t_less Y) s_less h_less rfl b_less r_less
theorem t_l_mixed (Y : Kn K mg fa fn) : Tx P0 w K mg base (fun c => He.ga K (CN c)) 0 k_l_mixed G_l_mixed := Y.tx (by decide) rfl rfl trivial
theorem f_l_mixed (Y : Kn K mg fa fn) : Fnd P0 w K mg base (fun c => He.ga K (CN c)) 1 "_law_mixed" g_l_mixed := Y.fnd (k := 0) d_l_mixed (mem_at 6 rfl) rfl (mem_at 6 rfl) rfl rfl (t_l_mixed Y) s_l_mixed h_l_mixed rfl b_l_mixed r_l_mixed
theorem t_l_whole (Y : Kn K mg fa fn) : Tx P0 w K mg base (fun c => He.ga K (CN c)) 0 k_l_whole G_l_whole := Y.tx (by decide) rfl rfl trivial
theorem f_l_whole (Y : Kn K mg fa fn) : Fnd P0 w K mg base (fun c => He.ga K (CN c)) 1 "_law_whole" g_l_whole := Y.fnd (k := 0) d_l_whole (mem_at 7 rfl) rfl (mem_at 7 rfl) rfl rfl (t_l_whole Y) s_l_whole h_l_whole rfl b_l_whole r_l_whole
theorem t_l_is_share (Y : Kn K mg fa fn) : Tx P0 w K mg base (fun c => He.ga K (CN c)) 1 k_l_is_share G_l_is_share := Y.tx (by decide) rfl rfl ⟨(f_l_whole Y).mono (by decide), trivial⟩
theorem f_l_is_share (Y : Kn K mg fa fn) : Fnd P0 w K mg base (fun c => He.ga K (CN c)) 2 "_law_is_share" g_l_is_share := Y.fnd (k := 1) d_l_is_share (mem_at 8 rfl) rfl (mem_at 8 rfl) rfl rfl (t_l_is_share Y) s_l_is_share h_l_is_share rfl b_l_is_share r_l_is_share
theorem t_plus (Y : Kn K mg fa fn) : Tx P0 w K mg base (fun c => He.ga K (CN c)) 2 k_plus G_plus := Y.tx (by decide) rfl rfl ⟨(f_fraction Y).mono (by decide), trivial⟩
theorem f_plus (Y : Kn K mg fa fn) : Fnd P0 w K mg base (fun c => He.ga K (CN c)) 3 "plus" g_plus := Y.fnd (k := 2) d_plus (mem_at 9 rfl) rfl (mem_at 9 rfl) rfl rfl (t_plus Y) s_plus h_plus rfl b_plus r_plus
theorem t_minus (Y : Kn K mg fa fn) : Tx P0 w K mg base (fun c => He.ga K (CN c)) 2 k_minus G_minus := Y.tx (by decide) rfl rfl ⟨(f_fraction Y).mono (by decide), trivial⟩
theorem f_minus (Y : Kn K mg fa fn) : Fnd P0 w K mg base (fun c => He.ga K (CN c)) 3 "minus" g_minus := Y.fnd (k := 2) d_minus (mem_at 10 rfl) rfl (mem_at 10 rfl) rfl rfl (t_minus Y) s_minus h_minus rfl b_minus r_minus
theorem t_law (Y : Kn K mg fa fn) : Tx P0 w K mg base (fun c => He.ga K (CN c)) 3 k_law G_law := Y.tx (by decide) rfl rfl ⟨(f_less Y).mono (by decide), (f_l_is_share Y).mono (by decide), (f_minus Y).mono (by decide), (f_plus Y).mono (by decide), (f_l_lowest Y).mono (by decide), (f_fraction Y).mono (by decide), (f_l_pair Y).mono (by decide), (f_l_mixed Y).mono (by decide), trivial⟩
end
end K71

set_option Elab.async false
set_option linter.all false
set_option maxRecDepth 100000
set_option maxHeartbeats 0
namespace K71
open PySem PySem.Spec PyProof.Rows L2 Mn
abbrev ab (t : Int) : Int := if t < 0 then -t else t
theorem ab_nn (t : Int) : 0 ≤ ab t := by unfold ab; split <;> omega
abbrev gd (t b : Int) : Int := (Int.gcd (ab t) b : Nat)
theorem gd_pos {t b : Int} (h : 0 < b) : 0 < gd t b := by
  have : 0 < Int.gcd (ab t) b := Int.gcd_pos_of_ne_zero_right _ (by omega)
  unfold gd; omega
theorem gd_le {t b : Int} (h : 0 < b) : gd t b ≤ b := Int.le_of_dvd h (Int.gcd_dvd_right _ _)
theorem log2_small {i : Int} (h : i.natAbs < 2 ^ 4000) : i.natAbs.log2 < 9000 := by
  have := PySem.Flt.log2_lt_of (show 0 < 4000 by decide) h
  omega
theorem mulB_small {i j : Int} (hi : i.natAbs < 2 ^ 4000) (hj : j.natAbs < 2 ^ 4000) : mulB i j = true := by
  have a := PySem.Flt.log2_lt_of (show 0 < 4000 by decide) hi
  have b := PySem.Flt.log2_lt_of (show 0 < 4000 by decide) hj
  unfold mulB
  rw [Bool.or_eq_true]
  exact .inr (decide_eq_true (by omega))
theorem mulB_l {i j : Int} (h1 : -(2 ^ 64) < i) (h2 : i < 2 ^ 64) : mulB i j = true := by
  unfold mulB
  rw [decide_eq_true h1, decide_eq_true h2]
  rfl
theorem mulB_r {i j : Int} (h1 : -(2 ^ 64) < j) (h2 : j < 2 ^ 64) : mulB i j = true := by
  unfold mulB
  rw [decide_eq_true h1, decide_eq_true h2]
  simp
theorem e_div (t b : Int) (hb : 0 < b) : gcdG [.int (ab t), .int b] = some (.ret (.int (gd t b))) := by
  exact if_pos ⟨ab_nn t, by omega⟩
theorem e_fraction (t b : Int) (hb : 0 < b) (hs : b.natAbs < 2 ^ 4000) : g_fraction [.int t, .int b] = some (.ret (.tup [.int (t / gd t b), .int (b / gd t b)])) := by
  have h0 := gd_pos (t := t) hb
  have h1 := gd_le (t := t) hb
  have h2 := log2_small (i := gd t b) (by omega)
  have c : ∀ M, callR (G_fraction.f 0) M [.int (ab t), .int b] = some (.ok M (.int (gd t b))) := fun M => call_c rfl (e_div t b hb)
  show resF (exs G_fraction 0 c_fraction [some (.int t), some (.int b), none] []) = _
  unfold c_fraction
  simp only [exs, ex, ev, evs, evP, evA, evO, evTA, evTO, iv, tst_f, tst_bl, varR, notR, negR, obind_ok, obind_ex, List.getElem?_cons_zero, List.getElem?_cons_succ, see_non, see_bl, see_int, see_str, see_tup, see_lst, see_dic, see_dct, see_ins, see_scr, fin_v, fin_t, fin_nl, fin_nc, bin_add, bin_sub, cmp_lt, cmp_le, cmp_gt, cmp_ge, cmp_eq, cmp_ne, eqD_int, eqD_bl, eqD_str, ixd_tup, ixd_lst, ixd_scr, at1_0, at1_m, at2_0, at2_1, at2_m, at3_0, at3_1, at3_2, at3_m, at4_0, at4_1, at4_2, at4_3, at4_m, at5_0, at5_1, at5_2, at5_3, at5_4, at5_m, at6_0, at6_1, at6_2, at6_3, at6_4, at6_5, at6_m, bind1, bind2, bind3, List.set_cons_zero, List.set_cons_succ, Option.map_some, len_tup, len_lst, len_scr, bi_abs, bi_max, bi_min, isi_int, isi_bl, isi_tup, isi_lst, isi_str, isi_non, resO, List.length_cons, List.length_nil, List.map_cons, List.map_nil, if_true, if_false, Bool.false_eq_true, Bool.not_true, Bool.not_false, Nat.zero_add, Nat.reduceAdd, Int.reduceEq, decide_true, decide_false, Int.cast_ofNat_Int, ne_eq, not_true_eq_false, not_false_eq_true, Bool.not_eq_true, Bool.true_eq_false, Int.reduceNeg, c, bin_div h0 h2]
  rfl
theorem e_lowest (t b : Int) (hb : 0 < b) (hs : b.natAbs < 2 ^ 4000) : g_l_lowest [.int t, .int b] = some (.ret (.tup [.int (t / gd t b), .int (b / gd t b)])) := e_fraction t b hb hs
theorem big {i : Int} (h : i.natAbs < 2 ^ 1000) : i.natAbs < 2 ^ 4000 := by omega
theorem prod {i j : Int} (hi : i.natAbs < 2 ^ 1000) (hj : j.natAbs < 2 ^ 1000) : (i * j).natAbs < 2 ^ 4000 := by
  have := wide_lt hi hj
  have e : (2 : Nat) ^ (1000 + 1000) < 2 ^ 4000 := by decide +kernel
  omega
section
variable {p q r s : Int} (hq : 0 < q) (hs : 0 < s) (b1 : p.natAbs < 2 ^ 1000) (b2 : q.natAbs < 2 ^ 1000) (b3 : r.natAbs < 2 ^ 1000) (b4 : s.natAbs < 2 ^ 1000)
include hq hs b1 b2 b3 b4
theorem e_plus : g_plus [.tup [.int p, .int q], .tup [.int r, .int s]] = g_fraction [.int (p * s + r * q), .int (q * s)] := by
  have m1 := mulB_small (big b1) (big b4)
  have m2 := mulB_small (big b3) (big b2)
  have m3 := mulB_small (big b2) (big b4)
  have e := e_fraction (p * s + r * q) (q * s) (Int.mul_pos hq hs) (prod b2 b4)
  have c : ∀ M, callR (G_plus.f 0) M [.int (p * s + r * q), .int (q * s)] = _ := fun M => call_c (by rfl) e
  rw [e]
  show resF (exs G_plus 0 c_plus [some (.tup [.int p, .int q]), some (.tup [.int r, .int s])] []) = _
  unfold c_plus
  simp only [exs, ex, ev, evs, evP, evA, evO, evTA, evTO, iv, tst_f, tst_bl, varR, notR, negR, obind_ok, obind_ex, List.getElem?_cons_zero, List.getElem?_cons_succ, see_non, see_bl, see_int, see_str, see_tup, see_lst, see_dic, see_dct, see_ins, see_scr, fin_v, fin_t, fin_nl, fin_nc, bin_add, bin_sub, cmp_lt, cmp_le, cmp_gt, cmp_ge, cmp_eq, cmp_ne, eqD_int, eqD_bl, eqD_str, ixd_tup, ixd_lst, ixd_scr, at1_0, at1_m, at2_0, at2_1, at2_m, at3_0, at3_1, at3_2, at3_m, at4_0, at4_1, at4_2, at4_3, at4_m, at5_0, at5_1, at5_2, at5_3, at5_4, at5_m, at6_0, at6_1, at6_2, at6_3, at6_4, at6_5, at6_m, bind1, bind2, bind3, List.set_cons_zero, List.set_cons_succ, Option.map_some, len_tup, len_lst, len_scr, bi_abs, bi_max, bi_min, isi_int, isi_bl, isi_tup, isi_lst, isi_str, isi_non, resO, List.length_cons, List.length_nil, List.map_cons, List.map_nil, if_true, if_false, Bool.false_eq_true, Bool.not_true, Bool.not_false, Nat.zero_add, Nat.reduceAdd, Int.reduceEq, decide_true, decide_false, Int.cast_ofNat_Int, ne_eq, not_true_eq_false, not_false_eq_true, Bool.not_eq_true, Bool.true_eq_false, Int.reduceNeg, bin_mul m1, bin_mul m2, bin_mul m3, c]
  rfl
theorem e_minus : g_minus [.tup [.int p, .int q], .tup [.int r, .int s]] = g_fraction [.int (p * s - r * q), .int (q * s)] := by
  have m1 := mulB_small (big b1) (big b4)
  have m2 := mulB_small (big b3) (big b2)
  have m3 := mulB_small (big b2) (big b4)
  have e := e_fraction (p * s - r * q) (q * s) (Int.mul_pos hq hs) (prod b2 b4)
  have c : ∀ M, callR (G_minus.f 0) M [.int (p * s - r * q), .int (q * s)] = _ := fun M => call_c (by rfl) e
  rw [e]
  show resF (exs G_minus 0 c_minus [some (.tup [.int p, .int q]), some (.tup [.int r, .int s])] []) = _
  unfold c_minus
  simp only [exs, ex, ev, evs, evP, evA, evO, evTA, evTO, iv, tst_f, tst_bl, varR, notR, negR, obind_ok, obind_ex, List.getElem?_cons_zero, List.getElem?_cons_succ, see_non, see_bl, see_int, see_str, see_tup, see_lst, see_dic, see_dct, see_ins, see_scr, fin_v, fin_t, fin_nl, fin_nc, bin_add, bin_sub, cmp_lt, cmp_le, cmp_gt, cmp_ge, cmp_eq, cmp_ne, eqD_int, eqD_bl, eqD_str, ixd_tup, ixd_lst, ixd_scr, at1_0, at1_m, at2_0, at2_1, at2_m, at3_0, at3_1, at3_2, at3_m, at4_0, at4_1, at4_2, at4_3, at4_m, at5_0, at5_1, at5_2, at5_3, at5_4, at5_m, at6_0, at6_1, at6_2, at6_3, at6_4, at6_5, at6_m, bind1, bind2, bind3, List.set_cons_zero, List.set_cons_succ, Option.map_some, len_tup, len_lst, len_scr, bi_abs, bi_max, bi_min, isi_int, isi_bl, isi_tup, isi_lst, isi_str, isi_non, resO, List.length_cons, List.length_nil, List.map_cons, List.map_nil, if_true, if_false, Bool.false_eq_true, Bool.not_true, Bool.not_false, Nat.zero_add, Nat.reduceAdd, Int.reduceEq, decide_true, decide_false, Int.cast_ofNat_Int, ne_eq, not_true_eq_false, not_false_eq_true, Bool.not_eq_true, Bool.true_eq_false, Int.reduceNeg, bin_mul m1, bin_mul m2, bin_mul m3, c]
  rfl
theorem e_less : g_less [.tup [.int p, .int q], .tup [.int r, .int s]] = some (.ret (.bl (decide (p * s < r * q)))) := by
  have m1 := mulB_small (big b1) (big b4)
  have m2 := mulB_small (big b3) (big b2)
  show resF (exs G_less 0 c_less [some (.tup [.int p, .int q]), some (.tup [.int r, .int s])] []) = _
  unfold c_less
  simp only [exs, ex, ev, evs, evP, evA, evO, evTA, evTO, iv, tst_f, tst_bl, varR, notR, negR, obind_ok, obind_ex, List.getElem?_cons_zero, List.getElem?_cons_succ, see_non, see_bl, see_int, see_str, see_tup, see_lst, see_dic, see_dct, see_ins, see_scr, fin_v, fin_t, fin_nl, fin_nc, bin_add, bin_sub, cmp_lt, cmp_le, cmp_gt, cmp_ge, cmp_eq, cmp_ne, eqD_int, eqD_bl, eqD_str, ixd_tup, ixd_lst, ixd_scr, at1_0, at1_m, at2_0, at2_1, at2_m, at3_0, at3_1, at3_2, at3_m, at4_0, at4_1, at4_2, at4_3, at4_m, at5_0, at5_1, at5_2, at5_3, at5_4, at5_m, at6_0, at6_1, at6_2, at6_3, at6_4, at6_5, at6_m, bind1, bind2, bind3, List.set_cons_zero, List.set_cons_succ, Option.map_some, len_tup, len_lst, len_scr, bi_abs, bi_max, bi_min, isi_int, isi_bl, isi_tup, isi_lst, isi_str, isi_non, resO, List.length_cons, List.length_nil, List.map_cons, List.map_nil, if_true, if_false, Bool.false_eq_true, Bool.not_true, Bool.not_false, Nat.zero_add, Nat.reduceAdd, Int.reduceEq, decide_true, decide_false, Int.cast_ofNat_Int, ne_eq, not_true_eq_false, not_false_eq_true, Bool.not_eq_true, Bool.true_eq_false, Int.reduceNeg, bin_mul m1, bin_mul m2]
  rfl
end
theorem e_whole (i : Int) : g_l_whole [.int i] = some (.ret (.bl true)) := rfl
theorem eq_pair (i j : Int) : eqD (.tup [.int i, .int j]) (.tup [.int i, .int j]) = some true := by
  unfold eqD
  rw [if_neg (by rintro ⟨_, h, _⟩; cases h), if_pos ⟨rfl, rfl, rfl, rfl⟩]
  congr 1
  simp [D.py, pyL, PyData.eqv, PyData.eqvAll]
theorem e_is (i j : Int) : g_l_is_share [.tup [.int i, .int j], .tup [.int i, .int j]] = some (.ret (.bl true)) := by
  have c : ∀ M k, callR (G_l_is_share.f 0) M [.int k] = some (.ok M (.bl true)) := fun M k => call_c rfl (e_whole k)
  have t : kitB "tuple" Ty.tuple.name = some true := rfl
  show resF (exs G_l_is_share 0 c_l_is_share [some (.tup [.int i, .int j]), some (.tup [.int i, .int j])] []) = _
  unfold c_l_is_share
  simp only [exs, ex, ev, evs, evP, evA, evO, evTA, evTO, iv, tst_f, tst_bl, varR, notR, negR, obind_ok, obind_ex, List.getElem?_cons_zero, List.getElem?_cons_succ, see_non, see_bl, see_int, see_str, see_tup, see_lst, see_dic, see_dct, see_ins, see_scr, fin_v, fin_t, fin_nl, fin_nc, bin_add, bin_sub, cmp_lt, cmp_le, cmp_gt, cmp_ge, cmp_eq, cmp_ne, eqD_int, eqD_bl, eqD_str, ixd_tup, ixd_lst, ixd_scr, at1_0, at1_m, at2_0, at2_1, at2_m, at3_0, at3_1, at3_2, at3_m, at4_0, at4_1, at4_2, at4_3, at4_m, at5_0, at5_1, at5_2, at5_3, at5_4, at5_m, at6_0, at6_1, at6_2, at6_3, at6_4, at6_5, at6_m, bind1, bind2, bind3, List.set_cons_zero, List.set_cons_succ, Option.map_some, len_tup, len_lst, len_scr, bi_abs, bi_max, bi_min, isi_int, isi_bl, isi_tup, isi_lst, isi_str, isi_non, resO, List.length_cons, List.length_nil, List.map_cons, List.map_nil, if_true, if_false, Bool.false_eq_true, Bool.not_true, Bool.not_false, Nat.zero_add, Nat.reduceAdd, Int.reduceEq, decide_true, decide_false, Int.cast_ofNat_Int, ne_eq, not_true_eq_false, not_false_eq_true, Bool.not_eq_true, Bool.true_eq_false, Int.reduceNeg, c, t, eq_pair]
  rfl
theorem e_mixed (ns : List Int) (k : Nat) : ∃ m : Int, 0 ≤ m ∧ m < 10 ^ 24 ∧ g_l_mixed [.scr ns, .int k] = some (.ret (.int m)) := by
  have hp : (0 : Int) < 10 ^ 24 := by decide
  have e10 : binR Operator.Pow (D.int 10) (D.int 24) = some (Rs.val (D.int (10 ^ 24))) := rfl
  by_cases h : (k : Int) < (ns.length : Int)
  · have hk : k < ns.length := by omega
    refine ⟨ns[k] * 618033988749894847 % 10 ^ 24, Int.emod_nonneg _ (by omega), Int.emod_lt_of_pos _ hp, ?_⟩
    have a : atI ns (k : Int) = some ns[k] := by rw [atI_n, List.getElem?_eq_getElem hk]
    have m := mulB_r (i := ns[k]) (j := 618033988749894847) (by decide) (by decide)
    show resF (exs G_l_mixed 0 c_l_mixed [some (.scr ns), some (.int k), none] []) = _
    unfold c_l_mixed
    simp only [exs, ex, ev, evs, evP, evA, evO, evTA, evTO, iv, tst_f, tst_bl, varR, notR, negR, obind_ok, obind_ex, List.getElem?_cons_zero, List.getElem?_cons_succ, see_non, see_bl, see_int, see_str, see_tup, see_lst, see_dic, see_dct, see_ins, see_scr, fin_v, fin_t, fin_nl, fin_nc, bin_add, bin_sub, cmp_lt, cmp_le, cmp_gt, cmp_ge, cmp_eq, cmp_ne, eqD_int, eqD_bl, eqD_str, ixd_tup, ixd_lst, ixd_scr, at1_0, at1_m, at2_0, at2_1, at2_m, at3_0, at3_1, at3_2, at3_m, at4_0, at4_1, at4_2, at4_3, at4_m, at5_0, at5_1, at5_2, at5_3, at5_4, at5_m, at6_0, at6_1, at6_2, at6_3, at6_4, at6_5, at6_m, bind1, bind2, bind3, List.set_cons_zero, List.set_cons_succ, Option.map_some, len_tup, len_lst, len_scr, bi_abs, bi_max, bi_min, isi_int, isi_bl, isi_tup, isi_lst, isi_str, isi_non, resO, List.length_cons, List.length_nil, List.map_cons, List.map_nil, if_true, if_false, Bool.false_eq_true, Bool.not_true, Bool.not_false, Nat.zero_add, Nat.reduceAdd, Int.reduceEq, decide_true, decide_false, Int.cast_ofNat_Int, ne_eq, not_true_eq_false, not_false_eq_true, Bool.not_eq_true, Bool.true_eq_false, Int.reduceNeg, decide_eq_true h, a, bin_mul m, e10, bin_mod hp]
    rfl
  · refine ⟨0, by omega, hp, ?_⟩
    have m := mulB_r (i := 0) (j := 618033988749894847) (by decide) (by decide)
    show resF (exs G_l_mixed 0 c_l_mixed [some (.scr ns), some (.int k), none] []) = _
    unfold c_l_mixed
    simp only [exs, ex, ev, evs, evP, evA, evO, evTA, evTO, iv, tst_f, tst_bl, varR, notR, negR, obind_ok, obind_ex, List.getElem?_cons_zero, List.getElem?_cons_succ, see_non, see_bl, see_int, see_str, see_tup, see_lst, see_dic, see_dct, see_ins, see_scr, fin_v, fin_t, fin_nl, fin_nc, bin_add, bin_sub, cmp_lt, cmp_le, cmp_gt, cmp_ge, cmp_eq, cmp_ne, eqD_int, eqD_bl, eqD_str, ixd_tup, ixd_lst, ixd_scr, at1_0, at1_m, at2_0, at2_1, at2_m, at3_0, at3_1, at3_2, at3_m, at4_0, at4_1, at4_2, at4_3, at4_m, at5_0, at5_1, at5_2, at5_3, at5_4, at5_m, at6_0, at6_1, at6_2, at6_3, at6_4, at6_5, at6_m, bind1, bind2, bind3, List.set_cons_zero, List.set_cons_succ, Option.map_some, len_tup, len_lst, len_scr, bi_abs, bi_max, bi_min, isi_int, isi_bl, isi_tup, isi_lst, isi_str, isi_non, resO, List.length_cons, List.length_nil, List.map_cons, List.map_nil, if_true, if_false, Bool.false_eq_true, Bool.not_true, Bool.not_false, Nat.zero_add, Nat.reduceAdd, Int.reduceEq, decide_true, decide_false, Int.cast_ofNat_Int, ne_eq, not_true_eq_false, not_false_eq_true, Bool.not_eq_true, Bool.true_eq_false, Int.reduceNeg, decide_eq_false h, bin_mul m, e10, bin_mod hp]
    rfl

theorem e_mixed' (ns : List Int) (k : Int) (h : 0 ≤ k) : ∃ m : Int, 0 ≤ m ∧ m < 10 ^ 24 ∧ g_l_mixed [.scr ns, .int k] = some (.ret (.int m)) := by
  obtain ⟨n, rfl⟩ := Int.eq_ofNat_of_zero_le h
  exact e_mixed ns n
theorem e_pair (c o : Int) (h0 : 0 ≤ c) (h1 : c < 10 ^ 24) (h2 : 0 ≤ o) : ∃ t b : Int, 0 < b ∧ t.natAbs < 2 ^ 100 ∧ b.natAbs < 2 ^ 100 ∧ g_l_pair [.int c, .int o] = some (.ret (.tup [.int t, .int b])) := by
  have q1 : (0 : Int) < 10 ^ 20 := by decide
  have q2 : (0 : Int) < 2 * 10 ^ 20 + 1 := by decide
  have e20 : binR Operator.Pow (D.int 10) (D.int 20) = some (Rs.val (D.int (10 ^ 20))) := rfl
  have a1 : binR Operator.Mult (D.int 2) (D.int (10 ^ 20)) = some (Rs.val (D.int (2 * 10 ^ 20))) := rfl
  obtain ⟨t, ht, pt⟩ := at4_i (a := D.int 0) (b := D.int 1) (c := D.int (o % 9 - 4)) (d := D.int (o % (2 * 10 ^ 20 + 1) - 10 ^ 20)) (i := c % 4) (fun d => ∃ i : Int, d = .int i ∧ i.natAbs ≤ 10 ^ 20) (by omega) (by omega) ⟨0, rfl, by decide⟩ ⟨1, rfl, by decide⟩ ⟨_, rfl, by omega⟩ ⟨_, rfl, by omega⟩
  obtain ⟨i, rfl, hi⟩ := pt
  obtain ⟨b, hb, pb⟩ := at3_i (a := D.int 1) (b := D.int (1 + c / 16 % 9)) (c := D.int (1 + c / 16 % 10 ^ 20)) (i := c / 4 % 3) (fun d => ∃ i : Int, d = .int i ∧ 0 < i ∧ i ≤ 10 ^ 20) (by omega) (by omega) ⟨1, rfl, by decide, by decide⟩ ⟨_, rfl, by omega, by omega⟩ ⟨_, rfl, by omega, by omega⟩
  obtain ⟨j, rfl, hj, hj2⟩ := pb
  obtain ⟨y, hy, py⟩ := at2_i (a := D.int 1) (b := D.int (2 + c / 10 ^ 20 % 50)) (i := c / 12 % 2) (fun d => ∃ i : Int, d = .int i ∧ 0 < i ∧ i ≤ 52) (by omega) (by omega) ⟨1, rfl, by decide, by decide⟩ ⟨_, rfl, by omega, by omega⟩
  obtain ⟨l, rfl, hl, hl2⟩ := py
  have m1 : mulB i l = true := mulB_r (by omega) (by omega)
  have m2 : mulB j l = true := mulB_r (by omega) (by omega)
  have w : ∀ x : Int, x.natAbs ≤ 10 ^ 20 → (x * l).natAbs < 2 ^ 100 := fun x hx => by
    have a := wide_lt (i := x) (j := l) (a := 67) (b := 6) (by omega) (by omega)
    omega
  refine ⟨i * l, j * l, Int.mul_pos hj hl, w i hi, w j (by omega), ?_⟩
  have dd : (10 ^ 20 : Int).natAbs.log2 < 9000 := by decide +kernel
  show resF (exs G_l_pair 0 c_l_pair [some (.int c), some (.int o), none, none, none] []) = _
  unfold c_l_pair
  have sl : ∀ n, n ≤ 10 → (n ≤ sizeLine) = True := fun n h => eq_true (Nat.le_trans h (by decide))
  simp only [exs, ex, ev, evs, evP, evA, evO, evTA, evTO, iv, tst_f, tst_bl, varR, notR, negR, obind_ok, obind_ex, List.getElem?_cons_zero, List.getElem?_cons_succ, see_non, see_bl, see_int, see_str, see_tup, see_lst, see_dic, see_dct, see_ins, see_scr, fin_v, fin_t, fin_nl, fin_nc, bin_add, bin_sub, cmp_lt, cmp_le, cmp_gt, cmp_ge, cmp_eq, cmp_ne, eqD_int, eqD_bl, eqD_str, ixd_tup, ixd_lst, ixd_scr, at1_0, at1_m, at2_0, at2_1, at2_m, at3_0, at3_1, at3_2, at3_m, at4_0, at4_1, at4_2, at4_3, at4_m, at5_0, at5_1, at5_2, at5_3, at5_4, at5_m, at6_0, at6_1, at6_2, at6_3, at6_4, at6_5, at6_m, bind1, bind2, bind3, List.set_cons_zero, List.set_cons_succ, Option.map_some, len_tup, len_lst, len_scr, bi_abs, bi_max, bi_min, isi_int, isi_bl, isi_tup, isi_lst, isi_str, isi_non, resO, List.length_cons, List.length_nil, List.map_cons, List.map_nil, if_true, if_false, Bool.false_eq_true, Bool.not_true, Bool.not_false, Nat.zero_add, Nat.reduceAdd, Int.reduceEq, decide_true, decide_false, Int.cast_ofNat_Int, ne_eq, not_true_eq_false, not_false_eq_true, Bool.not_eq_true, Bool.true_eq_false, Int.reduceNeg, e20, a1, bin_mod (i := o) (show (0 : Int) < 9 by decide), bin_mod (i := o) q2, bin_mod (i := c) (show (0 : Int) < 4 by decide), bin_div (i := c) (show (0 : Int) < 16 by decide) (by decide +kernel), bin_mod (i := c / 16) (show (0 : Int) < 9 by decide), bin_mod (i := c / 16) q1, bin_div (i := c) (show (0 : Int) < 4 by decide) (by decide +kernel), bin_mod (i := c / 4) (show (0 : Int) < 3 by decide),
    bin_div (i := c) q1 dd, bin_mod (i := c / 10 ^ 20) (show (0 : Int) < 50 by decide), bin_div (i := c) (show (0 : Int) < 12 by decide) (by decide +kernel), bin_mod (i := c / 12) (show (0 : Int) < 2 by decide), ht, hb, hy, bin_mul m1, bin_mul m2, sl 4 (by decide), sl 3 (by decide), sl 2 (by decide)]
  rfl
theorem gd_dvd (t b : Int) : gd t b ∣ t := by
  have h : gd t b ∣ ab t := Int.gcd_dvd_left _ _
  unfold ab at h
  split at h
  · exact (Int.dvd_neg).mp h
  · exact h
theorem gd_mul {g N M : Int} (hg : 0 < g) : gd (g * N) (g * M) = g * gd N M := by
  have e : ab (g * N) = g * ab N := by
    unfold ab
    by_cases h : N < 0
    · rw [if_pos h, if_pos (Int.mul_neg_of_pos_of_neg hg h), Int.mul_neg]
    · rw [if_neg h, if_neg (by have := Int.mul_nonneg (Int.le_of_lt hg) (Int.not_lt.mp h); omega)]
  unfold gd
  rw [e, Int.gcd_mul_left, Int.natCast_mul]
  congr 1
  omega
theorem low_mul {g N M : Int} (hg : 0 < g) : (g * N) / gd (g * N) (g * M) = N / gd N M ∧ (g * M) / gd (g * N) (g * M) = M / gd N M := by
  rw [gd_mul hg]
  exact ⟨Int.mul_ediv_mul_of_pos _ _ hg, Int.mul_ediv_mul_of_pos _ _ hg⟩
theorem lin1 {g p q t b t' b' : Int} (et : t = g * t') (eb : b = g * b') : p * b + t * q = g * (p * b' + t' * q) := by
  subst et eb
  rw [Int.mul_add, Int.mul_left_comm p, Int.mul_assoc]
theorem lin2 {g p q t b t' b' : Int} (et : t = g * t') (eb : b = g * b') : p * b - t * q = g * (p * b' - t' * q) := by
  subst et eb
  rw [Int.mul_sub, Int.mul_left_comm p, Int.mul_assoc]
structure Inv (ns : List Int) (env : En) (M : Mem) : Prop where
  e : ∃ (p q : Int) (o2 o3 o4 o5 o6 o7 o8 : Option D), env = [some (.scr ns), some (.tup [.int p, .int q]), o2, o3, o4, o5, o6, o7, o8] ∧ 0 < q ∧ p.natAbs < 2 ^ 100 ∧ q.natAbs < 2 ^ 100
  m : M = []
theorem step (ns : List Int) (k : Nat) (env : En) (M : Mem) (h : Inv ns env M) : ∃ env' env'' M', bindT M [2] (.int (k : Nat)) env = some env' ∧ exs G_law 0 c_law_0 env' M = some (.ok M' (.nx env'')) ∧ Inv ns env'' M' := by
  obtain ⟨⟨p, q, o2, o3, o4, o5, o6, o7, o8, rfl, hq, bp, bq⟩, rfl⟩ := h
  obtain ⟨c, c0, c1, ec⟩ := e_mixed' ns (2 * k) (by omega)
  obtain ⟨o, h0, h1, eo⟩ := e_mixed' ns (2 * k + 1) (by omega)
  obtain ⟨t, b, hb, bt, bb, ep⟩ := e_pair c o c0 c1 h0
  have hg := gd_pos (t := t) hb
  obtain ⟨t', et⟩ := gd_dvd t b
  obtain ⟨b', eb⟩ : gd t b ∣ b := Int.gcd_dvd_right _ _
  have et2 : t / gd t b = t' := Int.ediv_eq_of_eq_mul_right (by omega) et
  have eb2 : b / gd t b = b' := Int.ediv_eq_of_eq_mul_right (by omega) eb
  have hb' : 0 < b' := by
    rcases Int.lt_trichotomy b' 0 with z | z | z
    · have := Int.mul_neg_of_pos_of_neg hg z; omega
    · rw [z, Int.mul_zero] at eb; omega
    · exact z
  have bnd : ∀ x y : Int, x = gd t b * y → x.natAbs < 2 ^ 100 → y.natAbs < 2 ^ 100 := fun x y e hx => by
    rw [e, Int.natAbs_mul] at hx
    have : 1 * y.natAbs ≤ (gd t b).natAbs * y.natAbs := Nat.mul_le_mul_right _ (by omega)
    omega
  have bt' := bnd t t' et bt
  have bb' := bnd b b' eb bb
  have k1 : ∀ {x : Int}, x.natAbs < 2 ^ 100 → x.natAbs < 2 ^ 1000 := fun h => by omega
  have k4 : ∀ {x : Int}, x.natAbs < 2 ^ 100 → x.natAbs < 2 ^ 4000 := fun h => by omega
  have ef := e_fraction t b hb (k4 bb)
  have el := e_lowest t b hb (k4 bb)
  rw [et2, eb2] at ef el
  have hqb : 0 < q * b := Int.mul_pos hq hb
  have e1 := e_lowest (p * b + t * q) (q * b) hqb (prod (k1 bq) (k1 bb))
  have e2 := e_lowest (p * b - t * q) (q * b) hqb (prod (k1 bq) (k1 bb))
  have e3 := (e_plus hq hb' (k1 bp) (k1 bq) (k1 bt') (k1 bb')).trans (e_fraction _ _ (Int.mul_pos hq hb') (prod (k1 bq) (k1 bb')))
  have e4 := (e_minus hq hb' (k1 bp) (k1 bq) (k1 bt') (k1 bb')).trans (e_fraction _ _ (Int.mul_pos hq hb') (prod (k1 bq) (k1 bb')))
  have e5 := e_less hq hb' (k1 bp) (k1 bq) (k1 bt') (k1 bb')
  have n1 := lin1 (p := p) (q := q) et eb
  have n2 := lin2 (p := p) (q := q) et eb
  have n3 : q * b = gd t b * (q * b') := by
    conv => lhs; rw [eb]
    rw [Int.mul_left_comm q]
  have l1 := low_mul (g := gd t b) (N := p * b' + t' * q) (M := q * b') hg
  have l2 := low_mul (g := gd t b) (N := p * b' - t' * q) (M := q * b') hg
  rw [← n1, ← n3] at l1
  rw [← n2, ← n3] at l2
  rw [l1.1, l1.2] at e1
  rw [l2.1, l2.2] at e2
  have e6 : (p * b < t * q) = (p * b' < t' * q) := by
    apply propext
    have : p * b - t * q < 0 ↔ p * b' - t' * q < 0 := by
      rw [n2]
      constructor
      · intro h
        rcases Int.lt_or_le (p * b' - t' * q) 0 with z | z
        · exact z
        · have := Int.mul_nonneg (Int.le_of_lt hg) z; omega
      · exact fun h => Int.mul_neg_of_pos_of_neg hg h
    omega
  generalize hx1 : (p * b' + t' * q) / gd (p * b' + t' * q) (q * b') = x1 at e1 e3
  generalize hx2 : q * b' / gd (p * b' + t' * q) (q * b') = x2 at e1 e3
  generalize hx3 : (p * b' - t' * q) / gd (p * b' - t' * q) (q * b') = x3 at e2 e4
  generalize hx4 : q * b' / gd (p * b' - t' * q) (q * b') = x4 at e2 e4
  have m0 : mulB 2 (k : Int) = true := mulB_l (by decide) (by decide)
  have m1 := mulB_small (k4 bp) (k4 bb)
  have m2 := mulB_small (k4 bt) (k4 bq)
  have m3 := mulB_small (k4 bq) (k4 bb)
  have s7 : ∀ M, callR (G_law.f 7) M [.scr ns, .int (2 * (k : Int))] = _ := fun M => call_c rfl ec
  have s7' : ∀ M, callR (G_law.f 7) M [.scr ns, .int (2 * (k : Int) + 1)] = _ := fun M => call_c rfl eo
  have s6 : ∀ M, callR (G_law.f 6) M [.int c, .int o] = _ := fun M => call_c rfl ep
  have s5 : ∀ M, callR (G_law.f 5) M [.int t, .int b] = _ := fun M => call_c rfl ef
  have s4 : ∀ M, callR (G_law.f 4) M [.int t, .int b] = _ := fun M => call_c rfl el
  have s41 : ∀ M, callR (G_law.f 4) M [.int (p * b + t * q), .int (q * b)] = _ := fun M => call_c rfl e1
  have s42 : ∀ M, callR (G_law.f 4) M [.int (p * b - t * q), .int (q * b)] = _ := fun M => call_c rfl e2
  have s1 : ∀ M i j, callR (G_law.f 1) M [.tup [.int i, .int j], .tup [.int i, .int j]] = _ := fun M i j => call_c rfl (e_is i j)
  have s3 : ∀ M, callR (G_law.f 3) M [.tup [.int p, .int q], .tup [.int t', .int b']] = _ := fun M => call_c rfl e3
  have s2 : ∀ M, callR (G_law.f 2) M [.tup [.int p, .int q], .tup [.int t', .int b']] = _ := fun M => call_c rfl e4
  have s0 : ∀ M, callR (G_law.f 0) M [.tup [.int p, .int q], .tup [.int t', .int b']] = _ := fun M => call_c rfl e5
  refine ⟨_, _, [], rfl, ?_, ⟨⟨t', b', some (.int (k : Nat)), some (.int t), some (.int b), some (.tup [.int t', .int b']), some (.tup [.int x1, .int x2]), some (.tup [.int x3, .int x4]), some (.bl (decide (p * b' < t' * q))), rfl, hb', bt', bb'⟩, rfl⟩⟩
  unfold c_law_0
  have kb : kitB "bool" Ty.bool.name = some true := rfl
  simp only [exs, ex, ev, evs, evP, evA, evO, evTA, evTO, iv, tst_f, tst_bl, varR, notR, negR, obind_ok, obind_ex, List.getElem?_cons_zero, List.getElem?_cons_succ, see_non, see_bl, see_int, see_str, see_tup, see_lst, see_dic, see_dct, see_ins, see_scr, fin_v, fin_t, fin_nl, fin_nc, bin_add, bin_sub, cmp_lt, cmp_le, cmp_gt, cmp_ge, cmp_eq, cmp_ne, eqD_int, eqD_bl, eqD_str, ixd_tup, ixd_lst, ixd_scr, at1_0, at1_m, at2_0, at2_1, at2_m, at3_0, at3_1, at3_2, at3_m, at4_0, at4_1, at4_2, at4_3, at4_m, at5_0, at5_1, at5_2, at5_3, at5_4, at5_m, at6_0, at6_1, at6_2, at6_3, at6_4, at6_5, at6_m, bind1, bind2, bind3, List.set_cons_zero, List.set_cons_succ, Option.map_some, len_tup, len_lst, len_scr, bi_abs, bi_max, bi_min, isi_int, isi_bl, isi_tup, isi_lst, isi_str, isi_non, resO, List.length_cons, List.length_nil, List.map_cons, List.map_nil, if_true, if_false, Bool.false_eq_true, Bool.not_true, Bool.not_false, Nat.zero_add, Nat.reduceAdd, Int.reduceEq, decide_true, decide_false, Int.cast_ofNat_Int, ne_eq, not_true_eq_false, not_false_eq_true, Bool.not_eq_true, Bool.true_eq_false, Int.reduceNeg, bin_mul m0, bin_mul m1, bin_mul m2, bin_mul m3, s7, s7', s6, s5, s4, s41, s42, s1, s2, s3, s0, kb, e6]
theorem law_true (ns : List Int) (_ : ns.length ≤ 63) (_ : ∀ z ∈ ns, Builtin.Int.intBits z ≤ 1048576) : g_law [.scr ns] = some (.ret (.bl true)) := by
  show resF (exs G_law 0 c_law [some (.scr ns), none, none, none, none, none, none, none, none] []) = _
  unfold c_law
  have sl : ∀ n, n ≤ 10 → (n ≤ sizeLine) = True := fun n h => eq_true (Nat.le_trans h (by decide))
  have bd : -(2 ^ 62 : Int) ≤ (if (if (ns.length : Int) / 2 < 30 then (ns.length : Int) / 2 else 30) > 1 then (if (ns.length : Int) / 2 < 30 then (ns.length : Int) / 2 else 30) else 1) ∧ (if (if (ns.length : Int) / 2 < 30 then (ns.length : Int) / 2 else 30) > 1 then (if (ns.length : Int) / 2 < 30 then (ns.length : Int) / 2 else 30) else 1) < (2 ^ 62 : Int) := by
    repeat' split
    all_goals omega
  simp only [exs, ex, ev, evs, evP, evA, evO, evTA, evTO, iv, tst_f, tst_bl, varR, notR, negR, obind_ok, obind_ex, List.getElem?_cons_zero, List.getElem?_cons_succ, see_non, see_bl, see_int, see_str, see_tup, see_lst, see_dic, see_dct, see_ins, see_scr, fin_v, fin_t, fin_nl, fin_nc, bin_add, bin_sub, cmp_lt, cmp_le, cmp_gt, cmp_ge, cmp_eq, cmp_ne, eqD_int, eqD_bl, eqD_str, ixd_tup, ixd_lst, ixd_scr, at1_0, at1_m, at2_0, at2_1, at2_m, at3_0, at3_1, at3_2, at3_m, at4_0, at4_1, at4_2, at4_3, at4_m, at5_0, at5_1, at5_2, at5_3, at5_4, at5_m, at6_0, at6_1, at6_2, at6_3, at6_4, at6_5, at6_m, bind1, bind2, bind3, List.set_cons_zero, List.set_cons_succ, Option.map_some, len_tup, len_lst, len_scr, bi_abs, bi_max, bi_min, isi_int, isi_bl, isi_tup, isi_lst, isi_str, isi_non, resO, List.length_cons, List.length_nil, List.map_cons, List.map_nil, if_true, if_false, Bool.false_eq_true, Bool.not_true, Bool.not_false, Nat.zero_add, Nat.reduceAdd, Int.reduceEq, decide_true, decide_false, Int.cast_ofNat_Int, ne_eq, not_true_eq_false, not_false_eq_true, Bool.not_eq_true, Bool.true_eq_false, Int.reduceNeg, sl 2 (by decide), bin_div (i := (ns.length : Int)) (show (0 : Int) < 2 by decide) (by decide +kernel), if_pos bd]
  generalize (if (if (ns.length : Int) / 2 < 30 then (ns.length : Int) / 2 else 30) > 1 then (if (ns.length : Int) / 2 < 30 then (ns.length : Int) / 2 else 30) else 1).toNat = m
  obtain ⟨env, M, e, iv⟩ := floop_inv (t := [2]) (b := fun e M => exs G_law 0 c_law_0 e M) (Inv ns) (ds := (List.range m).map fun k => D.int (k : Nat)) (fun d hd env M h => by
    obtain ⟨k, _, rfl⟩ := List.mem_map.mp hd
    exact step ns k env M h) (env := [some (.scr ns), some (.tup [.int 0, .int 1]), none, none, none, none, none, none, none]) (M := []) ⟨⟨0, 1, none, none, none, none, none, none, none, rfl, by decide, by decide, by decide⟩, rfl⟩
  simp only [e, exs, ex, ev, evs, evP, evA, evO, evTA, evTO, iv, tst_f, tst_bl, varR, notR, negR, obind_ok, obind_ex, List.getElem?_cons_zero, List.getElem?_cons_succ, see_non, see_bl, see_int, see_str, see_tup, see_lst, see_dic, see_dct, see_ins, see_scr, fin_v, fin_t, fin_nl, fin_nc, bin_add, bin_sub, cmp_lt, cmp_le, cmp_gt, cmp_ge, cmp_eq, cmp_ne, eqD_int, eqD_bl, eqD_str, ixd_tup, ixd_lst, ixd_scr, at1_0, at1_m, at2_0, at2_1, at2_m, at3_0, at3_1, at3_2, at3_m, at4_0, at4_1, at4_2, at4_3, at4_m, at5_0, at5_1, at5_2, at5_3, at5_4, at5_m, at6_0, at6_1, at6_2, at6_3, at6_4, at6_5, at6_m, bind1, bind2, bind3, List.set_cons_zero, List.set_cons_succ, Option.map_some, len_tup, len_lst, len_scr, bi_abs, bi_max, bi_min, isi_int, isi_bl, isi_tup, isi_lst, isi_str, isi_non, resO, List.length_cons, List.length_nil, List.map_cons, List.map_nil, if_true, if_false, Bool.false_eq_true, Bool.not_true, Bool.not_false, Nat.zero_add, Nat.reduceAdd, Int.reduceEq, decide_true, decide_false, Int.cast_ofNat_Int, ne_eq, not_true_eq_false, not_false_eq_true, Bool.not_eq_true, Bool.true_eq_false, Int.reduceNeg]
  rfl
end K71

set_option Elab.async false
set_option linter.all false
set_option maxRecDepth 100000
set_option maxHeartbeats 0
namespace K71
open PySem PySem.Spec PyProof.Rows L2 Mn
abbrev R : PySem.W.OpenRow := PySem.W.OpenLaw.row PySem.Challenge.rw_dykemoot_k71_fractions
abbrev hk : PySem.W.Hook := He.hookD 4 fa fn
def ob (s : PySem.W.SharedT) : He.AlD := He.obsDG 4 fa fn (HandSHeadRun.getT s)
theorem ob_eq (s : PySem.W.SharedT) : ob s = hk.obs s.abs := He.obsDG_eq (HandSHeadRun.getT_eq s)
abbrev loose : List PySem.Str := (["__name__", "divisor", "fraction", "plus", "minus", "less", "_law_mixed", "_law_divisor", "_law_lowest", "_law_whole", "_law_is_share", "_law_pair"] : List PySem.Str)
theorem run (w : World) : HandSHeadRun.RunEq R (PySem.W.view R.prog [13]) hk ob 2000 loose w := by
  intro os
  kernel_rfl
end K71
open PySem PySem.W PySem.Calls PyProof.Rows
theorem PySem.Challenge.cw_dykemoot_k71_fractions_holds : PySem.Challenge.rw_dykemoot_k71_fractions.Holds := by
  w_on; o_law
  refine HandSHeadRun.head_any (r := OpenLaw.row PySem.Challenge.rw_dykemoot_k71_fractions) (q := view (OpenLaw.row PySem.Challenge.rw_dykemoot_k71_fractions).prog [13]) (H := K71.hk) (ob := K71.ob) (M := 2000) (loose := K71.loose) (d := HandSHeadRun.topDef (OpenLaw.row PySem.Challenge.rw_dykemoot_k71_fractions).prog 13) (kwd := []) K71.ob_eq
    (by kernel_rfl) (fun s => by kernel_rfl) K71.run (by kernel_rfl) (by kernel_rfl) (by kernel_rfl) (by rfl) (by first | assumption | decide +kernel) (by decide +kernel) ⟨rfl, rfl, rfl, rfl, rfl, by decide +kernel⟩ ?hw ?hc
  case hw => w_witness2
  case hc =>
    refine Mn.law_walk (l := PySem.Challenge.rw_dykemoot_k71_fractions) (n := 63) (k := 3) (m := 4) (x := "_law_script") (γ := K71.g_law) (G := K71.G_law) (cs := K71.c_law) (ck := K71.k_law) (CN := K71.CN) K71.d_law rfl (by decide) (by kernel_rfl) ⟨rfl, by decide, by decide⟩ (Mn.mem_at 11 rfl) (by kernel_rfl) rfl (Mn.mem_at 11 rfl) rfl rfl
      K71.s_law K71.h_law rfl K71.b_law (fun w K mg base Y => K71.t_law Y) K71.r_law K71.law_true
